/-
  Texts of the walk, joined: what each one proves stands at its theorems.
-/
import Derived.Test.YtenfajgpdhgknaaGreatDoorS06HELD
import Derived.Shelf.LaysM
import Derived.Shelf.LaysC
import Derived.Shelf.Strconv.Itoa3
import Derived.Shelf.Strconv.AtoiAll
import Derived.Shelf.Strconv.ErrVarAll
import Derived.Shelf.Small.Wraps
import Derived.Shelf.Strings.Prefix
import Derived.Shelf.Hex.More
import Derived.Shelf.Hex.DecodeOwns
import Derived.Test.YtenfajgpdhgknaaGreatDoorProg
import Derived.Lib.SmallJoins
set_option linter.unusedSimpArgs false
set_option linter.unusedVariables false
set_option linter.unnecessarySimpa false
namespace Go.Proofs.YtenfajgpdhgknaaGreatDoor
open Go Go.RowKit
attribute [local irreducible] JL JC JQ JO LO PO JA JX Ct

theorem run_ov {tS tR : TypeId} {f : FuncId} {fn : Func} {P : Program} (hf : P.funcs[f]? = some fn) (hname : (fn.name == "runtime.NumGoroutine") = false) (hb : fn.body.isNone = true) (hn : Extern.findNext fn = none)
    (he : Extern.find fn = some (Extern.SlicesOverlaps.overlaps #[tS, tS] #[tR])) : ∀ args w, (callFunc f args).run P w = ((Extern.SlicesOverlaps.overlaps #[tS, tS] #[tR] args).run P w).andThen fun v w' => .ok (.value v) w' :=
  fun args w => run_callFunc_extern hf hname hb hn he args w

theorem C_cloneC (a : Option Addr) (c : Nat) (s : List Cell) (hn : s.length ≤ 1000000000000) :
    Ct Tryz.prog 237 [.slice a s.length c] [] (fun w_ => Sees w_ (.slice a s.length c) 2 s.length (s.flatMap encC)) (fun v A' => ∃ a' c', v = .slice a' s.length c' ∧ A' = [.row (.slice a' s.length c') 113 2 s.length (s.flatMap encC)]) := by
  refine Ct.intro Tryz.func237 rfl Tryz.ntmps237 (Nat.le_of_ble_eq_true rfl) fun w0 hpre => ?_
  have hs_a : Sees w0 _ _ _ _ := hpre
  refine JC.seq ?_
  refine JC.region ?_
  refine JL.pure rfl (PO.assign (v := .slice none 0 0) rfl) ?_
  refine JL.nil ?_
  refine JQ.seq ?_
  refine JC.seq ?_
  refine JC.seq ?_
  refine JC.region ?_
  refine JL.pure rfl (PO.move (v := .slice a s.length c) rfl) ?_
  refine JL.pure rfl (PO.eqNil Tryz.underlying29 rfl rfl) ?_
  refine JL.nil ?_
  refine JQ.seq ?_
  rcases Bool.eq_false_or_eq_true (a.isNone) with h_1 | h_1
  · skip
    refine JC.condT (congrArg Value.bool h_1) ?_
    refine JC.seq ?_
    refine JC.region ?_
    refine JL.pure rfl (PO.assign (v := .slice none 0 0) rfl) ?_
    refine JL.nil ?_
    refine JQ.seq ?_
    refine JC.ret ?_
    refine JQ.thenRet ?_
    refine JQ.nilrow 113 2 ?_
    refine Done.one (.inl rfl) rfl (RV.tmp (v := .slice none 0 0) rfl) (List.Sublist.refl _) ?_
    have ha : a = none := by simpa using h_1
    have hz : s.length = 0 := sees_none (ha ▸ hpre)
    have hs0 : s = [] := List.length_eq_zero_iff.1 hz
    subst hs0
    exact ⟨none, 0, rfl, rfl⟩
  · skip
    refine JC.condF (congrArg Value.bool h_1) ?_
    refine JC.skip ?_
    refine JQ.seq ?_
    refine JC.seq ?_
    refine JC.region ?_
    refine JL.op rfl (JO.buildSlice (ps := []) (cur := #[]) Tryz.underlying29 Tryz.sizeOf113 Tryz.zeroValue113 rfl (by kernel_rfl) (by decide) (by decide)) ?_
    rintro _ _ ⟨a_2, rfl, rfl⟩
    refine JL.pure rfl (PO.move (v := .slice a s.length c) rfl) ?_
    refine JL.op rfl (JO.append' 0 (q := s.length) (news := s.flatMap encC) (n' := s.length) (cs' := s.flatMap encC) rfl Tryz.underlying29 Tryz.underlying29 Tryz.typeInfo113 rfl (by' := 32) rfl rfl rfl rfl rfl (fun w hw => Src.sees (hw.seeOut_ hs_a (fun _ _ => List.not_mem_nil)) (oneC _)) (by (try simp only [List.length_append, List.length_cons, List.length_nil, List.length_take, List.length_drop]); omega) (by (try simp only [List.length_append, List.length_cons, List.length_nil, List.length_take, List.length_drop]); omega) (by (try simp only [List.length_take, List.length_drop]); first | rfl | omega) rfl) ?_
    rintro _ _ ⟨a_3, c_4, rfl, rfl⟩
    refine JL.pure rfl (PO.assign (v := .slice a_3 s.length c_4) rfl) ?_
    refine JL.nil ?_
    refine JQ.seq ?_
    refine JC.ret ?_
    refine Done.one (.inl rfl) rfl (RV.tmp (v := .slice a_3 s.length c_4) rfl) (List.Sublist.refl _) ?_
    exact ⟨_, _, rfl, rfl⟩

theorem C_idxC (fp : FuncId) (hcf : ∀ args w, (callFunc fp args).run Tryz.prog w = .ok (.enter fp args) w) (kb : Nat) (key : Str) (p : Cell → Bool) (hp : ∀ x : Cell, Ct Tryz.prog fp [.agg #[str x.1, str x.2], .pointer (some ⟨kb, 0, none⟩)] [bk kb 9 [str key]] (fun _ => True) (fun v A' => v = .bool (p x) ∧ A' = [bk kb 9 [str key]])) (a : Option Addr) (c : Nat) (s : List Cell) (hn : s.length ≤ 1000000000000) :
    Ct Tryz.prog 291 [.slice a s.length c, .func (.func fp) #[] #[.pointer (some ⟨kb, 0, none⟩)]] [bk kb 9 [str key]] (fun w_ => Sees w_ (.slice a s.length c) 2 s.length (s.flatMap encC) ∧ (∀ b, (Value.slice a s.length c).ownBlock = some b → b ≠ kb)) (fun v A' => v = .int .i64 (idxI p s) ∧ A' = [bk kb 9 [str key]]) := by
  refine Ct.intro Tryz.func291 rfl Tryz.ntmps291 (Nat.le_of_ble_eq_true rfl) fun w0 hpre => ?_
  have hs_a : Sees w0 _ _ _ _ := hpre.1
  refine JC.seq ?_
  refine JC.region ?_
  refine JL.pure rfl (PO.assign (v := .int .i64 0) rfl) ?_
  refine JL.nil ?_
  refine JQ.seq ?_
  refine JC.seq ?_
  refine JC.seq ?_
  refine JC.region ?_
  refine JL.pure rfl (PO.move (v := .slice a s.length c) rfl) ?_
  refine JL.pure rfl (PO.lenV Tryz.underlying29 rfl) ?_
  refine JL.pure rfl (PO.move (v := .int .i64 0) rfl) ?_
  refine JL.nil ?_
  refine JQ.seq ?_
  refine JC.block ?_
  refine JC.loop (fun k_ e_ L_ => ∃ j : Nat, (j ≤ s.length) ∧ (∀ i, i < j → p (s.getD i c0) = false) ∧ e_ 0 = .slice a s.length c ∧ e_ 1 = .func (.func fp) #[] #[.pointer (some ⟨kb, 0, none⟩)] ∧ e_ 7 = .int .i64 ((s.length : Nat) : Int) ∧ e_ 8 = .int .i64 ((j : Nat) : Int) ∧ L_ = [bk kb 9 [str key]] ∧ k_ = s.length - j) _ ⟨0, by omega, (fun i hi => absurd hi (Nat.not_lt_zero i)), rfl, rfl, rfl, rfl, rfl, rfl⟩ ?_
  rintro _ e_1 _ ⟨j, hj, hN, he_2, he_3, he_4, he_5, rfl, rfl⟩
  refine JC.seq ?_
  refine JC.region ?_
  refine JL.pure rfl (PO.lss he_5 he_4) ?_
  refine JL.nil ?_
  refine JQ.seq ?_
  refine JC.seq ?_
  by_cases h_6 : ((j : Nat) : Int) < ((s.length : Nat) : Int)
  · skip
    have hlt : j < s.length := by omega
    refine JC.condT (congrArg Value.bool (decide_eq_true h_6)) ?_
    refine JC.skip ?_
    refine JQ.seq ?_
    refine JC.seq ?_
    refine JC.block ?_
    refine JC.seq ?_
    refine JC.region ?_
    refine JL.pure rfl (PO.move (v := .int .i64 ((j : Nat) : Int)) he_5) ?_
    refine JL.pure rfl (PO.assign (v := .int .i64 ((j : Nat) : Int)) rfl) ?_
    refine JL.nil ?_
    refine JQ.seq ?_
    refine JC.seq ?_
    refine JC.region ?_
    refine JL.pure rfl (PO.move (v := .func (.func fp) #[] #[.pointer (some ⟨kb, 0, none⟩)]) he_3) ?_
    refine JL.pure rfl (PO.move (v := .slice a s.length c) he_2) ?_
    refine JL.pure rfl (PO.move (v := .int .i64 ((j : Nat) : Int)) rfl) ?_
    obtain ⟨hr_7, hr_7b, -⟩ := sees_some hs_a (by omega)
    refine JL.pure rfl (PO.indexAddrV (i := j) Tryz.underlying29 Tryz.sizeOf113 hr_7 hr_7b rfl rfl (by omega)) ?_
    refine JL.ld rfl (LO.loadSK (vs := [str ((s.getD j c0).1), str ((s.getD j c0).2)]) hs_a (notin_bk hpre.2) rfl Tryz.isAgg113 Tryz.sizeOf113 (atC (by omega)) rfl (by decide)) ?_
    refine JL.op rfl (JO.callV [0] hcf rfl (hp (s.getD j c0)) rfl rfl (fun _ _ => trivial)) ?_
    rintro _ _ ⟨_, ⟨rfl, rfl⟩, rfl⟩
    refine JL.nil ?_
    refine JQ.seq ?_
    rcases Bool.eq_false_or_eq_true (p (s.getD j c0)) with h_8 | h_8
    · skip
      have hpj := h_8
      refine JC.condT (congrArg Value.bool h_8) ?_
      refine JC.seq ?_
      refine JC.region ?_
      refine JL.pure rfl (PO.move (v := .int .i64 ((j : Nat) : Int)) rfl) ?_
      refine JL.pure rfl (PO.assign (v := .int .i64 ((j : Nat) : Int)) rfl) ?_
      refine JL.nil ?_
      refine JQ.seq ?_
      refine JC.ret ?_
      refine JQ.blockRet ?_
      refine JQ.thenRet ?_
      refine JQ.thenRet ?_
      refine JQ.blockRet ?_
      refine JQ.thenRet ?_
      refine Done.one (.inl rfl) rfl (RV.tmp (v := .int .i64 ((j : Nat) : Int)) rfl) (List.Sublist.refl _) ?_
      refine ⟨?_, rfl⟩
      rw [idxI_found c0 hlt hN hpj]
    · skip
      have hpj := h_8
      refine JC.condF (congrArg Value.bool h_8) ?_
      refine JC.skip ?_
      refine JQ.blockN ?_
      refine JQ.seq ?_
      refine JC.region ?_
      refine JL.pure rfl (PO.add (c := ((j + 1 : Nat) : Int)) he_5 rfl (wr (by omega))) ?_
      refine JL.pure rfl (PO.move (v := .int .i64 ((j + 1 : Nat) : Int)) rfl) ?_
      refine JL.nil ?_
      refine JQ.again (s.length - (j + 1)) (by omega) ⟨j + 1, by omega, (fun i hi => if h : i = j then h ▸ hpj else hN i (by omega)), he_2, he_3, he_4, rfl, rfl, rfl⟩
  · skip
    refine JC.condF (congrArg Value.bool (decide_eq_false h_6)) ?_
    refine JC.exit ?_
    refine JQ.thenExit ?_
    refine JQ.thenExit ?_
    refine JQ.blockE ?_
    refine JQ.seq ?_
    refine JC.seq ?_
    refine JC.region ?_
    refine JL.pure rfl (PO.assign (v := .int .i64 (-1)) rfl) ?_
    refine JL.nil ?_
    refine JQ.seq ?_
    refine JC.ret ?_
    refine Done.one (.inl rfl) rfl (RV.tmp (v := .int .i64 (-1)) rfl) (List.Sublist.refl _) ?_
    refine ⟨?_, rfl⟩
    rw [idxI_none c0 (by omega) hN]

theorem C_insC (a va : Option Addr) (c : Nat) (s : List Cell) (i : Nat) (x : Cell) (hi : i ≤ s.length) (hn : s.length ≤ 1000000000000) (hcl : (s.flatMap encC).length = s.length * 2) :
    Ct Tryz.prog 303 [.slice a s.length c, .int .i64 ((i : Nat) : Int), .slice va 1 1] [Res.row (.slice a s.length c) 113 2 s.length (s.flatMap encC), Res.row (.slice va 1 1) 113 2 1 ([x].flatMap encC)] (fun _ => True) (fun v A' => ∃ a' c', v = .slice a' (insertAt i x s).length c' ∧ A' = [.row (.slice a' (insertAt i x s).length c') 113 2 (insertAt i x s).length ((insertAt i x s).flatMap encC)]) := by
  refine Ct.intro Tryz.func303 rfl Tryz.ntmps303 (Nat.le_of_ble_eq_true rfl) fun w0 hpre => ?_
  refine JC.seq ?_
  refine JC.region ?_
  refine JL.pure rfl (PO.assign (v := .slice none 0 0) rfl) ?_
  refine JL.nil ?_
  refine JQ.seq ?_
  refine JC.seq ?_
  refine JC.region ?_
  refine JL.pure rfl (PO.move (v := .slice a s.length c) rfl) ?_
  refine JL.pure rfl (PO.move (v := .int .i64 ((i : Nat) : Int)) rfl) ?_
  refine JL.facts fun hst => ?_
  obtain ⟨hf_1m, hf_1x, hf_1s, hf_1l⟩ := fits_of hst (i := 0) rfl
  refine JL.pure rfl (PO.sliceVl (i := i) Tryz.underlying29 Tryz.sizeOf113 hf_1s rfl rfl (by omega)) ?_
  refine JL.nil ?_
  refine JQ.seq ?_
  refine JC.seq ?_
  refine JC.region ?_
  refine JL.pure rfl (PO.move (v := .slice va 1 1) rfl) ?_
  refine JL.pure rfl (PO.lenV Tryz.underlying29 rfl) ?_
  refine JL.pure rfl (PO.assign (v := .int .i64 ((1 : Nat) : Int)) rfl) ?_
  refine JL.nil ?_
  refine JQ.seq ?_
  refine JC.seq ?_
  refine JC.seq ?_
  refine JC.region ?_
  refine JL.pure rfl (PO.move (v := .int .i64 ((1 : Nat) : Int)) rfl) ?_
  refine JL.pure rfl (PO.eqlI rfl rfl) ?_
  refine JL.nil ?_
  refine JQ.seq ?_
  by_cases h_2 : ((1 : Nat) : Int) = 0
  · skip
    exfalso; omega
  · skip
    refine JC.condF (congrArg Value.bool (decide_eq_false h_2)) ?_
    refine JC.skip ?_
    refine JQ.seq ?_
    refine JC.seq ?_
    refine JC.region ?_
    refine JL.pure rfl (PO.move (v := .slice a s.length c) rfl) ?_
    refine JL.pure rfl (PO.lenV Tryz.underlying29 rfl) ?_
    refine JL.pure rfl (PO.assign (v := .int .i64 ((s.length : Nat) : Int)) rfl) ?_
    refine JL.nil ?_
    refine JQ.seq ?_
    refine JC.seq ?_
    refine JC.seq ?_
    refine JC.region ?_
    refine JL.pure rfl (PO.move (v := .int .i64 ((i : Nat) : Int)) rfl) ?_
    refine JL.pure rfl (PO.move (v := .int .i64 ((s.length : Nat) : Int)) rfl) ?_
    refine JL.pure rfl (PO.eqlI rfl rfl) ?_
    refine JL.nil ?_
    refine JQ.seq ?_
    by_cases h_3 : ((i : Nat) : Int) = ((s.length : Nat) : Int)
    · skip
      refine JC.condT (congrArg Value.bool (decide_eq_true h_3)) ?_
      refine JC.seq ?_
      refine JC.region ?_
      refine JL.pure rfl (PO.move (v := .slice a s.length c) rfl) ?_
      refine JL.pure rfl (PO.move (v := .slice va 1 1) rfl) ?_
      refine JL.op rfl (JO.append' 0 (q := 1) (news := [x].flatMap encC) (n' := (s ++ [x]).length) (cs' := (s ++ [x]).flatMap encC) rfl Tryz.underlying29 Tryz.underlying29 Tryz.typeInfo113 rfl (by' := 32) rfl rfl rfl rfl rfl (fun w hw => Src.sees (hw.see (i := 1) rfl) (oneC _)) (by (try simp only [List.length_append, List.length_cons, List.length_nil, List.length_take, List.length_drop]); omega) (by (try simp only [List.length_append, List.length_cons, List.length_nil, List.length_take, List.length_drop]); omega) (by simp only [List.length_append, List.length_take, List.length_drop, List.length_cons, List.length_nil] <;> first | rfl | omega) (by simp only [List.flatMap_append])) ?_
      rintro _ _ ⟨a_4, c_5, rfl, rfl⟩
      refine JL.pure rfl (PO.assign (v := .slice a_4 ((s ++ [x]).length) c_5) rfl) ?_
      refine JL.nil ?_
      refine JQ.seq ?_
      refine JC.ret ?_
      refine JQ.thenRet ?_
      refine Done.one (.inl rfl) rfl (RV.tmp (v := .slice a_4 ((s ++ [x]).length) c_5) rfl) (List.sublist_append_left [Res.row (.slice a_4 ((s ++ [x]).length) c_5) 113 2 ((s ++ [x]).length) ((s ++ [x]).flatMap encC)] [Res.row (.slice va 1 1) 113 2 1 ([x].flatMap encC)]) ?_
      have hin : i = s.length := by omega
      exact ⟨_, _, by rw [ins_end hin], by rw [ins_end hin]⟩
    · skip
      refine JC.condF (congrArg Value.bool (decide_eq_false h_3)) ?_
      refine JC.skip ?_
      refine JQ.seq ?_
      refine JC.seq ?_
      refine JC.seq ?_
      refine JC.region ?_
      refine JL.pure rfl (PO.move (v := .int .i64 ((s.length : Nat) : Int)) rfl) ?_
      refine JL.pure rfl (PO.move (v := .int .i64 ((1 : Nat) : Int)) rfl) ?_
      refine JL.pure rfl (PO.add (c := ((s.length + 1 : Nat) : Int)) rfl rfl (wr (by omega))) ?_
      refine JL.pure rfl (PO.move (v := .slice a s.length c) rfl) ?_
      refine JL.pure rfl (PO.capV Tryz.underlying29 rfl) ?_
      refine JL.pure rfl (PO.gtr rfl rfl) ?_
      refine JL.nil ?_
      refine JQ.seq ?_
      by_cases h_6 : ((c : Nat) : Int) < ((s.length + 1 : Nat) : Int)
      · skip
        refine JC.condT (congrArg Value.bool (decide_eq_true h_6)) ?_
        refine JC.seq ?_
        refine JC.region ?_
        refine JL.pure rfl (PO.move (v := .slice a s.length c) rfl) ?_
        refine JL.pure rfl (PO.move (v := .int .i64 ((i : Nat) : Int)) rfl) ?_
        refine JL.pure rfl (PO.sliceVh (j := i) Tryz.underlying29 Tryz.sizeOf113 hf_1s rfl rfl (by omega)) ?_
        refine JL.pure rfl (PO.move (v := .int .i64 ((s.length : Nat) : Int)) rfl) ?_
        refine JL.pure rfl (PO.move (v := .int .i64 ((1 : Nat) : Int)) rfl) ?_
        refine JL.pure rfl (PO.add (c := ((s.length + 1 : Nat) : Int)) rfl rfl (wr (by omega))) ?_
        refine JL.pure rfl (PO.move (v := .int .i64 ((i : Nat) : Int)) rfl) ?_
        refine JL.pure rfl (PO.sub (c := ((s.length + 1 - i : Nat) : Int)) rfl rfl (wr (by omega))) ?_
        refine JL.op rfl (JO.appendMake' 0 (i := i) (r := s.length + 1 - i) (by' := 32) (n' := s.length + 1) rfl Tryz.underlying29 Tryz.underlying3 Tryz.typeInfo113 rfl (by decide) rfl rfl rfl rfl rfl (by omega) (by omega) (by omega) (by omega) (by decide) (by omega)) ?_
        rintro _ _ ⟨a_7, c_8, zs_9, rfl, hzs_9c, hzs_9, rfl⟩
        refine JL.pure rfl (PO.assign (v := .slice a_7 (s.length + 1) c_8) rfl) ?_
        refine JL.nil ?_
        refine JQ.seq ?_
        refine JC.seq ?_
        refine JC.region ?_
        refine JL.pure rfl (PO.move (v := .slice a_7 (s.length + 1) c_8) rfl) ?_
        refine JL.pure rfl (PO.move (v := .int .i64 ((i : Nat) : Int)) rfl) ?_
        refine JL.facts fun hst => ?_
        obtain ⟨hf_10m, hf_10x, hf_10s, hf_10l⟩ := fits_of hst (i := 0) rfl
        refine JL.pure rfl (PO.sliceVl (i := i) Tryz.underlying29 Tryz.sizeOf113 hf_10s rfl rfl (by omega)) ?_
        refine JL.pure rfl (PO.move (v := .slice va 1 1) rfl) ?_
        refine JL.op rfl (JO.copy 0 (k := 2) (lo := i) (q := 1) (news := [str x.1, str x.2]) (cs' := ((s.flatMap encC).take (i * 2) ++ zs_9).take (i * 2) ++ [str x.1, str x.2] ++ ((s.flatMap encC).take (i * 2) ++ zs_9).drop (i * 2 + [str x.1, str x.2].length)) rfl Tryz.underlying29 Tryz.sizeOf113 rfl rfl (by show min _ _ = _; omega) (by omega) (by omega) (by decide) (by omega) (fun w hw => Fst.sees (hw.see (i := 2) rfl) (Nat.le_refl _)) rfl (oneC [x]) (rfl)) ?_
        rintro _ _ rfl
        refine JL.nil ?_
        refine JQ.seq ?_
        refine JC.seq ?_
        refine JC.regionA [] 0 mixed (by simp) ?_
        refine JA.takeP 0 rfl (by kernel_rfl) (NP.th (NP.th NP.body)) (by kernel_rfl) (by kernel_rfl) rfl (PO.move (v := .slice a_7 (s.length + 1) c_8) rfl) ?_
        refine JA.takeP 1 rfl (by kernel_rfl) (NP.th (NP.th NP.body)) (by kernel_rfl) (by kernel_rfl) rfl (PO.move (v := .int .i64 ((i : Nat) : Int)) rfl) ?_
        refine JA.takeP 2 rfl (by kernel_rfl) (NP.th (NP.th NP.body)) (by kernel_rfl) (by kernel_rfl) rfl (PO.move (v := .int .i64 ((1 : Nat) : Int)) rfl) ?_
        refine JA.takeP 3 rfl (by kernel_rfl) (NP.th (NP.th NP.body)) (by kernel_rfl) (by kernel_rfl) rfl (PO.add (c := ((i + 1 : Nat) : Int)) rfl rfl (wr (by omega))) ?_
        refine JA.takeP 4 rfl (by kernel_rfl) (NP.th (NP.th NP.body)) (by kernel_rfl) (by kernel_rfl) rfl (PO.sliceVl (i := (i + 1)) Tryz.underlying29 Tryz.sizeOf113 hf_10s rfl rfl (by omega)) ?_
        refine JA.takeP 5 rfl (by kernel_rfl) (NP.th (NP.th NP.body)) (by kernel_rfl) (by kernel_rfl) rfl (PO.move (v := .slice a s.length c) rfl) ?_
        refine JA.takeP 6 rfl (by kernel_rfl) (NP.th (NP.th NP.body)) (by kernel_rfl) (by kernel_rfl) rfl (PO.move (v := .int .i64 ((i : Nat) : Int)) rfl) ?_
        refine JA.takeP 7 rfl (by kernel_rfl) (NP.th (NP.th NP.body)) (by kernel_rfl) (by kernel_rfl) rfl (PO.sliceVl (i := i) Tryz.underlying29 Tryz.sizeOf113 hf_1s rfl rfl (by omega)) ?_
        refine JA.one (i := 8) (by kernel_rfl) ?_
        refine JX.last rfl rfl (by decide) (by kernel_rfl) (JO.copy 0 (k := 2) (lo := (i + 1)) (q := s.length - i) (news := (s.flatMap encC).drop (i * 2)) (cs' := (insertAt i x s).flatMap encC) rfl Tryz.underlying29 Tryz.sizeOf113 rfl rfl (by show min _ _ = _; omega) (by omega) (by omega) (by decide) (by omega) (fun w hw => Fst.mid (hw.see (i := 1) rfl) (by omega) (by omega) (tail1 hcl)) (by rw [List.length_drop, hcl]; omega) (fun u hu => oneC s u (List.mem_of_mem_drop hu)) ((by rw [show (i + 1) * 2 = i * 2 + 2 by omega]; exact (ins_grow (k := 2) (by rw [hcl]; omega) (by rw [hcl]; omega) rfl).trans insC))) ?_
        rintro _ _ rfl
        refine JQ.seq ?_
        refine JC.seq ?_
        refine JC.region ?_
        refine JL.pure rfl (PO.move (v := .slice a_7 (s.length + 1) c_8) rfl) ?_
        refine JL.pure rfl (PO.assign (v := .slice a_7 (s.length + 1) c_8) rfl) ?_
        refine JL.nil ?_
        refine JQ.seq ?_
        refine JC.ret ?_
        refine JQ.thenRet ?_
        refine Done.one (.inl rfl) rfl (RV.tmp (v := .slice a_7 (s.length + 1) c_8) rfl) (List.sublist_append_left [Res.row (.slice a_7 (s.length + 1) c_8) 113 2 (s.length + 1) ((insertAt i x s).flatMap encC)] [Res.row (.slice a s.length c) 113 2 s.length (s.flatMap encC), Res.row (.slice va 1 1) 113 2 1 ([x].flatMap encC)]) ?_
        exact ⟨_, _, by rw [insertAt_length i x s hi], by rw [insertAt_length i x s hi]⟩
      · skip
        refine JC.condF (congrArg Value.bool (decide_eq_false h_6)) ?_
        refine JC.skip ?_
        refine JQ.seq ?_
        refine JC.seq ?_
        refine JC.region ?_
        refine JL.pure rfl (PO.move (v := .slice a s.length c) rfl) ?_
        refine JL.pure rfl (PO.move (v := .int .i64 ((s.length : Nat) : Int)) rfl) ?_
        refine JL.pure rfl (PO.move (v := .int .i64 ((1 : Nat) : Int)) rfl) ?_
        refine JL.pure rfl (PO.add (c := ((s.length + 1 : Nat) : Int)) rfl rfl (wr (by omega))) ?_
        refine JL.pure rfl (PO.sliceVh (j := (s.length + 1)) Tryz.underlying29 Tryz.sizeOf113 hf_1s rfl rfl (by omega)) ?_
        refine JL.pure rfl (PO.assign (v := .slice a (s.length + 1) c) rfl) ?_
        refine JL.nil ?_
        refine JQ.seq ?_
        refine JC.seq ?_
        refine JC.seq ?_
        refine JC.widen 0 1 (m := s.length) rfl (by omega) fun zs_11 hzs_11 => ?_
        refine JC.region ?_
        refine JL.pure rfl (PO.move (v := .slice va 1 1) rfl) ?_
        refine JL.pure rfl (PO.move (v := .slice a (s.length + 1) c) rfl) ?_
        refine JL.pure rfl (PO.move (v := .int .i64 ((i : Nat) : Int)) rfl) ?_
        refine JL.pure rfl (PO.move (v := .int .i64 ((1 : Nat) : Int)) rfl) ?_
        refine JL.pure rfl (PO.add (c := ((i + 1 : Nat) : Int)) rfl rfl (wr (by omega))) ?_
        refine JL.pure rfl (PO.sliceVl (i := (i + 1)) Tryz.underlying29 Tryz.sizeOf113 hf_1s rfl rfl (by omega)) ?_
        refine JL.op rfl (JO.overlaps 1 0 (by decide) (k := 2) (lo := i + 1) rfl rfl (run_ov (tS := 29) (tR := 4) Tryz.func319 (by kernel_rfl) (by kernel_rfl) (by kernel_rfl) (by kernel_rfl)) Tryz.underlying29 Tryz.sizeOf113 rfl rfl (by decide) (by omega) (by decide) (by decide)) ?_
        rintro _ _ ⟨rfl, rfl⟩
        refine JL.pure rfl (PO.not rfl) ?_
        refine JL.nil ?_
        refine JQ.seq ?_
        refine JC.condT (congrArg Value.bool rfl) ?_
        refine JC.seq ?_
        refine JC.regionA [] 0 mixed (by simp) ?_
        refine JA.takeP 0 rfl (by kernel_rfl) (NP.th (NP.th NP.body)) (by kernel_rfl) (by kernel_rfl) rfl (PO.move (v := .slice a (s.length + 1) c) rfl) ?_
        refine JA.takeP 1 rfl (by kernel_rfl) (NP.th (NP.th NP.body)) (by kernel_rfl) (by kernel_rfl) rfl (PO.move (v := .int .i64 ((i : Nat) : Int)) rfl) ?_
        refine JA.takeP 2 rfl (by kernel_rfl) (NP.th (NP.th NP.body)) (by kernel_rfl) (by kernel_rfl) rfl (PO.move (v := .int .i64 ((1 : Nat) : Int)) rfl) ?_
        refine JA.takeP 3 rfl (by kernel_rfl) (NP.th (NP.th NP.body)) (by kernel_rfl) (by kernel_rfl) rfl (PO.add (c := ((i + 1 : Nat) : Int)) rfl rfl (wr (by omega))) ?_
        refine JA.takeP 4 rfl (by kernel_rfl) (NP.th (NP.th NP.body)) (by kernel_rfl) (by kernel_rfl) rfl (PO.sliceVl (i := (i + 1)) Tryz.underlying29 Tryz.sizeOf113 hf_1s rfl rfl (by omega)) ?_
        refine JA.takeP 5 rfl (by kernel_rfl) (NP.th (NP.th NP.body)) (by kernel_rfl) (by kernel_rfl) rfl (PO.move (v := .slice a (s.length + 1) c) rfl) ?_
        refine JA.takeP 6 rfl (by kernel_rfl) (NP.th (NP.th NP.body)) (by kernel_rfl) (by kernel_rfl) rfl (PO.move (v := .int .i64 ((i : Nat) : Int)) rfl) ?_
        refine JA.takeP 7 rfl (by kernel_rfl) (NP.th (NP.th NP.body)) (by kernel_rfl) (by kernel_rfl) rfl (PO.sliceVl (i := i) Tryz.underlying29 Tryz.sizeOf113 hf_1s rfl rfl (by omega)) ?_
        refine JA.one (i := 8) (by kernel_rfl) ?_
        refine JX.last rfl rfl (by decide) (by kernel_rfl) (JO.copy 0 (k := 2) (lo := (i + 1)) (q := s.length - i) (news := (s.flatMap encC).drop (i * 2)) (cs' := ((s.flatMap encC ++ zs_11)).take (i * 2 + 2) ++ (s.flatMap encC).drop (i * 2) ++ ((s.flatMap encC ++ zs_11)).drop (i * 2 + 2 + ((s.flatMap encC).drop (i * 2)).length)) rfl Tryz.underlying29 Tryz.sizeOf113 rfl rfl (by show min _ _ = _; omega) (by omega) (by omega) (by decide) (by omega) (fun w hw => Fst.mid (hw.see (i := 0) rfl) (by omega) (by omega) (tail2 hcl hi)) (by rw [List.length_drop, hcl]; omega) (fun u hu => oneC s u (List.mem_of_mem_drop hu)) ((by rw [show (i + 1) * 2 = i * 2 + 2 by omega]))) ?_
        rintro _ _ rfl
        refine JQ.seq ?_
        refine JC.seq ?_
        refine JC.region ?_
        refine JL.pure rfl (PO.move (v := .slice a (s.length + 1) c) rfl) ?_
        refine JL.pure rfl (PO.move (v := .int .i64 ((i : Nat) : Int)) rfl) ?_
        refine JL.pure rfl (PO.sliceVl (i := i) Tryz.underlying29 Tryz.sizeOf113 hf_1s rfl rfl (by omega)) ?_
        refine JL.pure rfl (PO.move (v := .slice va 1 1) rfl) ?_
        refine JL.op rfl (JO.copy 0 (k := 2) (lo := i) (q := 1) (news := [str x.1, str x.2]) (cs' := (insertAt i x s).flatMap encC) rfl Tryz.underlying29 Tryz.sizeOf113 rfl rfl (by show min _ _ = _; omega) (by omega) (by omega) (by decide) (by omega) (fun w hw => Fst.sees (hw.see (i := 1) rfl) (Nat.le_refl _)) rfl (oneC [x]) ((ins_room (k := 2) (by rw [hcl]; omega) (by omega) rfl).trans insC)) ?_
        rintro _ _ rfl
        refine JL.nil ?_
        refine JQ.seq ?_
        refine JC.seq ?_
        refine JC.region ?_
        refine JL.pure rfl (PO.move (v := .slice a (s.length + 1) c) rfl) ?_
        refine JL.pure rfl (PO.assign (v := .slice a (s.length + 1) c) rfl) ?_
        refine JL.nil ?_
        refine JQ.seq ?_
        refine JC.ret ?_
        refine JQ.thenRet ?_
        refine Done.one (.inl rfl) rfl (RV.tmp (v := .slice a (s.length + 1) c) rfl) (List.sublist_append_left [Res.row (.slice a (s.length + 1) c) 113 2 (s.length + 1) ((insertAt i x s).flatMap encC)] [Res.row (.slice va 1 1) 113 2 1 ([x].flatMap encC)]) ?_
        exact ⟨_, _, by rw [insertAt_length i x s hi], by rw [insertAt_length i x s hi]⟩

theorem C_delC (fp : FuncId) (hcf : ∀ args w, (callFunc fp args).run Tryz.prog w = .ok (.enter fp args) w) (kb : Nat) (key : Str) (p : Cell → Bool) (hp : ∀ x : Cell, Ct Tryz.prog fp [.agg #[str x.1, str x.2], .pointer (some ⟨kb, 0, none⟩)] [bk kb 9 [str key]] (fun _ => True) (fun v A' => v = .bool (p x) ∧ A' = [bk kb 9 [str key]])) (a : Option Addr) (c : Nat) (s : List Cell) (hn : s.length ≤ 1000000000000) :
    Ct Tryz.prog 300 [.slice a s.length c, .func (.func fp) #[] #[.pointer (some ⟨kb, 0, none⟩)]] [bk kb 9 [str key], Res.row (.slice a s.length c) 113 2 s.length (s.flatMap encC)] (fun _ => True) (fun v A' => ∃ a' c', v = .slice a' (s.filter (fun c => !p c)).length c' ∧ A' = [bk kb 9 [str key], .row (.slice a' (s.filter (fun c => !p c)).length c') 113 2 (s.filter (fun c => !p c)).length ((s.filter (fun c => !p c)).flatMap encC)]) := by
  refine Ct.intro Tryz.func300 rfl Tryz.ntmps300 (Nat.le_of_ble_eq_true rfl) fun w0 hpre => ?_
  refine JC.seq ?_
  refine JC.region ?_
  refine JL.pure rfl (PO.assign (v := .slice none 0 0) rfl) ?_
  refine JL.nil ?_
  refine JQ.seq ?_
  refine JC.seq ?_
  refine JC.region ?_
  refine JL.pure rfl (PO.move (v := .slice a s.length c) rfl) ?_
  refine JL.pure rfl (PO.move (v := .func (.func fp) #[] #[.pointer (some ⟨kb, 0, none⟩)]) rfl) ?_
  refine JL.op rfl (JO.call [0] Tryz.call291 rfl (C_idxC fp hcf kb key p hp a c s (by omega)) rfl (fun w hw => ⟨hw.see (i := 1) rfl, hw.apartO 1 0 rfl rfl rfl⟩)) ?_
  rintro _ _ ⟨_, ⟨rfl, rfl⟩, rfl⟩
  have hix0 := idxI_lo p s
  have hfl0 := findAt_le p s
  refine JL.pure rfl (PO.assign (v := .int .i64 (idxI p s)) rfl) ?_
  refine JL.nil ?_
  refine JQ.seq ?_
  refine JC.seq ?_
  refine JC.seq ?_
  refine JC.region ?_
  refine JL.pure rfl (PO.move (v := .int .i64 (idxI p s)) rfl) ?_
  refine JL.pure rfl (PO.eqlI rfl rfl) ?_
  refine JL.nil ?_
  refine JQ.seq ?_
  by_cases h_1 : (idxI p s) = (-1)
  · skip
    have hfe : findAt p s = s.length := by omega
    refine JC.condT (congrArg Value.bool (decide_eq_true h_1)) ?_
    refine JC.seq ?_
    refine JC.region ?_
    refine JL.pure rfl (PO.move (v := .slice a s.length c) rfl) ?_
    refine JL.pure rfl (PO.assign (v := .slice a s.length c) rfl) ?_
    refine JL.nil ?_
    refine JQ.seq ?_
    refine JC.ret ?_
    refine JQ.thenRet ?_
    refine Done.one (.inl rfl) rfl (RV.tmp (v := .slice a s.length c) rfl) (List.Sublist.refl _) ?_
    exact ⟨_, _, by rw [del_none hfe], by rw [del_none hfe]; rfl⟩
  · skip
    have hfl : findAt p s < s.length := by omega
    have hie : idxI p s = ((findAt p s : Nat) : Int) := by omega
    refine JC.condF (congrArg Value.bool (decide_eq_false h_1)) ?_
    refine JC.skip ?_
    refine JQ.seq ?_
    refine JC.seq ?_
    refine JC.seq ?_
    refine JC.region ?_
    refine JL.pure rfl (PO.move (v := .int .i64 ((findAt p s : Nat) : Int)) (congrArg (Value.int .i64) hie)) ?_
    refine JL.pure rfl (PO.add (c := (((findAt p s) + 1 : Nat) : Int)) rfl rfl (wr (by omega))) ?_
    refine JL.pure rfl (PO.assign (v := .int .i64 (((findAt p s) + 1 : Nat) : Int)) rfl) ?_
    refine JL.nil ?_
    refine JQ.seq ?_
    refine JC.block ?_
    refine JC.loop (fun k_ e_ L_ => ∃ i : Nat, ∃ j : Nat, ∃ X : List Cell, (j ≤ s.length) ∧ (i < j) ∧ (X.length = s.length) ∧ (X.take i = (s.take j).filter (fun c => !p c)) ∧ (X.drop j = s.drop j) ∧ e_ 0 = .slice a s.length c ∧ e_ 1 = .func (.func fp) #[] #[.pointer (some ⟨kb, 0, none⟩)] ∧ e_ 4 = .slice none 0 0 ∧ e_ 5 = .int .i64 ((i : Nat) : Int) ∧ e_ 6 = .int .i64 ((j : Nat) : Int) ∧ L_ = [bk kb 9 [str key], Res.row (.slice a s.length c) 113 2 s.length (X.flatMap encC)] ∧ k_ = s.length - j) _ ⟨findAt p s, (findAt p s + 1), s, by omega, by omega, rfl, (del_start hfl), rfl, rfl, rfl, rfl, (congrArg (Value.int .i64) hie), rfl, rfl, rfl⟩ ?_
    rintro _ e_2 _ ⟨i, j, X, hj, hij, hX, hXi, hXj, he_3, he_4, he_5, he_6, he_7, rfl, rfl⟩
    refine JC.seq ?_
    refine JC.seq ?_
    refine JC.region ?_
    refine JL.pure rfl (PO.move (v := .int .i64 ((j : Nat) : Int)) he_7) ?_
    refine JL.pure rfl (PO.move (v := .slice a s.length c) he_3) ?_
    refine JL.pure rfl (PO.lenV Tryz.underlying29 rfl) ?_
    refine JL.pure rfl (PO.lss rfl rfl) ?_
    refine JL.nil ?_
    refine JQ.seq ?_
    by_cases h_8 : ((j : Nat) : Int) < ((s.length : Nat) : Int)
    · skip
      have hlt : j < s.length := by omega
      refine JC.condT (congrArg Value.bool (decide_eq_true h_8)) ?_
      refine JC.skip ?_
      refine JQ.seq ?_
      refine JC.seq ?_
      refine JC.block ?_
      refine JC.seq ?_
      refine JC.region ?_
      refine JL.pure rfl (PO.move (v := .slice a s.length c) he_3) ?_
      refine JL.pure rfl (PO.move (v := .int .i64 ((j : Nat) : Int)) he_7) ?_
      refine JL.facts fun hst => ?_
      obtain ⟨hr_9, hr_9b, -⟩ := row_some 1 rfl (by omega) hst
      refine JL.pure rfl (PO.indexAddrV (i := j) Tryz.underlying29 Tryz.sizeOf113 hr_9 hr_9b rfl rfl (by omega)) ?_
      refine JL.ld rfl (LO.loadRK 1 (vs := [str ((X.getD j c0).1), str ((X.getD j c0).2)]) rfl rfl Tryz.isAgg113 Tryz.sizeOf113 (atC (by omega)) rfl (by decide)) ?_
      refine JL.op rfl (JO.alloc (z := .agg #[str [], str []]) (cs := [str [], str []]) Tryz.zeroValue113 rfl) ?_
      rintro _ _ ⟨b_10, rfl, rfl⟩
      refine JL.op rfl (JO.store 0 (vs := [str ((X.getD j c0).1), str ((X.getD j c0).2)]) (cs' := [str ((X.getD j c0).1), str ((X.getD j c0).2)]) rfl rfl rfl rfl Tryz.sizeOf113 rfl rfl (Nat.le_of_ble_eq_true rfl) rfl) ?_
      rintro _ _ rfl
      refine JL.nil ?_
      refine JQ.seq ?_
      refine JC.seq ?_
      refine JC.region ?_
      refine JL.pure rfl (PO.move (v := .func (.func fp) #[] #[.pointer (some ⟨kb, 0, none⟩)]) he_4) ?_
      refine JL.ld rfl (LO.loadK 0 (vs := [str ((X.getD j c0).1), str ((X.getD j c0).2)]) rfl rfl Tryz.isAgg113 Tryz.sizeOf113 rfl rfl) ?_
      refine JL.op rfl (JO.callV [1] hcf rfl (hp (X.getD j c0)) rfl rfl (fun _ _ => trivial)) ?_
      rintro _ _ ⟨_, ⟨rfl, rfl⟩, rfl⟩
      refine JL.pure rfl (PO.not rfl) ?_
      refine JL.nil ?_
      refine JQ.seq ?_
      rcases Bool.eq_false_or_eq_true (p (X.getD j c0)) with h_11 | h_11
      · skip
        have hpj := h_11
        refine JC.condF (congrArg Value.bool (congrArg Bool.not h_11)) ?_
        refine JC.skip ?_
        refine JQ.blockN ?_
        refine JQ.seq ?_
        refine JC.region ?_
        refine JL.pure rfl (PO.move (v := .int .i64 ((j : Nat) : Int)) he_7) ?_
        refine JL.pure rfl (PO.add (c := ((j + 1 : Nat) : Int)) rfl rfl (wr (by omega))) ?_
        refine JL.pure rfl (PO.assign (v := .int .i64 ((j + 1 : Nat) : Int)) rfl) ?_
        refine JL.nil ?_
        refine JQ.pick [0, 1] (A := [bk kb 9 [str key], Res.row (.slice a s.length c) 113 2 s.length (X.flatMap encC)]) rfl ?_
        refine JQ.again (s.length - (j + 1)) (by omega) ⟨i, j + 1, X, by omega, by omega, hX, (del_skip c0 hXj hlt hpj hXi), (drop_more hXj), he_3, he_4, he_5, he_6, rfl, rfl, rfl⟩
      · skip
        have hpj := h_11
        refine JC.condT (congrArg Value.bool (congrArg Bool.not h_11)) ?_
        refine JC.seq ?_
        refine JC.region ?_
        refine JL.pure rfl (PO.move (v := .slice a s.length c) he_3) ?_
        refine JL.pure rfl (PO.move (v := .int .i64 ((i : Nat) : Int)) he_6) ?_
        refine JL.ld rfl (LO.loadK 1 (vs := [str ((X.getD j c0).1), str ((X.getD j c0).2)]) rfl rfl Tryz.isAgg113 Tryz.sizeOf113 rfl rfl) ?_
        refine JL.pure rfl (PO.indexAddrV (i := i) Tryz.underlying29 Tryz.sizeOf113 hr_9 hr_9b rfl rfl (by omega)) ?_
        refine JL.op rfl (JO.storeR 2 (vs := [str ((X.getD j c0).1), str ((X.getD j c0).2)]) (cs' := (X.set i ((X.getD j c0).1, (X.getD j c0).2)).flatMap encC) rfl rfl rfl rfl Tryz.sizeOf113 rfl rfl (by decide) (by rw [lenC]; omega) (setC (by omega))) ?_
        rintro _ _ rfl
        refine JL.nil ?_
        refine JQ.seq ?_
        refine JC.region ?_
        refine JL.pure rfl (PO.move (v := .int .i64 ((i : Nat) : Int)) he_6) ?_
        refine JL.pure rfl (PO.add (c := ((i + 1 : Nat) : Int)) rfl rfl (wr (by omega))) ?_
        refine JL.pure rfl (PO.assign (v := .int .i64 ((i + 1 : Nat) : Int)) rfl) ?_
        refine JL.nil ?_
        refine JQ.blockN ?_
        refine JQ.seq ?_
        refine JC.region ?_
        refine JL.pure rfl (PO.move (v := .int .i64 ((j : Nat) : Int)) he_7) ?_
        refine JL.pure rfl (PO.add (c := ((j + 1 : Nat) : Int)) rfl rfl (wr (by omega))) ?_
        refine JL.pure rfl (PO.assign (v := .int .i64 ((j + 1 : Nat) : Int)) rfl) ?_
        refine JL.nil ?_
        refine JQ.pick [0, 1] (A := [bk kb 9 [str key], Res.row (.slice a s.length c) 113 2 s.length ((X.set i ((X.getD j c0).1, (X.getD j c0).2)).flatMap encC)]) rfl ?_
        refine JQ.again (s.length - (j + 1)) (by omega) ⟨i + 1, j + 1, X.set i (X.getD j c0), by omega, by omega, (by rw [List.length_set]; exact hX), (del_keep c0 hXj hlt hX hij hpj hXi), (del_keepD hXj hij _), he_3, he_4, he_5, rfl, rfl, rfl, rfl⟩
    · skip
      refine JC.condF (congrArg Value.bool (decide_eq_false h_8)) ?_
      refine JC.exit ?_
      refine JQ.thenExit ?_
      refine JQ.thenExit ?_
      refine JQ.blockE ?_
      refine JQ.seq ?_
      refine JC.seq ?_
      refine JC.region ?_
      refine JL.pure rfl (PO.move (v := .slice a s.length c) he_3) ?_
      refine JL.pure rfl (PO.move (v := .int .i64 ((i : Nat) : Int)) he_6) ?_
      refine JL.facts fun hst => ?_
      obtain ⟨hf_12m, hf_12x, hf_12s, hf_12l⟩ := fits_of hst (i := 1) rfl
      refine JL.pure rfl (PO.sliceVl (i := i) Tryz.underlying29 Tryz.sizeOf113 hf_12s rfl rfl (by omega)) ?_
      refine JL.op rfl (JO.clear 1 (k := 2) (lo := i) (z := .agg #[str [], str []]) rfl Tryz.underlying29 Tryz.zeroValue113 rfl (by decide) rfl (by decide) (by omega) (by omega)) ?_
      rintro _ _ ⟨zs_13, hzs_13, rfl⟩
      refine JL.nil ?_
      refine JQ.seq ?_
      refine JC.seq ?_
      refine JC.narrow 1 i (cs' := (s.filter (fun c => !p c)).flatMap encC) rfl (by omega) (by rw [takeC (by omega), del_done (by omega) hXi]) ?_
      refine JC.region ?_
      refine JL.pure rfl (PO.move (v := .slice a s.length c) he_3) ?_
      refine JL.pure rfl (PO.move (v := .int .i64 ((i : Nat) : Int)) he_6) ?_
      refine JL.pure rfl (PO.sliceVh (j := i) Tryz.underlying29 Tryz.sizeOf113 hf_12s rfl rfl (by omega)) ?_
      refine JL.pure rfl (PO.assign (v := .slice a i c) rfl) ?_
      refine JL.nil ?_
      refine JQ.seq ?_
      refine JC.ret ?_
      refine Done.one (.inl rfl) rfl (RV.tmp (v := .slice a i c) rfl) (List.Sublist.refl _) ?_
      have hln := del_len hX (by omega) (del_done (by omega) hXi)
      exact ⟨_, _, by rw [hln], by rw [hln]; rfl⟩

theorem C_cloneS (a : Option Addr) (c : Nat) (s : List Str) (hn : s.length ≤ 1000000000000) :
    Ct Tryz.prog 222 [.slice a s.length c] [] (fun w_ => Sees w_ (.slice a s.length c) 1 s.length (s.map str)) (fun v A' => ∃ a' c', v = .slice a' s.length c' ∧ A' = [.row (.slice a' s.length c') 9 1 s.length (s.map str)]) := by
  refine Ct.intro Tryz.func222 rfl Tryz.ntmps222 (Nat.le_of_ble_eq_true rfl) fun w0 hpre => ?_
  have hs_a : Sees w0 _ _ _ _ := hpre
  refine JC.seq ?_
  refine JC.region ?_
  refine JL.pure rfl (PO.assign (v := .slice none 0 0) rfl) ?_
  refine JL.nil ?_
  refine JQ.seq ?_
  refine JC.seq ?_
  refine JC.seq ?_
  refine JC.region ?_
  refine JL.pure rfl (PO.move (v := .slice a s.length c) rfl) ?_
  refine JL.pure rfl (PO.eqNil Tryz.underlying23 rfl rfl) ?_
  refine JL.nil ?_
  refine JQ.seq ?_
  rcases Bool.eq_false_or_eq_true (a.isNone) with h_1 | h_1
  · skip
    refine JC.condT (congrArg Value.bool h_1) ?_
    refine JC.seq ?_
    refine JC.region ?_
    refine JL.pure rfl (PO.assign (v := .slice none 0 0) rfl) ?_
    refine JL.nil ?_
    refine JQ.seq ?_
    refine JC.ret ?_
    refine JQ.thenRet ?_
    refine JQ.nilrow 9 1 ?_
    refine Done.one (.inl rfl) rfl (RV.tmp (v := .slice none 0 0) rfl) (List.Sublist.refl _) ?_
    have ha : a = none := by simpa using h_1
    have hz : s.length = 0 := sees_none (ha ▸ hpre)
    have hs0 : s = [] := List.length_eq_zero_iff.1 hz
    subst hs0
    exact ⟨none, 0, rfl, rfl⟩
  · skip
    refine JC.condF (congrArg Value.bool h_1) ?_
    refine JC.skip ?_
    refine JQ.seq ?_
    refine JC.seq ?_
    refine JC.region ?_
    refine JL.op rfl (JO.buildSlice (ps := []) (cur := #[]) Tryz.underlying23 Tryz.sizeOf9 Tryz.zeroValue9 rfl (by kernel_rfl) (by decide) (by decide)) ?_
    rintro _ _ ⟨a_2, rfl, rfl⟩
    refine JL.pure rfl (PO.move (v := .slice a s.length c) rfl) ?_
    refine JL.op rfl (JO.append' 0 (q := s.length) (news := s.map str) (n' := s.length) (cs' := s.map str) rfl Tryz.underlying23 Tryz.underlying23 Tryz.typeInfo9 rfl (by' := 16) rfl rfl rfl rfl rfl (fun w hw => Src.sees (hw.seeOut_ hs_a (fun _ _ => List.not_mem_nil)) (oneS _)) (by (try simp only [List.length_append, List.length_cons, List.length_nil, List.length_take, List.length_drop]); omega) (by (try simp only [List.length_append, List.length_cons, List.length_nil, List.length_take, List.length_drop]); omega) (by (try simp only [List.length_take, List.length_drop]); first | rfl | omega) rfl) ?_
    rintro _ _ ⟨a_3, c_4, rfl, rfl⟩
    refine JL.pure rfl (PO.assign (v := .slice a_3 s.length c_4) rfl) ?_
    refine JL.nil ?_
    refine JQ.seq ?_
    refine JC.ret ?_
    refine Done.one (.inl rfl) rfl (RV.tmp (v := .slice a_3 s.length c_4) rfl) (List.Sublist.refl _) ?_
    exact ⟨_, _, rfl, rfl⟩

theorem C_idxS (fp : FuncId) (hcf : ∀ args w, (callFunc fp args).run Tryz.prog w = .ok (.enter fp args) w) (kb : Nat) (key : Str) (p : Str → Bool) (hp : ∀ x : Str, Ct Tryz.prog fp [str x, .pointer (some ⟨kb, 0, none⟩)] [bk kb 9 [str key]] (fun _ => True) (fun v A' => v = .bool (p x) ∧ A' = [bk kb 9 [str key]])) (a : Option Addr) (c : Nat) (s : List Str) (hn : s.length ≤ 1000000000000) :
    Ct Tryz.prog 296 [.slice a s.length c, .func (.func fp) #[] #[.pointer (some ⟨kb, 0, none⟩)]] [bk kb 9 [str key]] (fun w_ => Sees w_ (.slice a s.length c) 1 s.length (s.map str) ∧ (∀ b, (Value.slice a s.length c).ownBlock = some b → b ≠ kb)) (fun v A' => v = .int .i64 (idxI p s) ∧ A' = [bk kb 9 [str key]]) := by
  refine Ct.intro Tryz.func296 rfl Tryz.ntmps296 (Nat.le_of_ble_eq_true rfl) fun w0 hpre => ?_
  have hs_a : Sees w0 _ _ _ _ := hpre.1
  refine JC.seq ?_
  refine JC.region ?_
  refine JL.pure rfl (PO.assign (v := .int .i64 0) rfl) ?_
  refine JL.nil ?_
  refine JQ.seq ?_
  refine JC.seq ?_
  refine JC.seq ?_
  refine JC.region ?_
  refine JL.pure rfl (PO.move (v := .slice a s.length c) rfl) ?_
  refine JL.pure rfl (PO.lenV Tryz.underlying23 rfl) ?_
  refine JL.pure rfl (PO.move (v := .int .i64 0) rfl) ?_
  refine JL.nil ?_
  refine JQ.seq ?_
  refine JC.block ?_
  refine JC.loop (fun k_ e_ L_ => ∃ j : Nat, (j ≤ s.length) ∧ (∀ i, i < j → p (s.getD i []) = false) ∧ e_ 0 = .slice a s.length c ∧ e_ 1 = .func (.func fp) #[] #[.pointer (some ⟨kb, 0, none⟩)] ∧ e_ 7 = .int .i64 ((s.length : Nat) : Int) ∧ e_ 8 = .int .i64 ((j : Nat) : Int) ∧ L_ = [bk kb 9 [str key]] ∧ k_ = s.length - j) _ ⟨0, by omega, (fun i hi => absurd hi (Nat.not_lt_zero i)), rfl, rfl, rfl, rfl, rfl, rfl⟩ ?_
  rintro _ e_1 _ ⟨j, hj, hN, he_2, he_3, he_4, he_5, rfl, rfl⟩
  refine JC.seq ?_
  refine JC.region ?_
  refine JL.pure rfl (PO.lss he_5 he_4) ?_
  refine JL.nil ?_
  refine JQ.seq ?_
  refine JC.seq ?_
  by_cases h_6 : ((j : Nat) : Int) < ((s.length : Nat) : Int)
  · skip
    have hlt : j < s.length := by omega
    refine JC.condT (congrArg Value.bool (decide_eq_true h_6)) ?_
    refine JC.skip ?_
    refine JQ.seq ?_
    refine JC.seq ?_
    refine JC.block ?_
    refine JC.seq ?_
    refine JC.region ?_
    refine JL.pure rfl (PO.move (v := .int .i64 ((j : Nat) : Int)) he_5) ?_
    refine JL.pure rfl (PO.assign (v := .int .i64 ((j : Nat) : Int)) rfl) ?_
    refine JL.nil ?_
    refine JQ.seq ?_
    refine JC.seq ?_
    refine JC.region ?_
    refine JL.pure rfl (PO.move (v := .func (.func fp) #[] #[.pointer (some ⟨kb, 0, none⟩)]) he_3) ?_
    refine JL.pure rfl (PO.move (v := .slice a s.length c) he_2) ?_
    refine JL.pure rfl (PO.move (v := .int .i64 ((j : Nat) : Int)) rfl) ?_
    obtain ⟨hr_7, hr_7b, -⟩ := sees_some hs_a (by omega)
    refine JL.pure rfl (PO.indexAddrV (i := j) Tryz.underlying23 Tryz.sizeOf9 hr_7 hr_7b rfl rfl (by omega)) ?_
    refine JL.ld rfl (LO.loadS1 (v := str (s.getD j [])) hs_a (notin_bk hpre.2) rfl Tryz.isAgg9 (atS (by omega))) ?_
    refine JL.op rfl (JO.callV [0] hcf rfl (hp (s.getD j [])) rfl rfl (fun _ _ => trivial)) ?_
    rintro _ _ ⟨_, ⟨rfl, rfl⟩, rfl⟩
    refine JL.nil ?_
    refine JQ.seq ?_
    rcases Bool.eq_false_or_eq_true (p (s.getD j [])) with h_8 | h_8
    · skip
      have hpj := h_8
      refine JC.condT (congrArg Value.bool h_8) ?_
      refine JC.seq ?_
      refine JC.region ?_
      refine JL.pure rfl (PO.move (v := .int .i64 ((j : Nat) : Int)) rfl) ?_
      refine JL.pure rfl (PO.assign (v := .int .i64 ((j : Nat) : Int)) rfl) ?_
      refine JL.nil ?_
      refine JQ.seq ?_
      refine JC.ret ?_
      refine JQ.blockRet ?_
      refine JQ.thenRet ?_
      refine JQ.thenRet ?_
      refine JQ.blockRet ?_
      refine JQ.thenRet ?_
      refine Done.one (.inl rfl) rfl (RV.tmp (v := .int .i64 ((j : Nat) : Int)) rfl) (List.Sublist.refl _) ?_
      refine ⟨?_, rfl⟩
      rw [idxI_found [] hlt hN hpj]
    · skip
      have hpj := h_8
      refine JC.condF (congrArg Value.bool h_8) ?_
      refine JC.skip ?_
      refine JQ.blockN ?_
      refine JQ.seq ?_
      refine JC.region ?_
      refine JL.pure rfl (PO.add (c := ((j + 1 : Nat) : Int)) he_5 rfl (wr (by omega))) ?_
      refine JL.pure rfl (PO.move (v := .int .i64 ((j + 1 : Nat) : Int)) rfl) ?_
      refine JL.nil ?_
      refine JQ.again (s.length - (j + 1)) (by omega) ⟨j + 1, by omega, (fun i hi => if h : i = j then h ▸ hpj else hN i (by omega)), he_2, he_3, he_4, rfl, rfl, rfl⟩
  · skip
    refine JC.condF (congrArg Value.bool (decide_eq_false h_6)) ?_
    refine JC.exit ?_
    refine JQ.thenExit ?_
    refine JQ.thenExit ?_
    refine JQ.blockE ?_
    refine JQ.seq ?_
    refine JC.seq ?_
    refine JC.region ?_
    refine JL.pure rfl (PO.assign (v := .int .i64 (-1)) rfl) ?_
    refine JL.nil ?_
    refine JQ.seq ?_
    refine JC.ret ?_
    refine Done.one (.inl rfl) rfl (RV.tmp (v := .int .i64 (-1)) rfl) (List.Sublist.refl _) ?_
    refine ⟨?_, rfl⟩
    rw [idxI_none [] (by omega) hN]

theorem C_insS (a va : Option Addr) (c : Nat) (s : List Str) (i : Nat) (x : Str) (hi : i ≤ s.length) (hn : s.length ≤ 1000000000000) (hcl : (s.map str).length = s.length * 1) :
    Ct Tryz.prog 298 [.slice a s.length c, .int .i64 ((i : Nat) : Int), .slice va 1 1] [Res.row (.slice a s.length c) 9 1 s.length (s.map str), Res.row (.slice va 1 1) 9 1 1 ([x].map str)] (fun _ => True) (fun v A' => ∃ a' c', v = .slice a' (insertAt i x s).length c' ∧ A' = [.row (.slice a' (insertAt i x s).length c') 9 1 (insertAt i x s).length ((insertAt i x s).map str)]) := by
  refine Ct.intro Tryz.func298 rfl Tryz.ntmps298 (Nat.le_of_ble_eq_true rfl) fun w0 hpre => ?_
  refine JC.seq ?_
  refine JC.region ?_
  refine JL.pure rfl (PO.assign (v := .slice none 0 0) rfl) ?_
  refine JL.nil ?_
  refine JQ.seq ?_
  refine JC.seq ?_
  refine JC.region ?_
  refine JL.pure rfl (PO.move (v := .slice a s.length c) rfl) ?_
  refine JL.pure rfl (PO.move (v := .int .i64 ((i : Nat) : Int)) rfl) ?_
  refine JL.facts fun hst => ?_
  obtain ⟨hf_1m, hf_1x, hf_1s, hf_1l⟩ := fits_of hst (i := 0) rfl
  refine JL.pure rfl (PO.sliceVl (i := i) Tryz.underlying23 Tryz.sizeOf9 hf_1s rfl rfl (by omega)) ?_
  refine JL.nil ?_
  refine JQ.seq ?_
  refine JC.seq ?_
  refine JC.region ?_
  refine JL.pure rfl (PO.move (v := .slice va 1 1) rfl) ?_
  refine JL.pure rfl (PO.lenV Tryz.underlying23 rfl) ?_
  refine JL.pure rfl (PO.assign (v := .int .i64 ((1 : Nat) : Int)) rfl) ?_
  refine JL.nil ?_
  refine JQ.seq ?_
  refine JC.seq ?_
  refine JC.seq ?_
  refine JC.region ?_
  refine JL.pure rfl (PO.move (v := .int .i64 ((1 : Nat) : Int)) rfl) ?_
  refine JL.pure rfl (PO.eqlI rfl rfl) ?_
  refine JL.nil ?_
  refine JQ.seq ?_
  by_cases h_2 : ((1 : Nat) : Int) = 0
  · skip
    exfalso; omega
  · skip
    refine JC.condF (congrArg Value.bool (decide_eq_false h_2)) ?_
    refine JC.skip ?_
    refine JQ.seq ?_
    refine JC.seq ?_
    refine JC.region ?_
    refine JL.pure rfl (PO.move (v := .slice a s.length c) rfl) ?_
    refine JL.pure rfl (PO.lenV Tryz.underlying23 rfl) ?_
    refine JL.pure rfl (PO.assign (v := .int .i64 ((s.length : Nat) : Int)) rfl) ?_
    refine JL.nil ?_
    refine JQ.seq ?_
    refine JC.seq ?_
    refine JC.seq ?_
    refine JC.region ?_
    refine JL.pure rfl (PO.move (v := .int .i64 ((i : Nat) : Int)) rfl) ?_
    refine JL.pure rfl (PO.move (v := .int .i64 ((s.length : Nat) : Int)) rfl) ?_
    refine JL.pure rfl (PO.eqlI rfl rfl) ?_
    refine JL.nil ?_
    refine JQ.seq ?_
    by_cases h_3 : ((i : Nat) : Int) = ((s.length : Nat) : Int)
    · skip
      refine JC.condT (congrArg Value.bool (decide_eq_true h_3)) ?_
      refine JC.seq ?_
      refine JC.region ?_
      refine JL.pure rfl (PO.move (v := .slice a s.length c) rfl) ?_
      refine JL.pure rfl (PO.move (v := .slice va 1 1) rfl) ?_
      refine JL.op rfl (JO.append' 0 (q := 1) (news := [x].map str) (n' := (s ++ [x]).length) (cs' := (s ++ [x]).map str) rfl Tryz.underlying23 Tryz.underlying23 Tryz.typeInfo9 rfl (by' := 16) rfl rfl rfl rfl rfl (fun w hw => Src.sees (hw.see (i := 1) rfl) (oneS _)) (by (try simp only [List.length_append, List.length_cons, List.length_nil, List.length_take, List.length_drop]); omega) (by (try simp only [List.length_append, List.length_cons, List.length_nil, List.length_take, List.length_drop]); omega) (by simp only [List.length_append, List.length_take, List.length_drop, List.length_cons, List.length_nil] <;> first | rfl | omega) (by simp only [List.map_append])) ?_
      rintro _ _ ⟨a_4, c_5, rfl, rfl⟩
      refine JL.pure rfl (PO.assign (v := .slice a_4 ((s ++ [x]).length) c_5) rfl) ?_
      refine JL.nil ?_
      refine JQ.seq ?_
      refine JC.ret ?_
      refine JQ.thenRet ?_
      refine Done.one (.inl rfl) rfl (RV.tmp (v := .slice a_4 ((s ++ [x]).length) c_5) rfl) (List.sublist_append_left [Res.row (.slice a_4 ((s ++ [x]).length) c_5) 9 1 ((s ++ [x]).length) ((s ++ [x]).map str)] [Res.row (.slice va 1 1) 9 1 1 ([x].map str)]) ?_
      have hin : i = s.length := by omega
      exact ⟨_, _, by rw [ins_end hin], by rw [ins_end hin]⟩
    · skip
      refine JC.condF (congrArg Value.bool (decide_eq_false h_3)) ?_
      refine JC.skip ?_
      refine JQ.seq ?_
      refine JC.seq ?_
      refine JC.seq ?_
      refine JC.region ?_
      refine JL.pure rfl (PO.move (v := .int .i64 ((s.length : Nat) : Int)) rfl) ?_
      refine JL.pure rfl (PO.move (v := .int .i64 ((1 : Nat) : Int)) rfl) ?_
      refine JL.pure rfl (PO.add (c := ((s.length + 1 : Nat) : Int)) rfl rfl (wr (by omega))) ?_
      refine JL.pure rfl (PO.move (v := .slice a s.length c) rfl) ?_
      refine JL.pure rfl (PO.capV Tryz.underlying23 rfl) ?_
      refine JL.pure rfl (PO.gtr rfl rfl) ?_
      refine JL.nil ?_
      refine JQ.seq ?_
      by_cases h_6 : ((c : Nat) : Int) < ((s.length + 1 : Nat) : Int)
      · skip
        refine JC.condT (congrArg Value.bool (decide_eq_true h_6)) ?_
        refine JC.seq ?_
        refine JC.region ?_
        refine JL.pure rfl (PO.move (v := .slice a s.length c) rfl) ?_
        refine JL.pure rfl (PO.move (v := .int .i64 ((i : Nat) : Int)) rfl) ?_
        refine JL.pure rfl (PO.sliceVh (j := i) Tryz.underlying23 Tryz.sizeOf9 hf_1s rfl rfl (by omega)) ?_
        refine JL.pure rfl (PO.move (v := .int .i64 ((s.length : Nat) : Int)) rfl) ?_
        refine JL.pure rfl (PO.move (v := .int .i64 ((1 : Nat) : Int)) rfl) ?_
        refine JL.pure rfl (PO.add (c := ((s.length + 1 : Nat) : Int)) rfl rfl (wr (by omega))) ?_
        refine JL.pure rfl (PO.move (v := .int .i64 ((i : Nat) : Int)) rfl) ?_
        refine JL.pure rfl (PO.sub (c := ((s.length + 1 - i : Nat) : Int)) rfl rfl (wr (by omega))) ?_
        refine JL.op rfl (JO.appendMake' 0 (i := i) (r := s.length + 1 - i) (by' := 16) (n' := s.length + 1) rfl Tryz.underlying23 Tryz.underlying3 Tryz.typeInfo9 rfl (by decide) rfl rfl rfl rfl rfl (by omega) (by omega) (by omega) (by omega) (by decide) (by omega)) ?_
        rintro _ _ ⟨a_7, c_8, zs_9, rfl, hzs_9c, hzs_9, rfl⟩
        refine JL.pure rfl (PO.assign (v := .slice a_7 (s.length + 1) c_8) rfl) ?_
        refine JL.nil ?_
        refine JQ.seq ?_
        refine JC.seq ?_
        refine JC.region ?_
        refine JL.pure rfl (PO.move (v := .slice a_7 (s.length + 1) c_8) rfl) ?_
        refine JL.pure rfl (PO.move (v := .int .i64 ((i : Nat) : Int)) rfl) ?_
        refine JL.facts fun hst => ?_
        obtain ⟨hf_10m, hf_10x, hf_10s, hf_10l⟩ := fits_of hst (i := 0) rfl
        refine JL.pure rfl (PO.sliceVl (i := i) Tryz.underlying23 Tryz.sizeOf9 hf_10s rfl rfl (by omega)) ?_
        refine JL.pure rfl (PO.move (v := .slice va 1 1) rfl) ?_
        refine JL.op rfl (JO.copy 0 (k := 1) (lo := i) (q := 1) (news := [str x]) (cs' := ((s.map str).take (i * 1) ++ zs_9).take (i * 1) ++ [str x] ++ ((s.map str).take (i * 1) ++ zs_9).drop (i * 1 + [str x].length)) rfl Tryz.underlying23 Tryz.sizeOf9 rfl rfl (by show min _ _ = _; omega) (by omega) (by omega) (by decide) (by omega) (fun w hw => Fst.sees (hw.see (i := 2) rfl) (Nat.le_refl _)) rfl (oneS [x]) (rfl)) ?_
        rintro _ _ rfl
        refine JL.nil ?_
        refine JQ.seq ?_
        refine JC.seq ?_
        refine JC.regionA [] 0 mixed (by simp) ?_
        refine JA.takeP 0 rfl (by kernel_rfl) (NP.th (NP.th NP.body)) (by kernel_rfl) (by kernel_rfl) rfl (PO.move (v := .slice a_7 (s.length + 1) c_8) rfl) ?_
        refine JA.takeP 1 rfl (by kernel_rfl) (NP.th (NP.th NP.body)) (by kernel_rfl) (by kernel_rfl) rfl (PO.move (v := .int .i64 ((i : Nat) : Int)) rfl) ?_
        refine JA.takeP 2 rfl (by kernel_rfl) (NP.th (NP.th NP.body)) (by kernel_rfl) (by kernel_rfl) rfl (PO.move (v := .int .i64 ((1 : Nat) : Int)) rfl) ?_
        refine JA.takeP 3 rfl (by kernel_rfl) (NP.th (NP.th NP.body)) (by kernel_rfl) (by kernel_rfl) rfl (PO.add (c := ((i + 1 : Nat) : Int)) rfl rfl (wr (by omega))) ?_
        refine JA.takeP 4 rfl (by kernel_rfl) (NP.th (NP.th NP.body)) (by kernel_rfl) (by kernel_rfl) rfl (PO.sliceVl (i := (i + 1)) Tryz.underlying23 Tryz.sizeOf9 hf_10s rfl rfl (by omega)) ?_
        refine JA.takeP 5 rfl (by kernel_rfl) (NP.th (NP.th NP.body)) (by kernel_rfl) (by kernel_rfl) rfl (PO.move (v := .slice a s.length c) rfl) ?_
        refine JA.takeP 6 rfl (by kernel_rfl) (NP.th (NP.th NP.body)) (by kernel_rfl) (by kernel_rfl) rfl (PO.move (v := .int .i64 ((i : Nat) : Int)) rfl) ?_
        refine JA.takeP 7 rfl (by kernel_rfl) (NP.th (NP.th NP.body)) (by kernel_rfl) (by kernel_rfl) rfl (PO.sliceVl (i := i) Tryz.underlying23 Tryz.sizeOf9 hf_1s rfl rfl (by omega)) ?_
        refine JA.one (i := 8) (by kernel_rfl) ?_
        refine JX.last rfl rfl (by decide) (by kernel_rfl) (JO.copy 0 (k := 1) (lo := (i + 1)) (q := s.length - i) (news := (s.map str).drop (i * 1)) (cs' := (insertAt i x s).map str) rfl Tryz.underlying23 Tryz.sizeOf9 rfl rfl (by show min _ _ = _; omega) (by omega) (by omega) (by decide) (by omega) (fun w hw => Fst.mid (hw.see (i := 1) rfl) (by omega) (by omega) (tail1 hcl)) (by rw [List.length_drop, hcl]; omega) (fun u hu => oneS s u (List.mem_of_mem_drop hu)) ((by rw [show (i + 1) * 1 = i * 1 + 1 by omega]; exact (ins_grow (k := 1) (by rw [hcl]; omega) (by rw [hcl]; omega) rfl).trans insS))) ?_
        rintro _ _ rfl
        refine JQ.seq ?_
        refine JC.seq ?_
        refine JC.region ?_
        refine JL.pure rfl (PO.move (v := .slice a_7 (s.length + 1) c_8) rfl) ?_
        refine JL.pure rfl (PO.assign (v := .slice a_7 (s.length + 1) c_8) rfl) ?_
        refine JL.nil ?_
        refine JQ.seq ?_
        refine JC.ret ?_
        refine JQ.thenRet ?_
        refine Done.one (.inl rfl) rfl (RV.tmp (v := .slice a_7 (s.length + 1) c_8) rfl) (List.sublist_append_left [Res.row (.slice a_7 (s.length + 1) c_8) 9 1 (s.length + 1) ((insertAt i x s).map str)] [Res.row (.slice a s.length c) 9 1 s.length (s.map str), Res.row (.slice va 1 1) 9 1 1 ([x].map str)]) ?_
        exact ⟨_, _, by rw [insertAt_length i x s hi], by rw [insertAt_length i x s hi]⟩
      · skip
        refine JC.condF (congrArg Value.bool (decide_eq_false h_6)) ?_
        refine JC.skip ?_
        refine JQ.seq ?_
        refine JC.seq ?_
        refine JC.region ?_
        refine JL.pure rfl (PO.move (v := .slice a s.length c) rfl) ?_
        refine JL.pure rfl (PO.move (v := .int .i64 ((s.length : Nat) : Int)) rfl) ?_
        refine JL.pure rfl (PO.move (v := .int .i64 ((1 : Nat) : Int)) rfl) ?_
        refine JL.pure rfl (PO.add (c := ((s.length + 1 : Nat) : Int)) rfl rfl (wr (by omega))) ?_
        refine JL.pure rfl (PO.sliceVh (j := (s.length + 1)) Tryz.underlying23 Tryz.sizeOf9 hf_1s rfl rfl (by omega)) ?_
        refine JL.pure rfl (PO.assign (v := .slice a (s.length + 1) c) rfl) ?_
        refine JL.nil ?_
        refine JQ.seq ?_
        refine JC.seq ?_
        refine JC.seq ?_
        refine JC.widen 0 1 (m := s.length) rfl (by omega) fun zs_11 hzs_11 => ?_
        refine JC.region ?_
        refine JL.pure rfl (PO.move (v := .slice va 1 1) rfl) ?_
        refine JL.pure rfl (PO.move (v := .slice a (s.length + 1) c) rfl) ?_
        refine JL.pure rfl (PO.move (v := .int .i64 ((i : Nat) : Int)) rfl) ?_
        refine JL.pure rfl (PO.move (v := .int .i64 ((1 : Nat) : Int)) rfl) ?_
        refine JL.pure rfl (PO.add (c := ((i + 1 : Nat) : Int)) rfl rfl (wr (by omega))) ?_
        refine JL.pure rfl (PO.sliceVl (i := (i + 1)) Tryz.underlying23 Tryz.sizeOf9 hf_1s rfl rfl (by omega)) ?_
        refine JL.op rfl (JO.overlaps 1 0 (by decide) (k := 1) (lo := i + 1) rfl rfl (run_ov (tS := 23) (tR := 4) Tryz.func317 (by kernel_rfl) (by kernel_rfl) (by kernel_rfl) (by kernel_rfl)) Tryz.underlying23 Tryz.sizeOf9 rfl rfl (by decide) (by omega) (by decide) (by decide)) ?_
        rintro _ _ ⟨rfl, rfl⟩
        refine JL.pure rfl (PO.not rfl) ?_
        refine JL.nil ?_
        refine JQ.seq ?_
        refine JC.condT (congrArg Value.bool rfl) ?_
        refine JC.seq ?_
        refine JC.regionA [] 0 mixed (by simp) ?_
        refine JA.takeP 0 rfl (by kernel_rfl) (NP.th (NP.th NP.body)) (by kernel_rfl) (by kernel_rfl) rfl (PO.move (v := .slice a (s.length + 1) c) rfl) ?_
        refine JA.takeP 1 rfl (by kernel_rfl) (NP.th (NP.th NP.body)) (by kernel_rfl) (by kernel_rfl) rfl (PO.move (v := .int .i64 ((i : Nat) : Int)) rfl) ?_
        refine JA.takeP 2 rfl (by kernel_rfl) (NP.th (NP.th NP.body)) (by kernel_rfl) (by kernel_rfl) rfl (PO.move (v := .int .i64 ((1 : Nat) : Int)) rfl) ?_
        refine JA.takeP 3 rfl (by kernel_rfl) (NP.th (NP.th NP.body)) (by kernel_rfl) (by kernel_rfl) rfl (PO.add (c := ((i + 1 : Nat) : Int)) rfl rfl (wr (by omega))) ?_
        refine JA.takeP 4 rfl (by kernel_rfl) (NP.th (NP.th NP.body)) (by kernel_rfl) (by kernel_rfl) rfl (PO.sliceVl (i := (i + 1)) Tryz.underlying23 Tryz.sizeOf9 hf_1s rfl rfl (by omega)) ?_
        refine JA.takeP 5 rfl (by kernel_rfl) (NP.th (NP.th NP.body)) (by kernel_rfl) (by kernel_rfl) rfl (PO.move (v := .slice a (s.length + 1) c) rfl) ?_
        refine JA.takeP 6 rfl (by kernel_rfl) (NP.th (NP.th NP.body)) (by kernel_rfl) (by kernel_rfl) rfl (PO.move (v := .int .i64 ((i : Nat) : Int)) rfl) ?_
        refine JA.takeP 7 rfl (by kernel_rfl) (NP.th (NP.th NP.body)) (by kernel_rfl) (by kernel_rfl) rfl (PO.sliceVl (i := i) Tryz.underlying23 Tryz.sizeOf9 hf_1s rfl rfl (by omega)) ?_
        refine JA.one (i := 8) (by kernel_rfl) ?_
        refine JX.last rfl rfl (by decide) (by kernel_rfl) (JO.copy 0 (k := 1) (lo := (i + 1)) (q := s.length - i) (news := (s.map str).drop (i * 1)) (cs' := ((s.map str ++ zs_11)).take (i * 1 + 1) ++ (s.map str).drop (i * 1) ++ ((s.map str ++ zs_11)).drop (i * 1 + 1 + ((s.map str).drop (i * 1)).length)) rfl Tryz.underlying23 Tryz.sizeOf9 rfl rfl (by show min _ _ = _; omega) (by omega) (by omega) (by decide) (by omega) (fun w hw => Fst.mid (hw.see (i := 0) rfl) (by omega) (by omega) (tail2 hcl hi)) (by rw [List.length_drop, hcl]; omega) (fun u hu => oneS s u (List.mem_of_mem_drop hu)) ((by rw [show (i + 1) * 1 = i * 1 + 1 by omega]))) ?_
        rintro _ _ rfl
        refine JQ.seq ?_
        refine JC.seq ?_
        refine JC.region ?_
        refine JL.pure rfl (PO.move (v := .slice a (s.length + 1) c) rfl) ?_
        refine JL.pure rfl (PO.move (v := .int .i64 ((i : Nat) : Int)) rfl) ?_
        refine JL.pure rfl (PO.sliceVl (i := i) Tryz.underlying23 Tryz.sizeOf9 hf_1s rfl rfl (by omega)) ?_
        refine JL.pure rfl (PO.move (v := .slice va 1 1) rfl) ?_
        refine JL.op rfl (JO.copy 0 (k := 1) (lo := i) (q := 1) (news := [str x]) (cs' := (insertAt i x s).map str) rfl Tryz.underlying23 Tryz.sizeOf9 rfl rfl (by show min _ _ = _; omega) (by omega) (by omega) (by decide) (by omega) (fun w hw => Fst.sees (hw.see (i := 1) rfl) (Nat.le_refl _)) rfl (oneS [x]) ((ins_room (k := 1) (by rw [hcl]; omega) (by omega) rfl).trans insS)) ?_
        rintro _ _ rfl
        refine JL.nil ?_
        refine JQ.seq ?_
        refine JC.seq ?_
        refine JC.region ?_
        refine JL.pure rfl (PO.move (v := .slice a (s.length + 1) c) rfl) ?_
        refine JL.pure rfl (PO.assign (v := .slice a (s.length + 1) c) rfl) ?_
        refine JL.nil ?_
        refine JQ.seq ?_
        refine JC.ret ?_
        refine JQ.thenRet ?_
        refine Done.one (.inl rfl) rfl (RV.tmp (v := .slice a (s.length + 1) c) rfl) (List.sublist_append_left [Res.row (.slice a (s.length + 1) c) 9 1 (s.length + 1) ((insertAt i x s).map str)] [Res.row (.slice va 1 1) 9 1 1 ([x].map str)]) ?_
        exact ⟨_, _, by rw [insertAt_length i x s hi], by rw [insertAt_length i x s hi]⟩

end Go.Proofs.YtenfajgpdhgknaaGreatDoor

namespace Go.Proofs
open Go.Shelf
def Tryz.laysM171_ren : Go.Shelf.Ren := ⟨fun | 171 => 174 | 243 => 265 | 246 => 286 | 283 => 305 | 284 => 306 | 285 => 307 | 286 => 308 | 129 => 322 | 317 => 321 | 318 => 323 | 319 => 324 | 320 => 325 | 337 => 333 | 338 => 334 | n => n, fun | 3 => 3 | 9 => 9 | 2 => 2 | 4 => 4 | 171 => 188 | 0 => 0 | 53 => 189 | 37 => 44 | 5 => 5 | 173 => 192 | 212 => 200 | 51 => 201 | 20 => 20 | 213 => 202 | 46 => 172 | 232 => 219 | 233 => 220 | n => n, fun | 17 => 0 | 18 => 4 | 19 => 5 | n => n⟩
theorem Tryz.laysM171 : Go.Proofs.LaysM.n171 Tryz.prog Tryz.laysM171_ren := {
  mixed := by kernel_rfl
  f129 := Tryz.func322.trans (congrArg some (by kernel_rfl))
  f171 := Tryz.func174.trans (congrArg some (by kernel_rfl))
  f243 := Tryz.func265.trans (congrArg some (by kernel_rfl))
  f246 := Tryz.func286.trans (congrArg some (by kernel_rfl))
  f283 := Tryz.func305.trans (congrArg some (by kernel_rfl))
  f284 := Tryz.func306.trans (congrArg some (by kernel_rfl))
  f285 := Tryz.func307.trans (congrArg some (by kernel_rfl))
  f286 := Tryz.func308.trans (congrArg some (by kernel_rfl))
  f317 := Tryz.func321.trans (congrArg some (by kernel_rfl))
  f318 := Tryz.func323.trans (congrArg some (by kernel_rfl))
  f319 := Tryz.func324.trans (congrArg some (by kernel_rfl))
  f320 := Tryz.func325.trans (congrArg some (by kernel_rfl))
  f337 := Tryz.func333.trans (congrArg some (by kernel_rfl))
  f338 := Tryz.func334.trans (congrArg some (by kernel_rfl))
  t0 := Tryz.underlying0
  a0 := Tryz.isAgg0
  z0 := Tryz.sizeOf0
  v0 := Tryz.zeroValue0
  t2 := Tryz.underlying2
  a2 := Tryz.isAgg2
  z2 := Tryz.sizeOf2
  v2 := Tryz.zeroValue2
  t3 := Tryz.underlying3
  a3 := Tryz.isAgg3
  z3 := Tryz.sizeOf3
  v3 := Tryz.zeroValue3
  t4 := Tryz.underlying4
  a4 := Tryz.isAgg4
  z4 := Tryz.sizeOf4
  v4 := Tryz.zeroValue4
  t5 := Tryz.underlying5
  a5 := Tryz.isAgg5
  z5 := Tryz.sizeOf5
  v5 := Tryz.zeroValue5
  t9 := Tryz.underlying9
  a9 := Tryz.isAgg9
  z9 := Tryz.sizeOf9
  v9 := Tryz.zeroValue9
  t20 := Tryz.underlying20
  a20 := Tryz.isAgg20
  z20 := Tryz.sizeOf20
  v20 := Tryz.zeroValue20
  t37 := Tryz.underlying44
  a37 := Tryz.isAgg44
  z37 := Tryz.sizeOf44
  v37 := Tryz.zeroValue44
  t46 := Tryz.underlying172
  a46 := Tryz.isAgg172
  z46 := Tryz.sizeOf172
  v46 := Tryz.zeroValue172
  t51 := Tryz.underlying201
  a51 := Tryz.isAgg201
  z51 := Tryz.sizeOf201
  v51 := Tryz.zeroValue201
  t53 := Tryz.underlying189
  a53 := Tryz.isAgg189
  z53 := Tryz.sizeOf189
  v53 := Tryz.zeroValue189
  t171 := Tryz.underlying188
  a171 := Tryz.isAgg188
  z171 := Tryz.sizeOf188
  v171 := Tryz.zeroValue188
  t173 := Tryz.underlying192
  a173 := Tryz.isAgg192
  z173 := Tryz.sizeOf192
  v173 := Tryz.zeroValue192
  t212 := Tryz.underlying200
  a212 := Tryz.isAgg200
  z212 := Tryz.sizeOf200
  v212 := Tryz.zeroValue200
  t213 := Tryz.underlying202
  a213 := Tryz.isAgg202
  z213 := Tryz.sizeOf202
  t232 := Tryz.underlying219
  a232 := Tryz.isAgg219
  z232 := Tryz.sizeOf219
  v232 := Tryz.zeroValue219
  t233 := Tryz.underlying220
  a233 := Tryz.isAgg220
  z233 := Tryz.sizeOf220
  v233 := Tryz.zeroValue220
  g17 := by kernel_rfl
  g18 := by kernel_rfl
  g19 := by kernel_rfl
  i0 := by kernel_rfl
  i2 := by kernel_rfl
  i3 := by kernel_rfl
  i4 := by kernel_rfl
  i5 := by kernel_rfl
  i9 := by kernel_rfl
  i20 := by kernel_rfl
  i37 := by kernel_rfl
  i46 := by kernel_rfl
  i51 := by kernel_rfl
  i53 := by kernel_rfl
  i171 := by kernel_rfl
  i173 := by kernel_rfl
  i212 := by kernel_rfl
  i232 := by kernel_rfl
  i233 := by kernel_rfl
  m17 := by kernel_rfl
  m18 := by kernel_rfl
  m19 := by kernel_rfl }
open Go.RowKit Go.Sort Go.Lib in
theorem Tryz.strconv_Itoa (n : Int) (h0 : -9223372036854775808 ≤ n) (h1 : n ≤ 9223372036854775807) (w : World) (htab : Lib.TabIs Tryz.prog w "internal/strconv.uint64pow10" .u64 Lib.pow10Tab) :
    Calls Tryz.prog 174 #[.int .i64 n] w fun e w' => e = .returned (.string ⟨(Lib.itoa n).toArray⟩) ∧ ∃ k os, w' = grow (w.drewN k) os := Any.strconv_Itoa Tryz.laysM171 n h0 h1 w htab
def Tryz.laysC172_ren : Go.Shelf.Ren := ⟨fun | 172 => 293 | 244 => 315 | 245 => 316 | 247 => 326 | 279 => 327 | 280 => 328 | 281 => 329 | 282 => 330 | 287 => 335 | 316 => 336 | 171 => 174 | 205 => 337 | 321 => 340 | 322 => 341 | 243 => 265 | 246 => 286 | 283 => 305 | 284 => 306 | 285 => 307 | 286 => 308 | 129 => 322 | 317 => 321 | 318 => 323 | 319 => 324 | 320 => 325 | 337 => 333 | 338 => 334 | n => n, fun | 9 => 9 | 3 => 3 | 75 => 176 | 76 => 182 | 4 => 4 | 5 => 5 | 167 => 205 | 37 => 44 | 0 => 0 | 85 => 206 | 2 => 2 | 168 => 208 | 53 => 189 | 175 => 212 | 46 => 172 | 210 => 215 | 127 => 222 | 145 => 225 | 143 => 223 | 21 => 21 | 171 => 188 | 173 => 192 | 212 => 200 | 51 => 201 | 20 => 20 | 213 => 202 | 232 => 219 | 233 => 220 | 80 => 228 | n => n, fun | 15 => 2 | 16 => 3 | 17 => 0 | 18 => 4 | 19 => 5 | n => n⟩
theorem Tryz.laysC172 : Go.Proofs.LaysC.n172 Tryz.prog Tryz.laysC172_ren := {
  mixed := by kernel_rfl
  f129 := Tryz.func322.trans (congrArg some (by kernel_rfl))
  f171 := Tryz.func174.trans (congrArg some (by kernel_rfl))
  f172 := Tryz.func293.trans (congrArg some (by kernel_rfl))
  f205 := Tryz.func337.trans (congrArg some (by kernel_rfl))
  f243 := Tryz.func265.trans (congrArg some (by kernel_rfl))
  f244 := Tryz.func315.trans (congrArg some (by kernel_rfl))
  f245 := Tryz.func316.trans (congrArg some (by kernel_rfl))
  f246 := Tryz.func286.trans (congrArg some (by kernel_rfl))
  f247 := Tryz.func326.trans (congrArg some (by kernel_rfl))
  f279 := Tryz.func327.trans (congrArg some (by kernel_rfl))
  f280 := Tryz.func328.trans (congrArg some (by kernel_rfl))
  f281 := Tryz.func329.trans (congrArg some (by kernel_rfl))
  f282 := Tryz.func330.trans (congrArg some (by kernel_rfl))
  f283 := Tryz.func305.trans (congrArg some (by kernel_rfl))
  f284 := Tryz.func306.trans (congrArg some (by kernel_rfl))
  f285 := Tryz.func307.trans (congrArg some (by kernel_rfl))
  f286 := Tryz.func308.trans (congrArg some (by kernel_rfl))
  f287 := Tryz.func335.trans (congrArg some (by kernel_rfl))
  f316 := Tryz.func336.trans (congrArg some (by kernel_rfl))
  f317 := Tryz.func321.trans (congrArg some (by kernel_rfl))
  f318 := Tryz.func323.trans (congrArg some (by kernel_rfl))
  f319 := Tryz.func324.trans (congrArg some (by kernel_rfl))
  f320 := Tryz.func325.trans (congrArg some (by kernel_rfl))
  f321 := Tryz.func340.trans (congrArg some (by kernel_rfl))
  f322 := Tryz.func341.trans (congrArg some (by kernel_rfl))
  f337 := Tryz.func333.trans (congrArg some (by kernel_rfl))
  f338 := Tryz.func334.trans (congrArg some (by kernel_rfl))
  t0 := Tryz.underlying0
  a0 := Tryz.isAgg0
  z0 := Tryz.sizeOf0
  v0 := Tryz.zeroValue0
  t2 := Tryz.underlying2
  a2 := Tryz.isAgg2
  z2 := Tryz.sizeOf2
  v2 := Tryz.zeroValue2
  t3 := Tryz.underlying3
  a3 := Tryz.isAgg3
  z3 := Tryz.sizeOf3
  v3 := Tryz.zeroValue3
  t4 := Tryz.underlying4
  a4 := Tryz.isAgg4
  z4 := Tryz.sizeOf4
  v4 := Tryz.zeroValue4
  t5 := Tryz.underlying5
  a5 := Tryz.isAgg5
  z5 := Tryz.sizeOf5
  v5 := Tryz.zeroValue5
  t9 := Tryz.underlying9
  a9 := Tryz.isAgg9
  z9 := Tryz.sizeOf9
  v9 := Tryz.zeroValue9
  t20 := Tryz.underlying20
  a20 := Tryz.isAgg20
  z20 := Tryz.sizeOf20
  v20 := Tryz.zeroValue20
  t21 := Tryz.underlying21
  a21 := Tryz.isAgg21
  z21 := Tryz.sizeOf21
  v21 := Tryz.zeroValue21
  t37 := Tryz.underlying44
  a37 := Tryz.isAgg44
  z37 := Tryz.sizeOf44
  v37 := Tryz.zeroValue44
  t46 := Tryz.underlying172
  a46 := Tryz.isAgg172
  z46 := Tryz.sizeOf172
  v46 := Tryz.zeroValue172
  t51 := Tryz.underlying201
  a51 := Tryz.isAgg201
  z51 := Tryz.sizeOf201
  v51 := Tryz.zeroValue201
  t53 := Tryz.underlying189
  a53 := Tryz.isAgg189
  z53 := Tryz.sizeOf189
  v53 := Tryz.zeroValue189
  t75 := Tryz.underlying176
  a75 := Tryz.isAgg176
  z75 := Tryz.sizeOf176
  v75 := Tryz.zeroValue176
  t76 := Tryz.underlying182
  a76 := Tryz.isAgg182
  z76 := Tryz.sizeOf182
  v76 := Tryz.zeroValue182
  t85 := Tryz.underlying206
  a85 := Tryz.isAgg206
  z85 := Tryz.sizeOf206
  v85 := Tryz.zeroValue206
  t127 := Tryz.underlying222
  a127 := Tryz.isAgg222
  z127 := Tryz.sizeOf222
  v127 := Tryz.zeroValue222
  t143 := Tryz.underlying223
  a143 := Tryz.isAgg223
  z143 := Tryz.sizeOf223
  v143 := Tryz.zeroValue223
  t145 := Tryz.underlying225
  a145 := Tryz.isAgg225
  z145 := Tryz.sizeOf225
  v145 := Tryz.zeroValue225
  t167 := Tryz.underlying205
  a167 := Tryz.isAgg205
  z167 := Tryz.sizeOf205
  v167 := Tryz.zeroValue205
  t168 := Tryz.underlying208
  a168 := Tryz.isAgg208
  z168 := Tryz.sizeOf208
  v168 := Tryz.zeroValue208
  t171 := Tryz.underlying188
  a171 := Tryz.isAgg188
  z171 := Tryz.sizeOf188
  v171 := Tryz.zeroValue188
  t173 := Tryz.underlying192
  a173 := Tryz.isAgg192
  z173 := Tryz.sizeOf192
  v173 := Tryz.zeroValue192
  t175 := Tryz.underlying212
  a175 := Tryz.isAgg212
  z175 := Tryz.sizeOf212
  v175 := Tryz.zeroValue212
  t210 := Tryz.underlying215
  a210 := Tryz.isAgg215
  z210 := Tryz.sizeOf215
  v210 := Tryz.zeroValue215
  t212 := Tryz.underlying200
  a212 := Tryz.isAgg200
  z212 := Tryz.sizeOf200
  v212 := Tryz.zeroValue200
  t213 := Tryz.underlying202
  a213 := Tryz.isAgg202
  z213 := Tryz.sizeOf202
  t232 := Tryz.underlying219
  a232 := Tryz.isAgg219
  z232 := Tryz.sizeOf219
  v232 := Tryz.zeroValue219
  t233 := Tryz.underlying220
  a233 := Tryz.isAgg220
  z233 := Tryz.sizeOf220
  v233 := Tryz.zeroValue220
  g15 := by kernel_rfl
  g16 := by kernel_rfl
  g17 := by kernel_rfl
  g18 := by kernel_rfl
  g19 := by kernel_rfl
  t80 := Tryz.underlying228
  a80 := Tryz.isAgg228
  z80 := Tryz.sizeOf228
  v80 := Tryz.zeroValue228
  i0 := by kernel_rfl
  i2 := by kernel_rfl
  i3 := by kernel_rfl
  i4 := by kernel_rfl
  i5 := by kernel_rfl
  i9 := by kernel_rfl
  i20 := by kernel_rfl
  i21 := by kernel_rfl
  i37 := by kernel_rfl
  i46 := by kernel_rfl
  i51 := by kernel_rfl
  i53 := by kernel_rfl
  i75 := by kernel_rfl
  i76 := by kernel_rfl
  i80 := by kernel_rfl
  i85 := by kernel_rfl
  i127 := by kernel_rfl
  i143 := by kernel_rfl
  i145 := by kernel_rfl
  i167 := by kernel_rfl
  i168 := by kernel_rfl
  i171 := by kernel_rfl
  i173 := by kernel_rfl
  i175 := by kernel_rfl
  i210 := by kernel_rfl
  i212 := by kernel_rfl
  i232 := by kernel_rfl
  i233 := by kernel_rfl
  m15 := by kernel_rfl
  m16 := by kernel_rfl
  m17 := by kernel_rfl
  m18 := by kernel_rfl
  m19 := by kernel_rfl
  c0 := by kernel_rfl
  c2 := by kernel_rfl
  c3 := by kernel_rfl
  c4 := by kernel_rfl
  c5 := by kernel_rfl
  c9 := by kernel_rfl
  c20 := by kernel_rfl
  c21 := by kernel_rfl
  c37 := by kernel_rfl
  c46 := by kernel_rfl
  c51 := by kernel_rfl
  c53 := by kernel_rfl
  c75 := by kernel_rfl
  c76 := by kernel_rfl
  c80 := by kernel_rfl
  c85 := by kernel_rfl
  c127 := by kernel_rfl
  c143 := by kernel_rfl
  c145 := by kernel_rfl
  c167 := by kernel_rfl
  c168 := by kernel_rfl
  c171 := by kernel_rfl
  c173 := by kernel_rfl
  c175 := by kernel_rfl
  c210 := by kernel_rfl
  c212 := by kernel_rfl
  c213 := by kernel_rfl
  c232 := by kernel_rfl
  c233 := by kernel_rfl }
open Go.RowKit in
theorem Tryz.strconv_Atoi_ok (s : ByteArray) (hmax : s.size ≤ 9223372036854775806) (v : Int) (h : Lib.atoiAll s.data.toList = .ok v) (w : World) :
    Calls Tryz.prog 293 #[.string s] w fun e w' => e = .returned (.tuple #[.int .i64 v, .nilIface]) ∧ (w' = w ∨ ∃ t, w' = Lib.bytesWorld w 5 t) := Any.strconv_Atoi_ok Tryz.laysC172 s hmax v h w
open Go.RowKit in
theorem Tryz.strconv_Atoi_range_var (s : ByteArray) (hlim : s.size ≤ 281474976710656) (h : Lib.atoiAll s.data.toList = .range) (tp : TypeId) (p : Value) (w : World) (hvar : w.var? Tryz.prog "strconv.ErrRange" = some #[.iface tp p]) :
    Calls Tryz.prog 293 #[.string s] w fun e w' => ∃ N, e = .returned (.tuple #[.int .i64 (Lib.atoiSat s.data.toList), .iface 208 (.pointer (some ⟨N, 0, none⟩))]) ∧ w.heap.size ≤ N ∧ w'.heap[N]? = some (.cells #[.string ⟨#[65, 116, 111, 105]⟩, .string s, .iface tp p] 215 (0, 0)) ∧ Below w.heap.size w w' := Any.strconv_Atoi_range_var Tryz.laysC172 s hlim h tp p w hvar
def Tryz.lays103_ren : Go.Shelf.Ren := ⟨fun | 103 => 273 | 210 => 290 | 206 => 314 | n => n, fun | 9 => 9 | 4 => 4 | 24 => 139 | 3 => 3 | n => n, fun | n => n⟩
theorem Tryz.lays103 : Go.Proofs.Lays.n103 Tryz.prog Tryz.lays103_ren := {
  mixed := by kernel_rfl
  f103 := Tryz.func273.trans (congrArg some (by kernel_rfl))
  f206 := Tryz.func314.trans (congrArg some (by kernel_rfl))
  f210 := Tryz.func290.trans (congrArg some (by kernel_rfl))
  t3 := Tryz.underlying3
  a3 := Tryz.isAgg3
  z3 := Tryz.sizeOf3
  v3 := Tryz.zeroValue3
  t4 := Tryz.underlying4
  a4 := Tryz.isAgg4
  z4 := Tryz.sizeOf4
  v4 := Tryz.zeroValue4
  t9 := Tryz.underlying9
  a9 := Tryz.isAgg9
  z9 := Tryz.sizeOf9
  v9 := Tryz.zeroValue9
  t24 := Tryz.underlying139
  a24 := Tryz.isAgg139
  z24 := Tryz.sizeOf139
  v24 := Tryz.zeroValue139 }
open Go.RowKit in
theorem Tryz.strings_CutPrefix (s p : ByteArray) (w : World) :
    Calls Tryz.prog 273 #[.string s, .string p] w fun e w' => e = .returned (.tuple #[.string ⟨(Lib.trimPrefix s.data.toList p.data.toList).toArray⟩, .bool (Lib.hasPrefix s.data.toList p.data.toList)]) ∧ w' = w := Any.strings_CutPrefix Tryz.lays103 s p w
def Tryz.lays104_ren : Go.Shelf.Ren := ⟨fun | 104 => 268 | 211 => 287 | 207 => 309 | n => n, fun | 9 => 9 | 4 => 4 | 24 => 139 | 3 => 3 | n => n, fun | n => n⟩
theorem Tryz.lays104 : Go.Proofs.Lays.n104 Tryz.prog Tryz.lays104_ren := {
  mixed := by kernel_rfl
  f104 := Tryz.func268.trans (congrArg some (by kernel_rfl))
  f207 := Tryz.func309.trans (congrArg some (by kernel_rfl))
  f211 := Tryz.func287.trans (congrArg some (by kernel_rfl))
  t3 := Tryz.underlying3
  a3 := Tryz.isAgg3
  z3 := Tryz.sizeOf3
  v3 := Tryz.zeroValue3
  t4 := Tryz.underlying4
  a4 := Tryz.isAgg4
  z4 := Tryz.sizeOf4
  v4 := Tryz.zeroValue4
  t9 := Tryz.underlying9
  a9 := Tryz.isAgg9
  z9 := Tryz.sizeOf9
  v9 := Tryz.zeroValue9
  t24 := Tryz.underlying139
  a24 := Tryz.isAgg139
  z24 := Tryz.sizeOf139
  v24 := Tryz.zeroValue139 }
open Go.RowKit in
theorem Tryz.strings_CutSuffix (s p : ByteArray) (w : World) (hs : s.size ≤ 9223372036854775807) :
    Calls Tryz.prog 268 #[.string s, .string p] w fun e w' => e = .returned (.tuple #[.string ⟨(Lib.trimSuffix s.data.toList p.data.toList).toArray⟩, .bool (Lib.hasSuffix s.data.toList p.data.toList)]) ∧ w' = w := Any.strings_CutSuffix Tryz.lays104 s p w hs
def Tryz.lays99_ren : Go.Shelf.Ren := ⟨fun | 99 => 304 | 206 => 314 | n => n, fun | 9 => 9 | 4 => 4 | 3 => 3 | n => n, fun | n => n⟩
theorem Tryz.lays99 : Go.Proofs.Lays.n99 Tryz.prog Tryz.lays99_ren := {
  mixed := by kernel_rfl
  f99 := Tryz.func304.trans (congrArg some (by kernel_rfl))
  f206 := Tryz.func314.trans (congrArg some (by kernel_rfl))
  t3 := Tryz.underlying3
  a3 := Tryz.isAgg3
  z3 := Tryz.sizeOf3
  v3 := Tryz.zeroValue3
  t4 := Tryz.underlying4
  a4 := Tryz.isAgg4
  z4 := Tryz.sizeOf4
  v4 := Tryz.zeroValue4
  t9 := Tryz.underlying9
  a9 := Tryz.isAgg9
  z9 := Tryz.sizeOf9
  v9 := Tryz.zeroValue9 }
open Go.RowKit Go.Lib in
theorem Tryz.strings_HasPrefix (s p : ByteArray) (w : World) :
    Calls Tryz.prog 304 #[.string s, .string p] w fun e w' => e = .returned (.bool (Lib.hasPrefix s.data.toList p.data.toList)) ∧ w' = w := Any.strings_HasPrefix Tryz.lays99 s p w
def Tryz.laysPah39_ren : Go.Shelf.Ren := ⟨fun | 39 => 289 | 41 => 312 | 40 => 313 | n => n, fun | 30 => 44 | 9 => 9 | 3 => 3 | 0 => 0 | 5 => 5 | 46 => 172 | n => n, fun | n => n⟩
theorem Tryz.laysPah39 : Go.Proofs.Lays.ph39 Tryz.prog Tryz.laysPah39_ren := {
  mixed := by kernel_rfl
  f39 := Tryz.func289.trans (congrArg some (by kernel_rfl))
  f40 := Tryz.func313.trans (congrArg some (by kernel_rfl))
  f41 := Tryz.func312.trans (congrArg some (by kernel_rfl))
  t0 := Tryz.underlying0
  a0 := Tryz.isAgg0
  z0 := Tryz.sizeOf0
  v0 := Tryz.zeroValue0
  t3 := Tryz.underlying3
  a3 := Tryz.isAgg3
  z3 := Tryz.sizeOf3
  v3 := Tryz.zeroValue3
  t5 := Tryz.underlying5
  a5 := Tryz.isAgg5
  z5 := Tryz.sizeOf5
  v5 := Tryz.zeroValue5
  t9 := Tryz.underlying9
  a9 := Tryz.isAgg9
  z9 := Tryz.sizeOf9
  v9 := Tryz.zeroValue9
  t30 := Tryz.underlying44
  a30 := Tryz.isAgg44
  z30 := Tryz.sizeOf44
  v30 := Tryz.zeroValue44
  t46 := Tryz.underlying172
  a46 := Tryz.isAgg172
  z46 := Tryz.sizeOf172
  v46 := Tryz.zeroValue172
  info5 := by kernel_rfl }
open Go.RowKit Go.Lib in
theorem Tryz.hex_EncodeToString_bytes (bs os cs : Nat) (l : List UInt8) (w : World) (hsrc : ∀ i (h : i < l.length), w.cell? ⟨bs, os + i, none⟩ = some (.int .u8 ((l[i]'h).toNat : Int))) (hb : bs < w.heap.size) (hbig : 2 * l.length ≤ 281474976710656) :
    Calls Tryz.prog 289 #[.slice (some ⟨bs, os, none⟩) l.length cs] w fun e w' => e = .returned (.string ⟨(Hx.encode l).toArray⟩) ∧ Below w.heap.size w w' := Any.hex_EncodeToString_bytes Tryz.laysPah39 bs os cs l w hsrc hb hbig
open Go.RowKit Go.Lib in
theorem Tryz.hex_EncodeToString_nil (w : World) :
    Calls Tryz.prog 289 #[.slice none 0 0] w fun e w' => e = .returned (.string ⟨#[]⟩) ∧ Below w.heap.size w w' := Any.hex_EncodeToString_nil Tryz.laysPah39 w
def Tryz.laysPah43_ren : Go.Shelf.Ren := ⟨fun | 43 => 288 | 42 => 310 | 44 => 311 | n => n, fun | 9 => 9 | 30 => 44 | 35 => 176 | 3 => 3 | 38 => 182 | 4 => 4 | 0 => 0 | 5 => 5 | 47 => 204 | 46 => 172 | 45 => 228 | n => n, fun | 0 => 1 | n => n⟩
theorem Tryz.laysPah43 : Go.Proofs.Lays.ph43 Tryz.prog Tryz.laysPah43_ren := {
  mixed := by kernel_rfl
  f42 := Tryz.func310.trans (congrArg some (by kernel_rfl))
  f43 := Tryz.func288.trans (congrArg some (by kernel_rfl))
  f44 := Tryz.func311.trans (congrArg some (by kernel_rfl))
  t0 := Tryz.underlying0
  a0 := Tryz.isAgg0
  z0 := Tryz.sizeOf0
  v0 := Tryz.zeroValue0
  t3 := Tryz.underlying3
  a3 := Tryz.isAgg3
  z3 := Tryz.sizeOf3
  v3 := Tryz.zeroValue3
  t4 := Tryz.underlying4
  a4 := Tryz.isAgg4
  z4 := Tryz.sizeOf4
  v4 := Tryz.zeroValue4
  t5 := Tryz.underlying5
  a5 := Tryz.isAgg5
  z5 := Tryz.sizeOf5
  v5 := Tryz.zeroValue5
  t9 := Tryz.underlying9
  a9 := Tryz.isAgg9
  z9 := Tryz.sizeOf9
  v9 := Tryz.zeroValue9
  t30 := Tryz.underlying44
  a30 := Tryz.isAgg44
  z30 := Tryz.sizeOf44
  v30 := Tryz.zeroValue44
  t35 := Tryz.underlying176
  a35 := Tryz.isAgg176
  z35 := Tryz.sizeOf176
  v35 := Tryz.zeroValue176
  t38 := Tryz.underlying182
  a38 := Tryz.isAgg182
  z38 := Tryz.sizeOf182
  v38 := Tryz.zeroValue182
  t45 := Tryz.underlying228
  a45 := Tryz.isAgg228
  z45 := Tryz.sizeOf228
  v45 := Tryz.zeroValue228
  t46 := Tryz.underlying172
  a46 := Tryz.isAgg172
  z46 := Tryz.sizeOf172
  v46 := Tryz.zeroValue172
  t47 := Tryz.underlying204
  a47 := Tryz.isAgg204
  z47 := Tryz.sizeOf204
  v47 := Tryz.zeroValue204
  g0 := by kernel_rfl
  info5 := by kernel_rfl }
open Go.RowKit Go.Lib in
theorem Tryz.hex_DecodeString_owns (s : ByteArray) (w : World) (ev : Value) (hE : w.cell? ⟨1, 0, none⟩ = some ev) (hbig : s.size ≤ 281474976710656) :
    Calls Tryz.prog 288 #[.string s] w fun e w' => ∃ v, e = .returned (.tuple #[v, Hx.errVal 204 ev (Hx.decode s.data.toList).2]) ∧
      w'.ownsRow w.heap.size 5 1 v (Hx.decode s.data.toList).1.length ((Hx.decode s.data.toList).1.map fun b => Value.int .u8 (b.toNat : Int)) ∧ Below w.heap.size w w' := Any.hex_DecodeString_owns Tryz.laysPah43 s w ev hE hbig
end Go.Proofs

set_option linter.unusedSimpArgs false
set_option linter.unusedVariables false
set_option linter.unnecessarySimpa false
namespace Go.Proofs.YtenfajgpdhgknaaGreatDoor
open Go Go.RowKit

theorem Has.below {w w' : World} (h : Has [] w) (hb : Below w.heap.size w w') : St w (idsOf []) [] w' :=
  ⟨⟨fun _ hr => by simp at hr, by simp [idsOf], fun _ hi => by simp [idsOf] at hi, Nat.le_trans h.room hb.size, h.glob.keep fun k hk => hb.block k (Nat.lt_of_lt_of_le hk h.room)⟩, hb.os, hb.tape, hb.output, hb.size, fun _ hi => by simp [idsOf] at hi, fun k hk _ => hb.block k hk⟩
theorem below_grow (w : World) (k : Nat) (os : Array Obj) : Below w.heap.size w (Sort.grow (w.drewN k) os) :=
  ⟨rfl, rfl, rfl, by simp [Sort.grow, World.drewN], fun j hj => by
    simp only [Sort.grow, World.drewN]
    rw [Array.getElem?_append_left hj]⟩

theorem C_itoa (n : Int) (h0 : -9223372036854775808 ≤ n) (h1 : n ≤ 9223372036854775807) : Ct Tryz.prog 174 [.int .i64 n] [] (fun _ => True) (fun v A' => v = str (dec n) ∧ A' = []) := fun w hA _ => by
  refine (Tryz.strconv_Itoa n h0 h1 w hA.glob.1).mono fun e w' h => ?_
  obtain ⟨rfl, k, os, rfl⟩ := h
  exact ⟨_, [], rfl, ⟨rfl, rfl⟩, hA.below (below_grow w k os)⟩

/-- What Atoi says. -/
def atoiPost (t : Str) (v : Value) : Prop := (∃ n, Lib.atoiAll t = .ok n ∧ v = .tuple #[.int .i64 n, .nilIface]) ∨ ((∀ n, Lib.atoiAll t ≠ .ok n) ∧ ∃ n te pe, v = .tuple #[.int .i64 n, .iface te pe])
theorem C_atoi (t : Str) (ht : t.length ≤ 281474976710656) : Ct Tryz.prog 293 [str t] [] (fun _ => True) (fun v A' => atoiPost t v ∧ A' = []) := fun w hA _ => by
  have hs : (ByteArray.mk t.toArray).size = t.length := size_mk t
  have hl : (ByteArray.mk t.toArray).data.toList = t := by simp
  obtain ⟨tp, p, hv1⟩ := hA.glob.two
  obtain ⟨tp', p', hv2⟩ := hA.glob.three
  rcases hat : Lib.atoiAll t with n | _ | _
  · skip
    refine (Tryz.strconv_Atoi_ok ⟨t.toArray⟩ (by rw [hs]; omega) n (by rw [hl]; exact hat) w).mono fun e w' h => ?_
    obtain ⟨rfl, h⟩ := h
    have hb : Below w.heap.size w w' := by
      rcases h with rfl | ⟨q, rfl⟩
      · exact Below.refl _ _
      · exact ⟨rfl, rfl, rfl, by rw [Lib.bytesWorld_size]; omega, fun k hk => Lib.bytesWorld_at_old w _ _ k hk⟩
    exact ⟨_, [], rfl, ⟨.inl ⟨n, hat, rfl⟩, rfl⟩, hA.below hb⟩
  · skip
    refine (Any.strconv_Atoi_syntax_var Tryz.laysC172 ⟨t.toArray⟩ (by rw [hs]; omega) (by rw [hl]; exact hat) tp p w hv1).mono fun e w' h => ?_
    obtain ⟨N, rfl, _, _, hb⟩ := h
    exact ⟨_, [], rfl, ⟨.inr ⟨fun n hn => by rw [hat] at hn; simp at hn, _, _, _, rfl⟩, rfl⟩, hA.below hb⟩
  · skip
    refine (Tryz.strconv_Atoi_range_var ⟨t.toArray⟩ (by rw [hs]; omega) (by rw [hl]; exact hat) tp' p' w hv2).mono fun e w' h => ?_
    obtain ⟨N, rfl, _, _, hb⟩ := h
    exact ⟨_, [], rfl, ⟨.inr ⟨fun n hn => by rw [hat] at hn; simp at hn, _, _, _, rfl⟩, rfl⟩, hA.below hb⟩
end Go.Proofs.YtenfajgpdhgknaaGreatDoor

set_option linter.unusedSimpArgs false
set_option linter.unusedVariables false
set_option linter.unnecessarySimpa false
namespace Go.Proofs.YtenfajgpdhgknaaGreatDoor
open Go Go.RowKit
attribute [local irreducible] JL JC JQ JO LO PO JA JX Ct

theorem C_within (n lo hi : Int) :
    Ct Tryz.prog 143 [.int .i64 n, .int .i64 lo, .int .i64 hi] [] (fun _ => True) (fun v A' => v = .bool (decide (lo ≤ n) && decide (n ≤ hi)) ∧ A' = []) := by
  refine Ct.intro Tryz.func143 rfl Tryz.ntmps143 (Nat.le_of_ble_eq_true rfl) fun w0 hpre => ?_
  refine JC.seq ?_
  refine JC.region ?_
  refine JL.pure rfl (PO.assign (v := .bool false) rfl) ?_
  refine JL.nil ?_
  refine JQ.seq ?_
  refine JC.seq ?_
  refine JC.region ?_
  refine JL.pure rfl (PO.move (v := .int .i64 n) rfl) ?_
  refine JL.pure rfl (PO.move (v := .int .i64 lo) rfl) ?_
  refine JL.pure rfl (PO.geq rfl rfl) ?_
  refine JL.pure rfl (PO.move (v := .bool (decide (lo ≤ n))) rfl) ?_
  by_cases h_1 : lo ≤ n
  · skip
    refine JL.guardOn rfl rfl rfl (congrArg Value.bool (decide_eq_true h_1)) (JO.ofLO (LO.pure (PO.move (v := .int .i64 n) rfl))) ?_
    rintro _ _ ⟨rfl, rfl⟩
    refine JL.guardOn rfl rfl rfl (congrArg Value.bool (decide_eq_true h_1)) (JO.ofLO (LO.pure (PO.move (v := .int .i64 hi) rfl))) ?_
    rintro _ _ ⟨rfl, rfl⟩
    refine JL.guardOn rfl rfl rfl (congrArg Value.bool (decide_eq_true h_1)) (JO.ofLO (LO.pure (PO.leq rfl rfl))) ?_
    rintro _ _ ⟨rfl, rfl⟩
    refine JL.pure rfl (PO.pickT (v := .bool (decide (n ≤ hi))) (congrArg Value.bool (decide_eq_true h_1)) rfl) ?_
    refine JL.pure rfl (PO.assign (v := .bool (decide (n ≤ hi))) rfl) ?_
    refine JL.nil ?_
    refine JQ.seq ?_
    refine JC.ret ?_
    refine Done.one (.inl rfl) rfl (RV.tmp (v := .bool (decide (n ≤ hi))) rfl) (List.nil_sublist _) ?_
    refine ⟨?_, rfl⟩
    simp_all <;> omega
  · skip
    refine JL.guardOff (b := false) rfl rfl rfl (congrArg Value.bool (decide_eq_false h_1)) ?_
    refine JL.guardOff (b := false) rfl rfl rfl (congrArg Value.bool (decide_eq_false h_1)) ?_
    refine JL.guardOff (b := false) rfl rfl rfl (congrArg Value.bool (decide_eq_false h_1)) ?_
    refine JL.pure rfl (PO.pickF (v := .bool false) (congrArg Value.bool (decide_eq_false h_1)) rfl) ?_
    refine JL.pure rfl (PO.assign (v := .bool false) rfl) ?_
    refine JL.nil ?_
    refine JQ.seq ?_
    refine JC.ret ?_
    refine Done.one (.inl rfl) rfl (RV.tmp (v := .bool false) rfl) (List.nil_sublist _) ?_
    refine ⟨?_, rfl⟩
    simp_all <;> omega

theorem C_keyOk (key : Str) (hk : key.length ≤ 1000000000000) :
    Ct Tryz.prog 299 [str key] [] (fun _ => True) (fun v A' => v = .bool (keyOk key) ∧ A' = []) := by
  refine Ct.intro Tryz.func299 rfl Tryz.ntmps299 (Nat.le_of_ble_eq_true rfl) fun w0 hpre => ?_
  refine JC.seq ?_
  refine JC.region ?_
  refine JL.pure rfl (PO.assign (v := .bool false) rfl) ?_
  refine JL.nil ?_
  refine JQ.seq ?_
  refine JC.seq ?_
  refine JC.seq ?_
  refine JC.region ?_
  refine JL.pure rfl (PO.move (v := str key) rfl) ?_
  refine JL.pure rfl (PO.lenS Tryz.underlying9 rfl) ?_
  refine JL.pure rfl (PO.move (v := .int .i64 0) rfl) ?_
  refine JL.nil ?_
  refine JQ.seq ?_
  refine JC.block ?_
  refine JC.loop (fun k_ e_ L_ => ∃ j : Nat, (j ≤ key.length) ∧ (∀ i, i < j → i < key.length → keyByte (key.getD i 0) = true) ∧ e_ 0 = str key ∧ e_ 5 = .int .i64 (key.length : Int) ∧ e_ 6 = .int .i64 ((j : Nat) : Int) ∧ L_ = [] ∧ k_ = key.length - j) _ ⟨0, by omega, (fun i hi => absurd hi (Nat.not_lt_zero i)), rfl, rfl, rfl, rfl, rfl⟩ ?_
  rintro _ e_1 _ ⟨j, hj, hN, he_2, he_3, he_4, rfl, rfl⟩
  refine JC.seq ?_
  refine JC.region ?_
  refine JL.pure rfl (PO.lss he_4 he_3) ?_
  refine JL.nil ?_
  refine JQ.seq ?_
  refine JC.seq ?_
  by_cases h_5 : ((j : Nat) : Int) < (key.length : Int)
  · skip
    refine JC.condT (congrArg Value.bool (decide_eq_true h_5)) ?_
    refine JC.skip ?_
    refine JQ.seq ?_
    refine JC.seq ?_
    refine JC.block ?_
    refine JC.seq ?_
    refine JC.region ?_
    refine JL.pure rfl (PO.move (v := .int .i64 ((j : Nat) : Int)) he_4) ?_
    refine JL.pure rfl (PO.assign (v := .int .i64 ((j : Nat) : Int)) rfl) ?_
    refine JL.nil ?_
    refine JQ.seq ?_
    refine JC.seq ?_
    refine JC.region ?_
    refine JL.pure rfl (PO.move (v := str key) he_2) ?_
    refine JL.pure rfl (PO.move (v := .int .i64 ((j : Nat) : Int)) rfl) ?_
    refine JL.pure rfl (PO.indexS (i := j) (c := key.getD j 0) Tryz.underlying9 rfl rfl (getD_some (by omega))) ?_
    have hu_6 := UInt8.toNat_lt (key.getD j 0)
    refine JL.pure rfl (PO.lss rfl rfl) ?_
    refine JL.pure rfl (PO.move (v := .bool (decide (((key.getD j 0).toNat : Int) < 33))) rfl) ?_
    by_cases h_7 : ((key.getD j 0).toNat : Int) < 33
    · skip
      refine JL.guardOff (b := true) rfl rfl rfl (congrArg Value.bool (decide_eq_true h_7)) ?_
      refine JL.guardOff (b := true) rfl rfl rfl (congrArg Value.bool (decide_eq_true h_7)) ?_
      refine JL.guardOff (b := true) rfl rfl rfl (congrArg Value.bool (decide_eq_true h_7)) ?_
      refine JL.guardOff (b := true) rfl rfl rfl (congrArg Value.bool (decide_eq_true h_7)) ?_
      refine JL.pure rfl (PO.pickT (v := .bool true) (congrArg Value.bool (decide_eq_true h_7)) rfl) ?_
      refine JL.pure rfl (PO.move (v := .bool true) rfl) ?_
      refine JL.guardOff (b := true) rfl rfl rfl (congrArg Value.bool rfl) ?_
      refine JL.guardOff (b := true) rfl rfl rfl (congrArg Value.bool rfl) ?_
      refine JL.guardOff (b := true) rfl rfl rfl (congrArg Value.bool rfl) ?_
      refine JL.guardOff (b := true) rfl rfl rfl (congrArg Value.bool rfl) ?_
      refine JL.pure rfl (PO.pickT (v := .bool true) (congrArg Value.bool rfl) rfl) ?_
      refine JL.nil ?_
      refine JQ.seq ?_
      refine JC.condT (congrArg Value.bool rfl) ?_
      refine JC.seq ?_
      refine JC.region ?_
      refine JL.pure rfl (PO.assign (v := .bool false) rfl) ?_
      refine JL.nil ?_
      refine JQ.seq ?_
      refine JC.ret ?_
      refine JQ.blockRet ?_
      refine JQ.thenRet ?_
      refine JQ.thenRet ?_
      refine JQ.blockRet ?_
      refine JQ.thenRet ?_
      refine Done.one (.inl rfl) rfl (RV.tmp (v := .bool false) rfl) (List.nil_sublist _) ?_
      refine ⟨?_, rfl⟩
      rw [keyOk_bad (j := j) (by omega) (by simp only [keyByte, Bool.and_eq_true, Bool.and_eq_false_iff, decide_eq_true_eq, decide_eq_false_iff_not, Bool.not_eq_true', Bool.not_eq_false']; omega)]
    · skip
      refine JL.guardOn rfl rfl rfl (congrArg Value.bool (decide_eq_false h_7)) (JO.ofLO (LO.pure (PO.move (v := str key) he_2))) ?_
      rintro _ _ ⟨rfl, rfl⟩
      refine JL.guardOn rfl rfl rfl (congrArg Value.bool (decide_eq_false h_7)) (JO.ofLO (LO.pure (PO.move (v := .int .i64 ((j : Nat) : Int)) rfl))) ?_
      rintro _ _ ⟨rfl, rfl⟩
      refine JL.guardOn rfl rfl rfl (congrArg Value.bool (decide_eq_false h_7)) (JO.ofLO (LO.pure (PO.indexS (i := j) (c := key.getD j 0) Tryz.underlying9 rfl rfl (getD_some (by omega))))) ?_
      rintro _ _ ⟨rfl, rfl⟩
      have hu_8 := UInt8.toNat_lt (key.getD j 0)
      refine JL.guardOn rfl rfl rfl (congrArg Value.bool (decide_eq_false h_7)) (JO.ofLO (LO.pure (PO.gtr rfl rfl))) ?_
      rintro _ _ ⟨rfl, rfl⟩
      refine JL.pure rfl (PO.pickF (v := .bool (decide (126 < ((key.getD j 0).toNat : Int)))) (congrArg Value.bool (decide_eq_false h_7)) rfl) ?_
      refine JL.pure rfl (PO.move (v := .bool (decide (126 < ((key.getD j 0).toNat : Int)))) rfl) ?_
      by_cases h_9 : 126 < ((key.getD j 0).toNat : Int)
      · skip
        refine JL.guardOff (b := true) rfl rfl rfl (congrArg Value.bool (decide_eq_true h_9)) ?_
        refine JL.guardOff (b := true) rfl rfl rfl (congrArg Value.bool (decide_eq_true h_9)) ?_
        refine JL.guardOff (b := true) rfl rfl rfl (congrArg Value.bool (decide_eq_true h_9)) ?_
        refine JL.guardOff (b := true) rfl rfl rfl (congrArg Value.bool (decide_eq_true h_9)) ?_
        refine JL.pure rfl (PO.pickT (v := .bool true) (congrArg Value.bool (decide_eq_true h_9)) rfl) ?_
        refine JL.nil ?_
        refine JQ.seq ?_
        refine JC.condT (congrArg Value.bool rfl) ?_
        refine JC.seq ?_
        refine JC.region ?_
        refine JL.pure rfl (PO.assign (v := .bool false) rfl) ?_
        refine JL.nil ?_
        refine JQ.seq ?_
        refine JC.ret ?_
        refine JQ.blockRet ?_
        refine JQ.thenRet ?_
        refine JQ.thenRet ?_
        refine JQ.blockRet ?_
        refine JQ.thenRet ?_
        refine Done.one (.inl rfl) rfl (RV.tmp (v := .bool false) rfl) (List.nil_sublist _) ?_
        refine ⟨?_, rfl⟩
        rw [keyOk_bad (j := j) (by omega) (by simp only [keyByte, Bool.and_eq_true, Bool.and_eq_false_iff, decide_eq_true_eq, decide_eq_false_iff_not, Bool.not_eq_true', Bool.not_eq_false']; omega)]
      · skip
        refine JL.guardOn rfl rfl rfl (congrArg Value.bool (decide_eq_false h_9)) (JO.ofLO (LO.pure (PO.move (v := str key) he_2))) ?_
        rintro _ _ ⟨rfl, rfl⟩
        refine JL.guardOn rfl rfl rfl (congrArg Value.bool (decide_eq_false h_9)) (JO.ofLO (LO.pure (PO.move (v := .int .i64 ((j : Nat) : Int)) rfl))) ?_
        rintro _ _ ⟨rfl, rfl⟩
        refine JL.guardOn rfl rfl rfl (congrArg Value.bool (decide_eq_false h_9)) (JO.ofLO (LO.pure (PO.indexS (i := j) (c := key.getD j 0) Tryz.underlying9 rfl rfl (getD_some (by omega))))) ?_
        rintro _ _ ⟨rfl, rfl⟩
        have hu_10 := UInt8.toNat_lt (key.getD j 0)
        refine JL.guardOn rfl rfl rfl (congrArg Value.bool (decide_eq_false h_9)) (JO.ofLO (LO.pure (PO.eqlI rfl rfl))) ?_
        rintro _ _ ⟨rfl, rfl⟩
        refine JL.pure rfl (PO.pickF (v := .bool (decide (((key.getD j 0).toNat : Int) = 42))) (congrArg Value.bool (decide_eq_false h_9)) rfl) ?_
        refine JL.nil ?_
        refine JQ.seq ?_
        by_cases h_11 : ((key.getD j 0).toNat : Int) = 42
        · skip
          refine JC.condT (congrArg Value.bool (decide_eq_true h_11)) ?_
          refine JC.seq ?_
          refine JC.region ?_
          refine JL.pure rfl (PO.assign (v := .bool false) rfl) ?_
          refine JL.nil ?_
          refine JQ.seq ?_
          refine JC.ret ?_
          refine JQ.blockRet ?_
          refine JQ.thenRet ?_
          refine JQ.thenRet ?_
          refine JQ.blockRet ?_
          refine JQ.thenRet ?_
          refine Done.one (.inl rfl) rfl (RV.tmp (v := .bool false) rfl) (List.nil_sublist _) ?_
          refine ⟨?_, rfl⟩
          rw [keyOk_bad (j := j) (by omega) (by simp only [keyByte, Bool.and_eq_true, Bool.and_eq_false_iff, decide_eq_true_eq, decide_eq_false_iff_not, Bool.not_eq_true', Bool.not_eq_false']; omega)]
        · skip
          refine JC.condF (congrArg Value.bool (decide_eq_false h_11)) ?_
          refine JC.skip ?_
          refine JQ.blockN ?_
          refine JQ.seq ?_
          refine JC.region ?_
          refine JL.pure rfl (PO.add (c := ((j + 1 : Nat) : Int)) he_4 rfl (wr (by omega))) ?_
          refine JL.pure rfl (PO.move (v := .int .i64 ((j + 1 : Nat) : Int)) rfl) ?_
          refine JL.nil ?_
          refine JQ.again (key.length - (j + 1)) (by omega) ⟨j + 1, by omega, (fun i hi hl => if h : i = j then h ▸ (by simp only [keyByte, Bool.and_eq_true, Bool.and_eq_false_iff, decide_eq_true_eq, decide_eq_false_iff_not, Bool.not_eq_true', Bool.not_eq_false']; omega : keyByte (key.getD j 0) = true) else hN i (by omega) hl), he_2, he_3, rfl, rfl, rfl⟩
  · skip
    refine JC.condF (congrArg Value.bool (decide_eq_false h_5)) ?_
    refine JC.exit ?_
    refine JQ.thenExit ?_
    refine JQ.thenExit ?_
    refine JQ.blockE ?_
    refine JQ.seq ?_
    refine JC.seq ?_
    refine JC.region ?_
    refine JL.pure rfl (PO.move (v := str key) he_2) ?_
    refine JL.pure rfl (PO.lenS Tryz.underlying9 rfl) ?_
    refine JL.op rfl (JO.call [] Tryz.call143 rfl (C_within (key.length : Int) 1 40) rfl (fun _ _ => trivial)) ?_
    rintro _ _ ⟨_, ⟨rfl, rfl⟩, rfl⟩
    refine JL.pure rfl (PO.assign (v := .bool (decide (1 ≤ (key.length : Int)) && decide ((key.length : Int) ≤ 40))) rfl) ?_
    refine JL.nil ?_
    refine JQ.seq ?_
    refine JC.ret ?_
    refine Done.one (.inl rfl) rfl (RV.tmp (v := .bool (decide (1 ≤ (key.length : Int)) && decide ((key.length : Int) ≤ 40))) rfl) (List.nil_sublist _) ?_
    refine ⟨?_, rfl⟩
    rw [keyOk_good (j := j) (by omega) hN]
    exact congrArg Value.bool (by congr 1 <;> exact decide_eq_decide.2 (by omega))

theorem C_cellAt1 (kb : Nat) (key : Str) (x : Cell) :
    Ct Tryz.prog 292 [.agg #[str x.1, str x.2], .pointer (some ⟨kb, 0, none⟩)] [bk kb 9 [str key]] (fun _ => True) (fun v A' => v = .bool (decide (x.1 = key)) ∧ A' = [bk kb 9 [str key]]) := by
  refine Ct.intro Tryz.func292 rfl Tryz.ntmps292 (Nat.le_of_ble_eq_true rfl) fun w0 hpre => ?_
  refine JC.seq ?_
  refine JC.region ?_
  refine JL.op rfl (JO.box (cs := [str x.1, str x.2]) rfl rfl) ?_
  rintro _ _ ⟨b_1, rfl, rfl⟩
  refine JL.pure rfl (PO.assign (v := .bool false) rfl) ?_
  refine JL.nil ?_
  refine JQ.seq ?_
  refine JC.seq ?_
  refine JC.region ?_
  refine JL.pure rfl (PO.fieldAddr fo113_0 rfl) ?_
  refine JL.ld rfl (LO.load1 0 (v := str x.1) rfl rfl Tryz.isAgg9 rfl) ?_
  refine JL.ld rfl (LO.load1 1 (v := str key) rfl rfl Tryz.isAgg9 rfl) ?_
  refine JL.pure rfl (PO.eqlS rfl rfl) ?_
  refine JL.pure rfl (PO.assign (v := .bool (decide (x.1 = key))) rfl) ?_
  refine JL.nil ?_
  refine JQ.seq ?_
  refine JC.ret ?_
  refine JQ.perm (pick_perm [1] (A := [bk kb 9 [str key]]) (F := [bk b_1 113 [str x.1, str x.2]]) rfl).symm ?_
  refine Done.one (.inl rfl) rfl (RV.tmp (v := .bool (decide (x.1 = key))) rfl) (List.sublist_append_left [bk kb 9 [str key]] [bk b_1 113 [str x.1, str x.2]]) ?_
  exact ⟨rfl, rfl⟩

theorem C_put1 (kb : Nat) (key : Str) (x : Cell) :
    Ct Tryz.prog 301 [.agg #[str x.1, str x.2], .pointer (some ⟨kb, 0, none⟩)] [bk kb 9 [str key]] (fun _ => True) (fun v A' => v = .bool (decide (x.1 = key)) ∧ A' = [bk kb 9 [str key]]) := by
  refine Ct.intro Tryz.func301 rfl Tryz.ntmps301 (Nat.le_of_ble_eq_true rfl) fun w0 hpre => ?_
  refine JC.seq ?_
  refine JC.region ?_
  refine JL.op rfl (JO.box (cs := [str x.1, str x.2]) rfl rfl) ?_
  rintro _ _ ⟨b_1, rfl, rfl⟩
  refine JL.pure rfl (PO.assign (v := .bool false) rfl) ?_
  refine JL.nil ?_
  refine JQ.seq ?_
  refine JC.seq ?_
  refine JC.region ?_
  refine JL.pure rfl (PO.fieldAddr fo113_0 rfl) ?_
  refine JL.ld rfl (LO.load1 0 (v := str x.1) rfl rfl Tryz.isAgg9 rfl) ?_
  refine JL.ld rfl (LO.load1 1 (v := str key) rfl rfl Tryz.isAgg9 rfl) ?_
  refine JL.pure rfl (PO.eqlS rfl rfl) ?_
  refine JL.pure rfl (PO.assign (v := .bool (decide (x.1 = key))) rfl) ?_
  refine JL.nil ?_
  refine JQ.seq ?_
  refine JC.ret ?_
  refine JQ.perm (pick_perm [1] (A := [bk kb 9 [str key]]) (F := [bk b_1 113 [str x.1, str x.2]]) rfl).symm ?_
  refine Done.one (.inl rfl) rfl (RV.tmp (v := .bool (decide (x.1 = key))) rfl) (List.sublist_append_left [bk kb 9 [str key]] [bk b_1 113 [str x.1, str x.2]]) ?_
  exact ⟨rfl, rfl⟩

theorem C_put2 (kb : Nat) (key : Str) (x : Cell) :
    Ct Tryz.prog 302 [.agg #[str x.1, str x.2], .pointer (some ⟨kb, 0, none⟩)] [bk kb 9 [str key]] (fun _ => True) (fun v A' => v = .bool (gtrB x.1 key) ∧ A' = [bk kb 9 [str key]]) := by
  refine Ct.intro Tryz.func302 rfl Tryz.ntmps302 (Nat.le_of_ble_eq_true rfl) fun w0 hpre => ?_
  refine JC.seq ?_
  refine JC.region ?_
  refine JL.op rfl (JO.box (cs := [str x.1, str x.2]) rfl rfl) ?_
  rintro _ _ ⟨b_1, rfl, rfl⟩
  refine JL.pure rfl (PO.assign (v := .bool false) rfl) ?_
  refine JL.nil ?_
  refine JQ.seq ?_
  refine JC.seq ?_
  refine JC.region ?_
  refine JL.pure rfl (PO.fieldAddr fo113_0 rfl) ?_
  refine JL.ld rfl (LO.load1 0 (v := str x.1) rfl rfl Tryz.isAgg9 rfl) ?_
  refine JL.ld rfl (LO.load1 1 (v := str key) rfl rfl Tryz.isAgg9 rfl) ?_
  refine JL.pure rfl (PO.gtrS rfl rfl) ?_
  refine JL.pure rfl (PO.assign (v := .bool (!Op.bytesLess x.1 key && !decide (x.1 = key))) rfl) ?_
  refine JL.nil ?_
  refine JQ.seq ?_
  refine JC.ret ?_
  refine JQ.perm (pick_perm [1] (A := [bk kb 9 [str key]]) (F := [bk b_1 113 [str x.1, str x.2]]) rfl).symm ?_
  refine Done.one (.inl rfl) rfl (RV.tmp (v := .bool (!Op.bytesLess x.1 key && !decide (x.1 = key))) rfl) (List.sublist_append_left [bk kb 9 [str key]] [bk b_1 113 [str x.1, str x.2]]) ?_
  exact ⟨rfl, rfl⟩

theorem C_addSpan1 (kb : Nat) (key : Str) (x : Str) :
    Ct Tryz.prog 297 [str x, .pointer (some ⟨kb, 0, none⟩)] [bk kb 9 [str key]] (fun _ => True) (fun v A' => v = .bool (geqB x key) ∧ A' = [bk kb 9 [str key]]) := by
  refine Ct.intro Tryz.func297 rfl Tryz.ntmps297 (Nat.le_of_ble_eq_true rfl) fun w0 hpre => ?_
  refine JC.seq ?_
  refine JC.region ?_
  refine JL.pure rfl (PO.assign (v := .bool false) rfl) ?_
  refine JL.nil ?_
  refine JQ.seq ?_
  refine JC.seq ?_
  refine JC.region ?_
  refine JL.pure rfl (PO.move (v := str x) rfl) ?_
  refine JL.ld rfl (LO.load1 0 (v := str key) rfl rfl Tryz.isAgg9 rfl) ?_
  refine JL.pure rfl (PO.geqS rfl rfl) ?_
  refine JL.pure rfl (PO.assign (v := .bool (!(Op.bytesLess x key))) rfl) ?_
  refine JL.nil ?_
  refine JQ.seq ?_
  refine JC.ret ?_
  refine Done.one (.inl rfl) rfl (RV.tmp (v := .bool (!(Op.bytesLess x key))) rfl) (List.Sublist.refl _) ?_
  exact ⟨rfl, rfl⟩

theorem C_cellAt (a : Option Addr) (c : Nat) (s : List Cell) (key : Str) (hn : s.length ≤ 1000000000000) :
    Ct Tryz.prog 274 [.slice a s.length c, str key] [] (fun w_ => Sees w_ (.slice a s.length c) 2 s.length (s.flatMap encC)) (fun v A' => v = .int .i64 (idxI (fun q_ => decide (q_.1 = key)) s) ∧ A' = []) := by
  refine Ct.intro Tryz.func274 rfl Tryz.ntmps274 (Nat.le_of_ble_eq_true rfl) fun w0 hpre => ?_
  have hs_a : Sees w0 _ _ _ _ := hpre
  refine JC.seq ?_
  refine JC.region ?_
  refine JL.op rfl (JO.box (cs := [str key]) rfl rfl) ?_
  rintro _ _ ⟨b_1, rfl, rfl⟩
  refine JL.pure rfl (PO.assign (v := .int .i64 0) rfl) ?_
  refine JL.nil ?_
  refine JQ.seq ?_
  refine JC.seq ?_
  refine JC.region ?_
  refine JL.pure rfl (PO.move (v := .slice a s.length c) rfl) ?_
  refine JL.pure rfl (PO.makeFunc (fv := []) (cv := [.pointer (some ⟨b_1, 0, none⟩)]) rfl rfl) ?_
  refine JL.op rfl (JO.call [0] Tryz.call291 rfl (C_idxC 292 Tryz.call292 b_1 key (fun q_ => decide (q_.1 = key)) (C_cellAt1 b_1 key) a c s (by omega)) rfl (fun w hw => ⟨hw.seeOut_ hs_a (fun _ _ => List.not_mem_nil), hw.apartF 0 hs_a rfl List.not_mem_nil⟩)) ?_
  rintro _ _ ⟨_, ⟨rfl, rfl⟩, rfl⟩
  have hix1 := idxI_lo (fun q_ => decide (q_.1 = key)) s
  have hfl1 := findAt_le (fun q_ => decide (q_.1 = key)) s
  refine JL.pure rfl (PO.assign (v := .int .i64 (idxI (fun q_ => decide (q_.1 = key)) s)) rfl) ?_
  refine JL.nil ?_
  refine JQ.seq ?_
  refine JC.ret ?_
  refine Done.one (.inl rfl) rfl (RV.tmp (v := .int .i64 (idxI (fun q_ => decide (q_.1 = key)) s)) rfl) (List.nil_sublist _) ?_
  exact ⟨rfl, rfl⟩

theorem C_getKey (a : Option Addr) (c : Nat) (s : List Cell) (key : Str) (hn : s.length ≤ 1000000000000) :
    Ct Tryz.prog 214 [.slice a s.length c, str key] [] (fun w_ => Sees w_ (.slice a s.length c) 2 s.length (s.flatMap encC)) (fun v A' => v = str (getKey s key) ∧ A' = []) := by
  refine Ct.intro Tryz.func214 rfl Tryz.ntmps214 (Nat.le_of_ble_eq_true rfl) fun w0 hpre => ?_
  have hs_a : Sees w0 _ _ _ _ := hpre
  refine JC.seq ?_
  refine JC.region ?_
  refine JL.pure rfl (PO.assign (v := str []) rfl) ?_
  refine JL.nil ?_
  refine JQ.seq ?_
  refine JC.seq ?_
  refine JC.seq ?_
  refine JC.region ?_
  refine JL.pure rfl (PO.move (v := .slice a s.length c) rfl) ?_
  refine JL.pure rfl (PO.move (v := str key) rfl) ?_
  refine JL.op rfl (JO.call [] Tryz.call274 rfl (C_cellAt a c s key (by omega)) rfl (fun w hw => hw.seeOut_ hs_a (fun _ _ => List.not_mem_nil))) ?_
  rintro _ _ ⟨_, ⟨rfl, rfl⟩, rfl⟩
  have hix0 := idxI_lo (fun q_ => decide (q_.1 = key)) s
  have hfl0 := findAt_le (fun q_ => decide (q_.1 = key)) s
  refine JL.pure rfl (PO.assign (v := .int .i64 (idxI (fun q_ => decide (q_.1 = key)) s)) rfl) ?_
  refine JL.nil ?_
  refine JQ.seq ?_
  refine JC.seq ?_
  refine JC.region ?_
  refine JL.pure rfl (PO.move (v := .int .i64 (idxI (fun q_ => decide (q_.1 = key)) s)) rfl) ?_
  refine JL.pure rfl (PO.geq rfl rfl) ?_
  refine JL.nil ?_
  refine JQ.seq ?_
  by_cases h_1 : 0 ≤ (idxI (fun q_ => decide (q_.1 = key)) s)
  · skip
    have hx_2l : findAt (fun q_ => decide (q_.1 = key)) s < s.length := by omega
    have hx_2e : idxI (fun q_ => decide (q_.1 = key)) s = ((findAt (fun q_ => decide (q_.1 = key)) s : Nat) : Int) := by omega
    refine JC.condT (congrArg Value.bool (decide_eq_true h_1)) ?_
    refine JC.seq ?_
    refine JC.region ?_
    refine JL.pure rfl (PO.move (v := .slice a s.length c) rfl) ?_
    refine JL.pure rfl (PO.move (v := .int .i64 ((findAt (fun q_ => decide (q_.1 = key)) s : Nat) : Int)) (congrArg (Value.int .i64) hx_2e)) ?_
    obtain ⟨hr_3, hr_3b, -⟩ := sees_some hs_a (by omega)
    refine JL.pure rfl (PO.indexAddrV (i := (findAt (fun q_ => decide (q_.1 = key)) s)) Tryz.underlying29 Tryz.sizeOf113 hr_3 hr_3b rfl rfl (by omega)) ?_
    refine JL.pure rfl (PO.fieldAddrE fo113_1 hr_3 rfl) ?_
    refine JL.ld rfl (LO.loadS1 (v := str ((s.getD (findAt (fun q_ => decide (q_.1 = key)) s) c0).2)) hs_a (fun _ _ => List.not_mem_nil) rfl Tryz.isAgg9 (atC2 (by omega))) ?_
    refine JL.pure rfl (PO.assign (v := str ((s.getD (findAt (fun q_ => decide (q_.1 = key)) s) c0).2)) rfl) ?_
    refine JL.nil ?_
    refine JQ.seq ?_
    refine JC.ret ?_
    refine JQ.thenRet ?_
    refine Done.one (.inl rfl) rfl (RV.tmp (v := str ((s.getD (findAt (fun q_ => decide (q_.1 = key)) s) c0).2)) rfl) (List.nil_sublist _) ?_
    refine ⟨?_, rfl⟩
    rw [getKey_found hx_2l]
  · skip
    have hx_4l : findAt (fun q_ => decide (q_.1 = key)) s = s.length := by omega
    refine JC.condF (congrArg Value.bool (decide_eq_false h_1)) ?_
    refine JC.skip ?_
    refine JQ.seq ?_
    refine JC.seq ?_
    refine JC.region ?_
    refine JL.pure rfl (PO.assign (v := str []) rfl) ?_
    refine JL.nil ?_
    refine JQ.seq ?_
    refine JC.ret ?_
    refine Done.one (.inl rfl) rfl (RV.tmp (v := str []) rfl) (List.nil_sublist _) ?_
    refine ⟨?_, rfl⟩
    rw [getKey_none hx_4l]

theorem C_addSpan (a : Option Addr) (c : Nat) (l : List Str) (x : Str) (hn : l.length ≤ 100000000000) :
    Ct Tryz.prog 281 [.slice a l.length c, str x] [Res.row (.slice a l.length c) 9 1 l.length (l.map str)] (fun _ => True) (fun v A' => ∃ a' c', v = .slice a' (addSpan l x).length c' ∧ A' = [.row (.slice a' (addSpan l x).length c') 9 1 (addSpan l x).length ((addSpan l x).map str)]) := by
  refine Ct.intro Tryz.func281 rfl Tryz.ntmps281 (Nat.le_of_ble_eq_true rfl) fun w0 hpre => ?_
  refine JC.seq ?_
  refine JC.region ?_
  refine JL.op rfl (JO.box (cs := [str x]) rfl rfl) ?_
  rintro _ _ ⟨b_1, rfl, rfl⟩
  refine JL.pure rfl (PO.assign (v := .slice none 0 0) rfl) ?_
  refine JL.nil ?_
  refine JQ.seq ?_
  refine JC.seq ?_
  refine JC.region ?_
  refine JL.pure rfl (PO.move (v := .slice a l.length c) rfl) ?_
  refine JL.pure rfl (PO.makeFunc (fv := []) (cv := [.pointer (some ⟨b_1, 0, none⟩)]) rfl rfl) ?_
  refine JL.op rfl (JO.call [0] Tryz.call296 rfl (C_idxS 297 Tryz.call297 b_1 x (fun q_ => geqB q_ x) (C_addSpan1 b_1 x) a c l (by omega)) rfl (fun w hw => ⟨hw.see (i := 1) rfl, hw.apartO 1 0 rfl rfl rfl⟩)) ?_
  rintro _ _ ⟨_, ⟨rfl, rfl⟩, rfl⟩
  have hix1 := idxI_lo (fun q_ => geqB q_ x) l
  have hfl1 := findAt_le (fun q_ => geqB q_ x) l
  refine JL.pure rfl (PO.assign (v := .int .i64 (idxI (fun q_ => geqB q_ x) l)) rfl) ?_
  refine JL.nil ?_
  refine JQ.seq ?_
  refine JC.seq ?_
  refine JC.seq ?_
  refine JC.region ?_
  refine JL.pure rfl (PO.move (v := .int .i64 (idxI (fun q_ => geqB q_ x) l)) rfl) ?_
  refine JL.pure rfl (PO.lss rfl rfl) ?_
  refine JL.nil ?_
  refine JQ.seq ?_
  by_cases h_2 : (idxI (fun q_ => geqB q_ x) l) < 0
  · skip
    have hx_3l : findAt (fun q_ => geqB q_ x) l = l.length := by omega
    refine JC.condT (congrArg Value.bool (decide_eq_true h_2)) ?_
    refine JC.seq ?_
    refine JC.region ?_
    refine JL.pure rfl (PO.move (v := .slice a l.length c) rfl) ?_
    refine JL.ld rfl (LO.load1 0 (v := str x) rfl rfl Tryz.isAgg9 rfl) ?_
    refine JL.op rfl (JO.buildSlice (ps := [(0, str x)]) (cur := #[str x]) Tryz.underlying23 Tryz.sizeOf9 Tryz.zeroValue9 rfl (by kernel_rfl) (by decide) (by decide)) ?_
    rintro _ _ ⟨a_4, rfl, rfl⟩
    refine JL.op rfl (JO.append' 2 (q := 1) (news := ([x] : List Str).map str) (n' := (l ++ ([x] : List Str)).length) (cs' := (l ++ ([x] : List Str)).map str) rfl Tryz.underlying23 Tryz.underlying23 Tryz.typeInfo9 rfl (by' := 16) rfl rfl rfl rfl rfl (fun w hw => Src.sees (hw.see (i := 0) rfl) (oneS _)) (by (try simp only [List.length_append, List.length_cons, List.length_nil, List.length_take, List.length_drop]); omega) (by (try simp only [List.length_append, List.length_cons, List.length_nil, List.length_take, List.length_drop]); omega) (by simp only [List.length_append, List.length_take, List.length_drop, List.length_cons, List.length_nil] <;> first | rfl | omega) (by simp only [List.map_append])) ?_
    rintro _ _ ⟨a_5, c_6, rfl, rfl⟩
    refine JL.pure rfl (PO.assign (v := .slice a_5 ((l ++ ([x] : List Str)).length) c_6) rfl) ?_
    refine JL.nil ?_
    refine JQ.seq ?_
    refine JC.ret ?_
    refine JQ.thenRet ?_
    refine JQ.perm (pick_perm [2] (A := [Res.row (.slice a_5 ((l ++ ([x] : List Str)).length) c_6) 9 1 ((l ++ ([x] : List Str)).length) ((l ++ ([x] : List Str)).map str)]) (F := [Res.row (.slice a_4 1 1) 9 1 1 (([x] : List Str).map str), bk b_1 9 [str x]]) rfl).symm ?_
    refine Done.one (.inl rfl) rfl (RV.tmp (v := .slice a_5 ((l ++ ([x] : List Str)).length) c_6) rfl) (List.sublist_append_left [Res.row (.slice a_5 ((l ++ ([x] : List Str)).length) c_6) 9 1 ((l ++ ([x] : List Str)).length) ((l ++ ([x] : List Str)).map str)] [Res.row (.slice a_4 1 1) 9 1 1 (([x] : List Str).map str), bk b_1 9 [str x]]) ?_
    exact ⟨_, _, by rw [addSpan_end hx_3l], by rw [addSpan_end hx_3l] <;> rfl⟩
  · skip
    have hx_7l : findAt (fun q_ => geqB q_ x) l < l.length := by omega
    have hx_7e : idxI (fun q_ => geqB q_ x) l = ((findAt (fun q_ => geqB q_ x) l : Nat) : Int) := by omega
    refine JC.condF (congrArg Value.bool (decide_eq_false h_2)) ?_
    refine JC.skip ?_
    refine JQ.seq ?_
    refine JC.seq ?_
    refine JC.seq ?_
    refine JC.regionA [bk b_1 9 [str x], Res.row (.slice a l.length c) 9 1 l.length (l.map str)] 5 mixed (by simp) ?_
    refine JA.takeP 0 rfl (by kernel_rfl) (NP.th (NP.th NP.body)) (by kernel_rfl) (by kernel_rfl) rfl (PO.move (v := .slice a l.length c) rfl) ?_
    refine JA.takeP 1 rfl (by kernel_rfl) (NP.th (NP.th NP.body)) (by kernel_rfl) (by kernel_rfl) rfl (PO.move (v := .int .i64 ((findAt (fun q_ => geqB q_ x) l : Nat) : Int)) (congrArg (Value.int .i64) hx_7e)) ?_
    refine JA.facts fun hst => ?_
    obtain ⟨hr_8, hr_8b, -⟩ := row_some 1 rfl (by omega) hst
    refine JA.takeP 2 rfl (by kernel_rfl) (NP.th (NP.th NP.body)) (by kernel_rfl) (by kernel_rfl) rfl (PO.indexAddrV (i := (findAt (fun q_ => geqB q_ x) l)) Tryz.underlying23 Tryz.sizeOf9 hr_8 hr_8b rfl rfl (by omega)) ?_
    refine JA.take 3 rfl (by kernel_rfl) (NP.th (NP.th NP.body)) (by kernel_rfl) (by kernel_rfl) (by kernel_rfl) rfl (LO.loadR1 1 (v := str (l.getD (findAt (fun q_ => geqB q_ x) l) [])) rfl rfl Tryz.isAgg9 (atS (by omega))) ?_
    refine JA.take 4 rfl (by kernel_rfl) (NP.th (NP.th NP.body)) (by kernel_rfl) (by kernel_rfl) (by kernel_rfl) rfl (LO.load1 0 (v := str x) rfl rfl Tryz.isAgg9 rfl) ?_
    refine JA.takeP 5 rfl (by kernel_rfl) (NP.th (NP.th NP.body)) (by kernel_rfl) (by kernel_rfl) rfl (PO.eqlS rfl rfl) ?_
    refine JA.done (by kernel_rfl) ?_
    refine JQ.seq ?_
    by_cases h_9 : (l.getD (findAt (fun q_ => geqB q_ x) l) []) = x
    · skip
      have hsame := h_9
      refine JC.condT (congrArg Value.bool (decide_eq_true h_9)) ?_
      refine JC.seq ?_
      refine JC.region ?_
      refine JL.pure rfl (PO.move (v := .slice a l.length c) rfl) ?_
      refine JL.pure rfl (PO.assign (v := .slice a l.length c) rfl) ?_
      refine JL.nil ?_
      refine JQ.seq ?_
      refine JC.ret ?_
      refine JQ.thenRet ?_
      refine JQ.perm (pick_perm [1] (A := [Res.row (.slice a l.length c) 9 1 l.length (l.map str)]) (F := [bk b_1 9 [str x]]) rfl).symm ?_
      refine Done.one (.inl rfl) rfl (RV.tmp (v := .slice a l.length c) rfl) (List.sublist_append_left [Res.row (.slice a l.length c) 9 1 l.length (l.map str)] [bk b_1 9 [str x]]) ?_
      exact ⟨_, _, by rw [addSpan_same hx_7l hsame], by rw [addSpan_same hx_7l hsame] <;> rfl⟩
    · skip
      have hsame := h_9
      refine JC.condF (congrArg Value.bool (decide_eq_false h_9)) ?_
      refine JC.skip ?_
      refine JQ.seq ?_
      refine JC.seq ?_
      refine JC.region ?_
      refine JL.pure rfl (PO.move (v := .slice a l.length c) rfl) ?_
      refine JL.pure rfl (PO.move (v := .int .i64 ((findAt (fun q_ => geqB q_ x) l : Nat) : Int)) (congrArg (Value.int .i64) hx_7e)) ?_
      refine JL.ld rfl (LO.load1 0 (v := str x) rfl rfl Tryz.isAgg9 rfl) ?_
      refine JL.op rfl (JO.buildSlice (ps := [(0, str x)]) (cur := #[str x]) Tryz.underlying23 Tryz.sizeOf9 Tryz.zeroValue9 rfl (by kernel_rfl) (by decide) (by decide)) ?_
      rintro _ _ ⟨a_10, rfl, rfl⟩
      refine JL.op rfl (JO.call [2, 0] Tryz.call298 rfl (C_insS a a_10 c l (findAt (fun q_ => geqB q_ x) l) x (by omega) (by omega) (by rw [List.length_map, Nat.mul_one])) rfl (fun _ _ => trivial)) ?_
      rintro _ _ ⟨_, ⟨a_11, c_12, rfl, rfl⟩, rfl⟩
      refine JL.pure rfl (PO.assign (v := .slice a_11 ((insertAt (findAt (fun q_ => geqB q_ x) l) x l).length) c_12) rfl) ?_
      refine JL.nil ?_
      refine JQ.seq ?_
      refine JC.ret ?_
      refine Done.one (.inl rfl) rfl (RV.tmp (v := .slice a_11 ((insertAt (findAt (fun q_ => geqB q_ x) l) x l).length) c_12) rfl) (List.sublist_append_left [Res.row (.slice a_11 ((insertAt (findAt (fun q_ => geqB q_ x) l) x l).length) c_12) 9 1 ((insertAt (findAt (fun q_ => geqB q_ x) l) x l).length) ((insertAt (findAt (fun q_ => geqB q_ x) l) x l).map str)] [bk b_1 9 [str x]]) ?_
      exact ⟨_, _, by rw [addSpan_ins hx_7l hsame], by rw [addSpan_ins hx_7l hsame] <;> rfl⟩

theorem C_put (a : Option Addr) (c : Nat) (s : List Cell) (key val : Str) (hn : s.length ≤ 100000000000) (hk : key.length ≤ 1000000000000) :
    Ct Tryz.prog 282 [.slice a s.length c, str key, str val] [Res.row (.slice a s.length c) 113 2 s.length (s.flatMap encC)] (fun _ => True) (fun v A' => ∃ a' c', v = .slice a' (putKey s key val).length c' ∧ A' = [.row (.slice a' (putKey s key val).length c') 113 2 (putKey s key val).length ((putKey s key val).flatMap encC)]) := by
  refine Ct.intro Tryz.func282 rfl Tryz.ntmps282 (Nat.le_of_ble_eq_true rfl) fun w0 hpre => ?_
  refine JC.seq ?_
  refine JC.region ?_
  refine JL.op rfl (JO.box (cs := [str key]) rfl rfl) ?_
  rintro _ _ ⟨b_1, rfl, rfl⟩
  refine JL.pure rfl (PO.assign (v := .slice none 0 0) rfl) ?_
  refine JL.nil ?_
  refine JQ.seq ?_
  refine JC.seq ?_
  refine JC.seq ?_
  refine JC.region ?_
  refine JL.ld rfl (LO.load1 0 (v := str key) rfl rfl Tryz.isAgg9 rfl) ?_
  refine JL.op rfl (JO.call [] Tryz.call299 rfl (C_keyOk key (by omega)) rfl (fun _ _ => trivial)) ?_
  rintro _ _ ⟨_, ⟨rfl, rfl⟩, rfl⟩
  refine JL.pure rfl (PO.not rfl) ?_
  refine JL.pure rfl (PO.move (v := .bool (!(keyOk key))) rfl) ?_
  rcases Bool.eq_false_or_eq_true (keyOk key) with h_2 | h_2
  · skip
    refine JL.guardOn rfl rfl rfl (congrArg Value.bool (congrArg Bool.not h_2)) (JO.ofLO (LO.pure (PO.move (v := str val) rfl))) ?_
    rintro _ _ ⟨rfl, rfl⟩
    refine JL.guardOn rfl rfl rfl (congrArg Value.bool (congrArg Bool.not h_2)) (JO.ofLO (LO.pure (PO.lenS Tryz.underlying9 rfl))) ?_
    rintro _ _ ⟨rfl, rfl⟩
    refine JL.guardOn rfl rfl rfl (congrArg Value.bool (congrArg Bool.not h_2)) (JO.ofLO (LO.pure (PO.gtr rfl rfl))) ?_
    rintro _ _ ⟨rfl, rfl⟩
    refine JL.pure rfl (PO.pickF (v := .bool (decide (60 < (val.length : Int)))) (congrArg Value.bool (congrArg Bool.not h_2)) rfl) ?_
    refine JL.nil ?_
    refine JQ.seq ?_
    by_cases h_3 : 60 < (val.length : Int)
    · skip
      refine JC.condT (congrArg Value.bool (decide_eq_true h_3)) ?_
      refine JC.seq ?_
      refine JC.region ?_
      refine JL.pure rfl (PO.move (v := .slice a s.length c) rfl) ?_
      refine JL.pure rfl (PO.assign (v := .slice a s.length c) rfl) ?_
      refine JL.nil ?_
      refine JQ.seq ?_
      refine JC.ret ?_
      refine JQ.thenRet ?_
      refine JQ.perm (pick_perm [1] (A := [Res.row (.slice a s.length c) 113 2 s.length (s.flatMap encC)]) (F := [bk b_1 9 [str key]]) rfl).symm ?_
      refine Done.one (.inl rfl) rfl (RV.tmp (v := .slice a s.length c) rfl) (List.sublist_append_left [Res.row (.slice a s.length c) 113 2 s.length (s.flatMap encC)] [bk b_1 9 [str key]]) ?_
      have he := (putKey_bad2 (by omega) : putKey s key val = _)
      exact ⟨_, _, by rw [he], by rw [he] <;> rfl⟩
    · skip
      refine JC.condF (congrArg Value.bool (decide_eq_false h_3)) ?_
      refine JC.skip ?_
      refine JQ.seq ?_
      refine JC.seq ?_
      refine JC.region ?_
      refine JL.pure rfl (PO.move (v := .slice a s.length c) rfl) ?_
      refine JL.pure rfl (PO.makeFunc (fv := []) (cv := [.pointer (some ⟨b_1, 0, none⟩)]) rfl rfl) ?_
      refine JL.op rfl (JO.call [0, 0] Tryz.call300 rfl (C_delC 301 Tryz.call301 b_1 key (fun q_ => decide (q_.1 = key)) (C_put1 b_1 key) a c s (by omega)) rfl (fun _ _ => trivial)) ?_
      rintro _ _ ⟨_, ⟨a_4, c_5, rfl, rfl⟩, rfl⟩
      have hfi5 : (s.filter (fun c => !decide (c.1 = key))).length ≤ s.length := List.length_filter_le _ _
      refine JL.pure rfl (PO.assign (v := .slice a_4 ((s.filter (fun c => !decide (c.1 = key))).length) c_5) rfl) ?_
      refine JL.nil ?_
      refine JQ.seq ?_
      refine JC.seq ?_
      refine JC.seq ?_
      refine JC.region ?_
      refine JL.pure rfl (PO.move (v := str val) rfl) ?_
      refine JL.pure rfl (PO.eqlS rfl rfl) ?_
      refine JL.nil ?_
      refine JQ.seq ?_
      by_cases h_6 : val = []
      · skip
        refine JC.condT (congrArg Value.bool (decide_eq_true h_6)) ?_
        refine JC.seq ?_
        refine JC.region ?_
        refine JL.pure rfl (PO.move (v := .slice a_4 ((s.filter (fun c => !decide (c.1 = key))).length) c_5) rfl) ?_
        refine JL.pure rfl (PO.assign (v := .slice a_4 ((s.filter (fun c => !decide (c.1 = key))).length) c_5) rfl) ?_
        refine JL.nil ?_
        refine JQ.seq ?_
        refine JC.ret ?_
        refine JQ.thenRet ?_
        refine JQ.perm (pick_perm [1] (A := [Res.row (.slice a_4 ((s.filter (fun c => !decide (c.1 = key))).length) c_5) 113 2 ((s.filter (fun c => !decide (c.1 = key))).length) ((s.filter (fun c => !decide (c.1 = key))).flatMap encC)]) (F := [bk b_1 9 [str key]]) rfl).symm ?_
        refine Done.one (.inl rfl) rfl (RV.tmp (v := .slice a_4 ((s.filter (fun c => !decide (c.1 = key))).length) c_5) rfl) (List.sublist_append_left [Res.row (.slice a_4 ((s.filter (fun c => !decide (c.1 = key))).length) c_5) 113 2 ((s.filter (fun c => !decide (c.1 = key))).length) ((s.filter (fun c => !decide (c.1 = key))).flatMap encC)] [bk b_1 9 [str key]]) ?_
        have he := (putKey_nil h_2 (by omega) h_6 : putKey s key val = _)
        exact ⟨_, _, by rw [he], by rw [he] <;> rfl⟩
      · skip
        refine JC.condF (congrArg Value.bool (decide_eq_false h_6)) ?_
        refine JC.skip ?_
        refine JQ.seq ?_
        refine JC.seq ?_
        refine JC.region ?_
        refine JL.pure rfl (PO.move (v := .slice a_4 ((s.filter (fun c => !decide (c.1 = key))).length) c_5) rfl) ?_
        refine JL.pure rfl (PO.makeFunc (fv := []) (cv := [.pointer (some ⟨b_1, 0, none⟩)]) rfl rfl) ?_
        refine JL.op rfl (JO.call [0] Tryz.call291 rfl (C_idxC 302 Tryz.call302 b_1 key (fun q_ => gtrB q_.1 key) (C_put2 b_1 key) a_4 c_5 (s.filter (fun c => !decide (c.1 = key))) (by omega)) rfl (fun w hw => ⟨hw.see (i := 1) rfl, hw.apartO 1 0 rfl rfl rfl⟩)) ?_
        rintro _ _ ⟨_, ⟨rfl, rfl⟩, rfl⟩
        have hix6 := idxI_lo (fun q_ => gtrB q_.1 key) (s.filter (fun c => !decide (c.1 = key)))
        have hfl6 := findAt_le (fun q_ => gtrB q_.1 key) (s.filter (fun c => !decide (c.1 = key)))
        refine JL.pure rfl (PO.assign (v := .int .i64 (idxI (fun q_ => gtrB q_.1 key) (s.filter (fun c => !decide (c.1 = key))))) rfl) ?_
        refine JL.nil ?_
        refine JQ.seq ?_
        refine JC.seq ?_
        refine JC.seq ?_
        refine JC.region ?_
        refine JL.pure rfl (PO.move (v := .int .i64 (idxI (fun q_ => gtrB q_.1 key) (s.filter (fun c => !decide (c.1 = key))))) rfl) ?_
        refine JL.pure rfl (PO.lss rfl rfl) ?_
        refine JL.nil ?_
        refine JQ.seq ?_
        by_cases h_7 : (idxI (fun q_ => gtrB q_.1 key) (s.filter (fun c => !decide (c.1 = key)))) < 0
        · skip
          have hx_8l : findAt (fun q_ => gtrB q_.1 key) (s.filter (fun c => !decide (c.1 = key))) = (s.filter (fun c => !decide (c.1 = key))).length := by omega
          refine JC.condT (congrArg Value.bool (decide_eq_true h_7)) ?_
          refine JC.region ?_
          refine JL.pure rfl (PO.move (v := .slice a_4 ((s.filter (fun c => !decide (c.1 = key))).length) c_5) rfl) ?_
          refine JL.pure rfl (PO.lenV Tryz.underlying29 rfl) ?_
          refine JL.pure rfl (PO.assign (v := .int .i64 (((s.filter (fun c => !decide (c.1 = key))).length : Nat) : Int)) rfl) ?_
          refine JL.nil ?_
          refine JQ.seq ?_
          refine JC.seq ?_
          refine JC.region ?_
          refine JL.pure rfl (PO.move (v := .slice a_4 ((s.filter (fun c => !decide (c.1 = key))).length) c_5) rfl) ?_
          refine JL.pure rfl (PO.move (v := .int .i64 (((s.filter (fun c => !decide (c.1 = key))).length : Nat) : Int)) rfl) ?_
          refine JL.ld rfl (LO.load1 0 (v := str key) rfl rfl Tryz.isAgg9 rfl) ?_
          refine JL.pure rfl (PO.move (v := str val) rfl) ?_
          refine JL.pure rfl (PO.build (ps := [(0, str key), (1, str val)]) (cs := [str key, str val]) rfl (by kernel_rfl)) ?_
          refine JL.op rfl (JO.buildSlice (ps := [(0, .agg #[str key, str val])]) (cur := #[str key, str val]) Tryz.underlying29 Tryz.sizeOf113 Tryz.zeroValue113 rfl (by kernel_rfl) (by decide) (by decide)) ?_
          rintro _ _ ⟨a_9, rfl, rfl⟩
          refine JL.op rfl (JO.call [2, 0] Tryz.call303 rfl (C_insC a_4 a_9 c_5 (s.filter (fun c => !decide (c.1 = key))) ((s.filter (fun c => !decide (c.1 = key))).length) (key, val) (by omega) (by omega) (by rw [lenC])) rfl (fun _ _ => trivial)) ?_
          rintro _ _ ⟨_, ⟨a_10, c_11, rfl, rfl⟩, rfl⟩
          refine JL.pure rfl (PO.assign (v := .slice a_10 ((insertAt ((s.filter (fun c => !decide (c.1 = key))).length) (key, val) (s.filter (fun c => !decide (c.1 = key)))).length) c_11) rfl) ?_
          refine JL.nil ?_
          refine JQ.seq ?_
          refine JC.ret ?_
          refine Done.one (.inl rfl) rfl (RV.tmp (v := .slice a_10 ((insertAt ((s.filter (fun c => !decide (c.1 = key))).length) (key, val) (s.filter (fun c => !decide (c.1 = key)))).length) c_11) rfl) (List.sublist_append_left [Res.row (.slice a_10 ((insertAt ((s.filter (fun c => !decide (c.1 = key))).length) (key, val) (s.filter (fun c => !decide (c.1 = key)))).length) c_11) 113 2 ((insertAt ((s.filter (fun c => !decide (c.1 = key))).length) (key, val) (s.filter (fun c => !decide (c.1 = key)))).length) ((insertAt ((s.filter (fun c => !decide (c.1 = key))).length) (key, val) (s.filter (fun c => !decide (c.1 = key)))).flatMap encC)] [bk b_1 9 [str key]]) ?_
          have he := (putKey_ins h_2 (by omega) h_6 : putKey s key val = _)
          exact ⟨_, _, by rw [he, hx_8l], by rw [he, hx_8l] <;> rfl⟩
        · skip
          have hx_12l : findAt (fun q_ => gtrB q_.1 key) (s.filter (fun c => !decide (c.1 = key))) < (s.filter (fun c => !decide (c.1 = key))).length := by omega
          have hx_12e : idxI (fun q_ => gtrB q_.1 key) (s.filter (fun c => !decide (c.1 = key))) = ((findAt (fun q_ => gtrB q_.1 key) (s.filter (fun c => !decide (c.1 = key))) : Nat) : Int) := by omega
          refine JC.condF (congrArg Value.bool (decide_eq_false h_7)) ?_
          refine JC.skip ?_
          refine JQ.seq ?_
          refine JC.seq ?_
          refine JC.region ?_
          refine JL.pure rfl (PO.move (v := .slice a_4 ((s.filter (fun c => !decide (c.1 = key))).length) c_5) rfl) ?_
          refine JL.pure rfl (PO.move (v := .int .i64 ((findAt (fun q_ => gtrB q_.1 key) (s.filter (fun c => !decide (c.1 = key))) : Nat) : Int)) (congrArg (Value.int .i64) hx_12e)) ?_
          refine JL.ld rfl (LO.load1 0 (v := str key) rfl rfl Tryz.isAgg9 rfl) ?_
          refine JL.pure rfl (PO.move (v := str val) rfl) ?_
          refine JL.pure rfl (PO.build (ps := [(0, str key), (1, str val)]) (cs := [str key, str val]) rfl (by kernel_rfl)) ?_
          refine JL.op rfl (JO.buildSlice (ps := [(0, .agg #[str key, str val])]) (cur := #[str key, str val]) Tryz.underlying29 Tryz.sizeOf113 Tryz.zeroValue113 rfl (by kernel_rfl) (by decide) (by decide)) ?_
          rintro _ _ ⟨a_13, rfl, rfl⟩
          refine JL.op rfl (JO.call [2, 0] Tryz.call303 rfl (C_insC a_4 a_13 c_5 (s.filter (fun c => !decide (c.1 = key))) (findAt (fun q_ => gtrB q_.1 key) (s.filter (fun c => !decide (c.1 = key)))) (key, val) (by omega) (by omega) (by rw [lenC])) rfl (fun _ _ => trivial)) ?_
          rintro _ _ ⟨_, ⟨a_14, c_15, rfl, rfl⟩, rfl⟩
          refine JL.pure rfl (PO.assign (v := .slice a_14 ((insertAt (findAt (fun q_ => gtrB q_.1 key) (s.filter (fun c => !decide (c.1 = key)))) (key, val) (s.filter (fun c => !decide (c.1 = key)))).length) c_15) rfl) ?_
          refine JL.nil ?_
          refine JQ.seq ?_
          refine JC.ret ?_
          refine Done.one (.inl rfl) rfl (RV.tmp (v := .slice a_14 ((insertAt (findAt (fun q_ => gtrB q_.1 key) (s.filter (fun c => !decide (c.1 = key)))) (key, val) (s.filter (fun c => !decide (c.1 = key)))).length) c_15) rfl) (List.sublist_append_left [Res.row (.slice a_14 ((insertAt (findAt (fun q_ => gtrB q_.1 key) (s.filter (fun c => !decide (c.1 = key)))) (key, val) (s.filter (fun c => !decide (c.1 = key)))).length) c_15) 113 2 ((insertAt (findAt (fun q_ => gtrB q_.1 key) (s.filter (fun c => !decide (c.1 = key)))) (key, val) (s.filter (fun c => !decide (c.1 = key)))).length) ((insertAt (findAt (fun q_ => gtrB q_.1 key) (s.filter (fun c => !decide (c.1 = key)))) (key, val) (s.filter (fun c => !decide (c.1 = key)))).flatMap encC)] [bk b_1 9 [str key]]) ?_
          have he := (putKey_ins h_2 (by omega) h_6 : putKey s key val = _)
          exact ⟨_, _, by rw [he], by rw [he] <;> rfl⟩
  · skip
    refine JL.guardOff (b := true) rfl rfl rfl (congrArg Value.bool (congrArg Bool.not h_2)) ?_
    refine JL.guardOff (b := true) rfl rfl rfl (congrArg Value.bool (congrArg Bool.not h_2)) ?_
    refine JL.guardOff (b := true) rfl rfl rfl (congrArg Value.bool (congrArg Bool.not h_2)) ?_
    refine JL.pure rfl (PO.pickT (v := .bool true) (congrArg Value.bool (congrArg Bool.not h_2)) rfl) ?_
    refine JL.nil ?_
    refine JQ.seq ?_
    refine JC.condT (congrArg Value.bool rfl) ?_
    refine JC.seq ?_
    refine JC.region ?_
    refine JL.pure rfl (PO.move (v := .slice a s.length c) rfl) ?_
    refine JL.pure rfl (PO.assign (v := .slice a s.length c) rfl) ?_
    refine JL.nil ?_
    refine JQ.seq ?_
    refine JC.ret ?_
    refine JQ.thenRet ?_
    refine JQ.perm (pick_perm [1] (A := [Res.row (.slice a s.length c) 113 2 s.length (s.flatMap encC)]) (F := [bk b_1 9 [str key]]) rfl).symm ?_
    refine Done.one (.inl rfl) rfl (RV.tmp (v := .slice a s.length c) rfl) (List.sublist_append_left [Res.row (.slice a s.length c) 113 2 s.length (s.flatMap encC)] [bk b_1 9 [str key]]) ?_
    have he := (putKey_bad1 h_2 : putKey s key val = _)
    exact ⟨_, _, by rw [he], by rw [he] <;> rfl⟩

end Go.Proofs.YtenfajgpdhgknaaGreatDoor

set_option linter.unusedSimpArgs false
set_option linter.unusedVariables false
set_option linter.unnecessarySimpa false
namespace Go.Proofs.YtenfajgpdhgknaaGreatDoor
open Go Go.RowKit
attribute [local irreducible] JL JC JQ JO LO PO JA JX Ct

theorem C_cloneTouch (a1 a2 : Option Addr) (c1 c2 : Nat) (r w : List Str) (hr : r.length ≤ 100000000000) (hw_ : w.length ≤ 100000000000) :
    Ct Tryz.prog 238 [.agg #[.slice a1 r.length c1, .slice a2 w.length c2]] [] (fun w_ => Sees w_ (.slice a1 r.length c1) 1 r.length (r.map str) ∧ Sees w_ (.slice a2 w.length c2) 1 w.length (w.map str)) (fun v A' => ∃ b1 d1 b2 d2, v = .agg #[.slice b1 r.length d1, .slice b2 w.length d2] ∧ A' = [.row (.slice b1 r.length d1) 9 1 r.length (r.map str), .row (.slice b2 w.length d2) 9 1 w.length (w.map str)]) := by
  refine Ct.intro Tryz.func238 rfl Tryz.ntmps238 (Nat.le_of_ble_eq_true rfl) fun w0 hpre => ?_
  have hs_a1 : Sees w0 _ _ _ _ := hpre.1
  have hs_a2 : Sees w0 _ _ _ _ := hpre.2
  refine JC.seq ?_
  refine JC.region ?_
  refine JL.op rfl (JO.box (cs := [.slice a1 r.length c1, .slice a2 w.length c2]) rfl rfl) ?_
  rintro _ _ ⟨b_1, rfl, rfl⟩
  refine JL.op rfl (JO.alloc (z := .agg #[.slice none 0 0, .slice none 0 0]) (cs := [.slice none 0 0, .slice none 0 0]) Tryz.zeroValue30 rfl) ?_
  rintro _ _ ⟨b_2, rfl, rfl⟩
  refine JL.nil ?_
  refine JQ.seq ?_
  refine JC.seq ?_
  refine JC.regionA [bk b_2 30 [.slice none 0 0, .slice none 0 0], bk b_1 30 [.slice a1 r.length c1, .slice a2 w.length c2]] 7 mixed (by simp) ?_
  refine JA.takeP 0 rfl (by kernel_rfl) (NP.th NP.body) (by kernel_rfl) (by kernel_rfl) rfl (PO.fieldAddr fo30_0 rfl) ?_
  refine JA.take 1 rfl (by kernel_rfl) (NP.th NP.body) (by kernel_rfl) (by kernel_rfl) (by kernel_rfl) rfl (LO.load1 1 (v := .slice a1 r.length c1) rfl rfl Tryz.isAgg23 rfl) ?_
  refine JA.takeP 3 rfl (by kernel_rfl) (NP.th NP.body) (by kernel_rfl) (by kernel_rfl) rfl (PO.fieldAddr fo30_1 rfl) ?_
  refine JA.take 4 rfl (by kernel_rfl) (NP.th NP.body) (by kernel_rfl) (by kernel_rfl) (by kernel_rfl) rfl (LO.load1 1 (v := .slice a2 w.length c2) rfl rfl Tryz.isAgg23 rfl) ?_
  refine JA.one (i := 2) (by kernel_rfl) ?_
  refine JX.op rfl rfl (JO.call [] Tryz.call222 rfl (C_cloneS a1 c1 r (by omega)) rfl (fun w hw => hw.seeOut_ hs_a1 (fun _ _ => List.not_mem_nil))) ?_
  rintro _ _ ⟨_, ⟨a_9, c_10, rfl, rfl⟩, rfl⟩
  refine ⟨by simp, ?_⟩
  refine JA.one (i := 5) (by kernel_rfl) ?_
  refine JX.op rfl rfl (JO.call [] Tryz.call222 rfl (C_cloneS a2 c2 w (by omega)) rfl (fun w hw => hw.seeOut_ hs_a2 (fun _ _ => List.not_mem_nil))) ?_
  rintro _ _ ⟨_, ⟨a_13, c_14, rfl, rfl⟩, rfl⟩
  refine ⟨by simp, ?_⟩
  refine JA.takeP 6 rfl (by kernel_rfl) (NP.th NP.body) (by kernel_rfl) (by kernel_rfl) rfl (PO.build (ps := [(0, .slice a_9 r.length c_10), (1, .slice a_13 w.length c_14)]) (cs := [.slice a_9 r.length c_10, .slice a_13 w.length c_14]) rfl (by kernel_rfl)) ?_
  refine JA.one (i := 7) (by kernel_rfl) ?_
  refine JX.last rfl rfl (by decide) (by kernel_rfl) (JO.store 2 (vs := [.slice a_9 r.length c_10, .slice a_13 w.length c_14]) (cs' := [.slice a_9 r.length c_10, .slice a_13 w.length c_14]) rfl rfl rfl rfl Tryz.sizeOf30 rfl rfl (Nat.le_of_ble_eq_true rfl) rfl) ?_
  rintro _ _ rfl
  refine JQ.seq ?_
  refine JC.ret ?_
  refine JQ.perm (pick_perm [1, 0] (A := [Res.row (.slice a_9 r.length c_10) 9 1 r.length (r.map str), Res.row (.slice a_13 w.length c_14) 9 1 w.length (w.map str)]) (F := [bk b_2 30 [.slice a_9 r.length c_10, .slice a_13 w.length c_14], bk b_1 30 [.slice a1 r.length c1, .slice a2 w.length c2]]) rfl).symm ?_
  refine Done.one (.inl rfl) rfl (RV.cell1 (LO.loadK 2 (vs := [.slice a_9 r.length c_10, .slice a_13 w.length c_14]) rfl rfl Tryz.isAgg30 Tryz.sizeOf30 rfl rfl) ⟨_, rfl⟩) (List.sublist_append_left [Res.row (.slice a_9 r.length c_10) 9 1 r.length (r.map str), Res.row (.slice a_13 w.length c_14) 9 1 w.length (w.map str)] [bk b_2 30 [.slice a_9 r.length c_10, .slice a_13 w.length c_14], bk b_1 30 [.slice a1 r.length c1, .slice a2 w.length c2]]) ?_
  exact ⟨_, _, _, _, rfl, rfl⟩

theorem C_cloneMach (a0 a1 a2 : Option Addr) (c0_ c1 c2 : Nat) (m : MS) (h0 : m.s.length ≤ 10000000000) (h1 : m.r.length ≤ 10000000000) (h2 : m.w.length ≤ 10000000000) :
    Ct Tryz.prog 127 [.agg #[.slice a0 m.s.length c0_, .slice a1 m.r.length c1, .slice a2 m.w.length c2]] [] (fun w_ => Sees w_ (.slice a0 m.s.length c0_) 2 m.s.length (m.s.flatMap encC) ∧ Sees w_ (.slice a1 m.r.length c1) 1 m.r.length (m.r.map str) ∧ Sees w_ (.slice a2 m.w.length c2) 1 m.w.length (m.w.map str)) (fun v A' => ∃ x0 y0 x1 y1 x2 y2, v = .agg #[.slice x0 m.s.length y0, .slice x1 m.r.length y1, .slice x2 m.w.length y2] ∧ A' = [.row (.slice x0 m.s.length y0) 113 2 m.s.length (m.s.flatMap encC), .row (.slice x1 m.r.length y1) 9 1 m.r.length (m.r.map str), .row (.slice x2 m.w.length y2) 9 1 m.w.length (m.w.map str)]) := by
  refine Ct.intro Tryz.func127 rfl Tryz.ntmps127 (Nat.le_of_ble_eq_true rfl) fun w0 hpre => ?_
  have hs_a0 : Sees w0 _ _ _ _ := hpre.1
  have hs_a1 : Sees w0 _ _ _ _ := hpre.2.1
  have hs_a2 : Sees w0 _ _ _ _ := hpre.2.2
  refine JC.seq ?_
  refine JC.region ?_
  refine JL.op rfl (JO.box (cs := [.slice a0 m.s.length c0_, .slice a1 m.r.length c1, .slice a2 m.w.length c2]) rfl rfl) ?_
  rintro _ _ ⟨b_1, rfl, rfl⟩
  refine JL.op rfl (JO.alloc (z := .agg #[.slice none 0 0, .slice none 0 0, .slice none 0 0]) (cs := [.slice none 0 0, .slice none 0 0, .slice none 0 0]) Tryz.zeroValue32 rfl) ?_
  rintro _ _ ⟨b_2, rfl, rfl⟩
  refine JL.nil ?_
  refine JQ.seq ?_
  refine JC.seq ?_
  refine JC.regionA [bk b_2 32 [.slice none 0 0, .slice none 0 0, .slice none 0 0], bk b_1 32 [.slice a0 m.s.length c0_, .slice a1 m.r.length c1, .slice a2 m.w.length c2]] 7 mixed (by simp) ?_
  refine JA.takeP 0 rfl (by kernel_rfl) (NP.th NP.body) (by kernel_rfl) (by kernel_rfl) rfl (PO.fieldAddr fo32_0 rfl) ?_
  refine JA.take 1 rfl (by kernel_rfl) (NP.th NP.body) (by kernel_rfl) (by kernel_rfl) (by kernel_rfl) rfl (LO.load1 1 (v := .slice a0 m.s.length c0_) rfl rfl Tryz.isAgg29 rfl) ?_
  refine JA.takeP 3 rfl (by kernel_rfl) (NP.th NP.body) (by kernel_rfl) (by kernel_rfl) rfl (PO.fieldAddr fo32_1 rfl) ?_
  refine JA.take 4 rfl (by kernel_rfl) (NP.th NP.body) (by kernel_rfl) (by kernel_rfl) (by kernel_rfl) rfl (LO.loadK 1 (vs := [.slice a1 m.r.length c1, .slice a2 m.w.length c2]) rfl rfl Tryz.isAgg30 Tryz.sizeOf30 rfl rfl) ?_
  refine JA.one (i := 2) (by kernel_rfl) ?_
  refine JX.op rfl rfl (JO.call [] Tryz.call237 rfl (C_cloneC a0 c0_ m.s (by omega)) rfl (fun w hw => hw.seeOut_ hs_a0 (fun _ _ => List.not_mem_nil))) ?_
  rintro _ _ ⟨_, ⟨a_9, c_10, rfl, rfl⟩, rfl⟩
  refine ⟨by simp, ?_⟩
  refine JA.one (i := 5) (by kernel_rfl) ?_
  refine JX.op rfl rfl (JO.call [] Tryz.call238 rfl (C_cloneTouch a1 a2 c1 c2 m.r m.w (by omega) (by omega)) rfl (fun w hw => ⟨hw.seeOut_ hs_a1 (fun _ _ => List.not_mem_nil), hw.seeOut_ hs_a2 (fun _ _ => List.not_mem_nil)⟩)) ?_
  rintro _ _ ⟨_, ⟨a_15, c_16, a_17, c_18, rfl, rfl⟩, rfl⟩
  refine ⟨by simp, ?_⟩
  refine JA.takeP 6 rfl (by kernel_rfl) (NP.th NP.body) (by kernel_rfl) (by kernel_rfl) rfl (PO.build (ps := [(0, .slice a_9 m.s.length c_10), (1, .agg #[.slice a_15 m.r.length c_16, .slice a_17 m.w.length c_18])]) (cs := [.slice a_9 m.s.length c_10, .slice a_15 m.r.length c_16, .slice a_17 m.w.length c_18]) rfl (by kernel_rfl)) ?_
  refine JA.one (i := 7) (by kernel_rfl) ?_
  refine JX.last rfl rfl (by decide) (by kernel_rfl) (JO.store 3 (vs := [.slice a_9 m.s.length c_10, .slice a_15 m.r.length c_16, .slice a_17 m.w.length c_18]) (cs' := [.slice a_9 m.s.length c_10, .slice a_15 m.r.length c_16, .slice a_17 m.w.length c_18]) rfl rfl rfl rfl Tryz.sizeOf32 rfl rfl (Nat.le_of_ble_eq_true rfl) rfl) ?_
  rintro _ _ rfl
  refine JQ.seq ?_
  refine JC.ret ?_
  refine JQ.perm (pick_perm [2, 0, 0] (A := [Res.row (.slice a_9 m.s.length c_10) 113 2 m.s.length (m.s.flatMap encC), Res.row (.slice a_15 m.r.length c_16) 9 1 m.r.length (m.r.map str), Res.row (.slice a_17 m.w.length c_18) 9 1 m.w.length (m.w.map str)]) (F := [bk b_2 32 [.slice a_9 m.s.length c_10, .slice a_15 m.r.length c_16, .slice a_17 m.w.length c_18], bk b_1 32 [.slice a0 m.s.length c0_, .slice a1 m.r.length c1, .slice a2 m.w.length c2]]) rfl).symm ?_
  refine Done.one (.inl rfl) rfl (RV.cell1 (LO.loadK 3 (vs := [.slice a_9 m.s.length c_10, .slice a_15 m.r.length c_16, .slice a_17 m.w.length c_18]) rfl rfl Tryz.isAgg32 Tryz.sizeOf32 rfl rfl) ⟨_, rfl⟩) (List.sublist_append_left [Res.row (.slice a_9 m.s.length c_10) 113 2 m.s.length (m.s.flatMap encC), Res.row (.slice a_15 m.r.length c_16) 9 1 m.r.length (m.r.map str), Res.row (.slice a_17 m.w.length c_18) 9 1 m.w.length (m.w.map str)] [bk b_2 32 [.slice a_9 m.s.length c_10, .slice a_15 m.r.length c_16, .slice a_17 m.w.length c_18], bk b_1 32 [.slice a0 m.s.length c0_, .slice a1 m.r.length c1, .slice a2 m.w.length c2]]) ?_
  exact ⟨_, _, _, _, _, _, rfl, rfl⟩

theorem C_look (p : Nat) (a0 a1 a2 : Option Addr) (c0_ c1 c2 : Nat) (m : MS) (key : Str) (h0 : m.s.length ≤ 10000000000) (h1 : m.r.length ≤ 10000000000) (h2 : m.w.length ≤ 10000000000) :
    Ct Tryz.prog 264 [.pointer (some ⟨p, 0, none⟩), str key] [bk p 32 [.slice a0 m.s.length c0_, .slice a1 m.r.length c1, .slice a2 m.w.length c2], Res.row (.slice a0 m.s.length c0_) 113 2 m.s.length (m.s.flatMap encC), Res.row (.slice a1 m.r.length c1) 9 1 m.r.length (m.r.map str), Res.row (.slice a2 m.w.length c2) 9 1 m.w.length (m.w.map str)] (fun _ => True) (fun v A' => ∃ x0 y0 x1 y1 x2 y2, v = str (m.look key).2 ∧ A' = [bk p 32 [.slice x0 (((m.look key).1).s.length) y0, .slice x1 (((m.look key).1).r.length) y1, .slice x2 (((m.look key).1).w.length) y2], Res.row (.slice x0 (((m.look key).1).s.length) y0) 113 2 ((((m.look key).1).s).length) ((((m.look key).1).s).flatMap encC), Res.row (.slice x1 (((m.look key).1).r.length) y1) 9 1 ((((m.look key).1).r).length) ((((m.look key).1).r).map str), Res.row (.slice x2 (((m.look key).1).w.length) y2) 9 1 ((((m.look key).1).w).length) ((((m.look key).1).w).map str)]) := by
  refine Ct.intro Tryz.func264 rfl Tryz.ntmps264 (Nat.le_of_ble_eq_true rfl) fun w0 hpre => ?_
  refine JC.seq ?_
  refine JC.region ?_
  refine JL.pure rfl (PO.assign (v := str []) rfl) ?_
  refine JL.nil ?_
  refine JQ.seq ?_
  refine JC.seq ?_
  refine JC.region ?_
  refine JL.pure rfl (PO.move (v := .pointer (some ⟨p, 0, none⟩)) rfl) ?_
  refine JL.pure rfl (PO.move (v := .pointer (some ⟨p, 0, none⟩)) rfl) ?_
  refine JL.pure rfl (PO.nilCheck rfl) ?_
  refine JL.pure rfl (PO.fieldAddr fo32_1 rfl) ?_
  refine JL.pure rfl (PO.fieldAddr fo30_0 rfl) ?_
  refine JL.ld rfl (LO.load1 0 (v := .slice a1 m.r.length c1) rfl rfl Tryz.isAgg23 rfl) ?_
  refine JL.pure rfl (PO.move (v := str key) rfl) ?_
  refine JL.op rfl (JO.call [2] Tryz.call281 rfl (C_addSpan a1 c1 m.r key (by omega)) rfl (fun _ _ => trivial)) ?_
  rintro _ _ ⟨_, ⟨a_1, c_2, rfl, rfl⟩, rfl⟩
  refine JL.pure rfl (PO.nilCheck rfl) ?_
  refine JL.pure rfl (PO.fieldAddr fo32_1 rfl) ?_
  refine JL.pure rfl (PO.fieldAddr fo30_0 rfl) ?_
  refine JL.op rfl (JO.store 1 (vs := [.slice a_1 ((addSpan m.r key).length) c_2]) (cs' := [.slice a0 m.s.length c0_, .slice a_1 ((addSpan m.r key).length) c_2, .slice a2 m.w.length c2]) rfl rfl rfl rfl Tryz.sizeOf23 rfl rfl (Nat.le_of_ble_eq_true rfl) rfl) ?_
  rintro _ _ rfl
  refine JL.nil ?_
  refine JQ.seq ?_
  refine JC.seq ?_
  refine JC.region ?_
  refine JL.pure rfl (PO.move (v := .pointer (some ⟨p, 0, none⟩)) rfl) ?_
  refine JL.pure rfl (PO.nilCheck rfl) ?_
  refine JL.pure rfl (PO.fieldAddr fo32_0 rfl) ?_
  refine JL.ld rfl (LO.load1 1 (v := .slice a0 m.s.length c0_) rfl rfl Tryz.isAgg29 rfl) ?_
  refine JL.pure rfl (PO.move (v := str key) rfl) ?_
  refine JL.op rfl (JO.call [] Tryz.call214 rfl (C_getKey a0 c0_ m.s key (by omega)) rfl (fun w hw => hw.see (i := 2) rfl)) ?_
  rintro _ _ ⟨_, ⟨rfl, rfl⟩, rfl⟩
  refine JL.pure rfl (PO.assign (v := str (getKey m.s key)) rfl) ?_
  refine JL.nil ?_
  refine JQ.seq ?_
  refine JC.ret ?_
  refine JQ.perm (pick_perm [1, 1, 0, 0] (A := [bk p 32 [.slice a0 m.s.length c0_, .slice a_1 ((addSpan m.r key).length) c_2, .slice a2 m.w.length c2], Res.row (.slice a0 m.s.length c0_) 113 2 m.s.length (m.s.flatMap encC), Res.row (.slice a_1 ((addSpan m.r key).length) c_2) 9 1 ((addSpan m.r key).length) ((addSpan m.r key).map str), Res.row (.slice a2 m.w.length c2) 9 1 m.w.length (m.w.map str)]) (F := []) rfl).symm ?_
  refine Done.one (.inl rfl) rfl (RV.tmp (v := str (getKey m.s key)) rfl) (List.sublist_append_left [bk p 32 [.slice a0 m.s.length c0_, .slice a_1 ((addSpan m.r key).length) c_2, .slice a2 m.w.length c2], Res.row (.slice a0 m.s.length c0_) 113 2 m.s.length (m.s.flatMap encC), Res.row (.slice a_1 ((addSpan m.r key).length) c_2) 9 1 ((addSpan m.r key).length) ((addSpan m.r key).map str), Res.row (.slice a2 m.w.length c2) 9 1 m.w.length (m.w.map str)] []) ?_
  exact ⟨_, _, _, _, _, _, rfl, rfl⟩

theorem C_lay (p : Nat) (a0 a1 a2 : Option Addr) (c0_ c1 c2 : Nat) (m : MS) (key val : Str) (h0 : m.s.length ≤ 10000000000) (h1 : m.r.length ≤ 10000000000) (h2 : m.w.length ≤ 10000000000) (hk : key.length ≤ 1000000000000) :
    Ct Tryz.prog 240 [.pointer (some ⟨p, 0, none⟩), str key, str val] [bk p 32 [.slice a0 m.s.length c0_, .slice a1 m.r.length c1, .slice a2 m.w.length c2], Res.row (.slice a0 m.s.length c0_) 113 2 m.s.length (m.s.flatMap encC), Res.row (.slice a1 m.r.length c1) 9 1 m.r.length (m.r.map str), Res.row (.slice a2 m.w.length c2) 9 1 m.w.length (m.w.map str)] (fun _ => True) (fun v A' => ∃ x0 y0 x1 y1 x2 y2, v = .tuple #[] ∧ A' = [bk p 32 [.slice x0 ((m.lay key val).s.length) y0, .slice x1 ((m.lay key val).r.length) y1, .slice x2 ((m.lay key val).w.length) y2], Res.row (.slice x0 ((m.lay key val).s.length) y0) 113 2 (((m.lay key val).s).length) (((m.lay key val).s).flatMap encC), Res.row (.slice x1 ((m.lay key val).r.length) y1) 9 1 (((m.lay key val).r).length) (((m.lay key val).r).map str), Res.row (.slice x2 ((m.lay key val).w.length) y2) 9 1 (((m.lay key val).w).length) (((m.lay key val).w).map str)]) := by
  refine Ct.intro Tryz.func240 rfl Tryz.ntmps240 (Nat.le_of_ble_eq_true rfl) fun w0 hpre => ?_
  refine JC.seq ?_
  refine JC.region ?_
  refine JL.pure rfl (PO.move (v := .pointer (some ⟨p, 0, none⟩)) rfl) ?_
  refine JL.pure rfl (PO.move (v := .pointer (some ⟨p, 0, none⟩)) rfl) ?_
  refine JL.pure rfl (PO.nilCheck rfl) ?_
  refine JL.pure rfl (PO.fieldAddr fo32_1 rfl) ?_
  refine JL.pure rfl (PO.fieldAddr fo30_1 rfl) ?_
  refine JL.ld rfl (LO.load1 0 (v := .slice a2 m.w.length c2) rfl rfl Tryz.isAgg23 rfl) ?_
  refine JL.pure rfl (PO.move (v := str key) rfl) ?_
  refine JL.op rfl (JO.call [3] Tryz.call281 rfl (C_addSpan a2 c2 m.w key (by omega)) rfl (fun _ _ => trivial)) ?_
  rintro _ _ ⟨_, ⟨a_1, c_2, rfl, rfl⟩, rfl⟩
  refine JL.pure rfl (PO.nilCheck rfl) ?_
  refine JL.pure rfl (PO.fieldAddr fo32_1 rfl) ?_
  refine JL.pure rfl (PO.fieldAddr fo30_1 rfl) ?_
  refine JL.op rfl (JO.store 1 (vs := [.slice a_1 ((addSpan m.w key).length) c_2]) (cs' := [.slice a0 m.s.length c0_, .slice a1 m.r.length c1, .slice a_1 ((addSpan m.w key).length) c_2]) rfl rfl rfl rfl Tryz.sizeOf23 rfl rfl (Nat.le_of_ble_eq_true rfl) rfl) ?_
  rintro _ _ rfl
  refine JL.nil ?_
  refine JQ.seq ?_
  refine JC.region ?_
  refine JL.pure rfl (PO.move (v := .pointer (some ⟨p, 0, none⟩)) rfl) ?_
  refine JL.pure rfl (PO.move (v := .pointer (some ⟨p, 0, none⟩)) rfl) ?_
  refine JL.pure rfl (PO.nilCheck rfl) ?_
  refine JL.pure rfl (PO.fieldAddr fo32_0 rfl) ?_
  refine JL.ld rfl (LO.load1 1 (v := .slice a0 m.s.length c0_) rfl rfl Tryz.isAgg29 rfl) ?_
  refine JL.pure rfl (PO.move (v := str key) rfl) ?_
  refine JL.pure rfl (PO.move (v := str val) rfl) ?_
  refine JL.op rfl (JO.call [2] Tryz.call282 rfl (C_put a0 c0_ m.s key val (by omega) (by omega)) rfl (fun _ _ => trivial)) ?_
  rintro _ _ ⟨_, ⟨a_3, c_4, rfl, rfl⟩, rfl⟩
  refine JL.pure rfl (PO.nilCheck rfl) ?_
  refine JL.pure rfl (PO.fieldAddr fo32_0 rfl) ?_
  refine JL.op rfl (JO.store 2 (vs := [.slice a_3 ((putKey m.s key val).length) c_4]) (cs' := [.slice a_3 ((putKey m.s key val).length) c_4, .slice a1 m.r.length c1, .slice a_1 ((addSpan m.w key).length) c_2]) rfl rfl rfl rfl Tryz.sizeOf29 rfl rfl (Nat.le_of_ble_eq_true rfl) rfl) ?_
  rintro _ _ rfl
  refine JL.nil ?_
  refine JQ.perm (pick_perm [2, 0, 1, 0] (A := [bk p 32 [.slice a_3 ((putKey m.s key val).length) c_4, .slice a1 m.r.length c1, .slice a_1 ((addSpan m.w key).length) c_2], Res.row (.slice a_3 ((putKey m.s key val).length) c_4) 113 2 ((putKey m.s key val).length) ((putKey m.s key val).flatMap encC), Res.row (.slice a1 m.r.length c1) 9 1 m.r.length (m.r.map str), Res.row (.slice a_1 ((addSpan m.w key).length) c_2) 9 1 ((addSpan m.w key).length) ((addSpan m.w key).map str)]) (F := []) rfl).symm ?_
  refine Done.none (.inr rfl) rfl (List.sublist_append_left [bk p 32 [.slice a_3 ((putKey m.s key val).length) c_4, .slice a1 m.r.length c1, .slice a_1 ((addSpan m.w key).length) c_2], Res.row (.slice a_3 ((putKey m.s key val).length) c_4) 113 2 ((putKey m.s key val).length) ((putKey m.s key val).flatMap encC), Res.row (.slice a1 m.r.length c1) 9 1 m.r.length (m.r.map str), Res.row (.slice a_1 ((addSpan m.w key).length) c_2) 9 1 ((addSpan m.w key).length) ((addSpan m.w key).map str)] []) ?_
  exact ⟨_, _, _, _, _, _, rfl, rfl⟩

theorem C_decimal (n : Int) (h0 : -9223372036854775808 ≤ n) (h1 : n ≤ 9223372036854775807) :
    Ct Tryz.prog 64 [.int .i64 n] [] (fun _ => True) (fun v A' => v = str (dec n) ∧ A' = []) := by
  refine Ct.intro Tryz.func64 rfl Tryz.ntmps64 (Nat.le_of_ble_eq_true rfl) fun w0 hpre => ?_
  refine JC.seq ?_
  refine JC.region ?_
  refine JL.pure rfl (PO.assign (v := str []) rfl) ?_
  refine JL.nil ?_
  refine JQ.seq ?_
  refine JC.seq ?_
  refine JC.region ?_
  refine JL.pure rfl (PO.move (v := .int .i64 n) rfl) ?_
  refine JL.op rfl (JO.call [] Tryz.call174 rfl (C_itoa n (by omega) (by omega)) rfl (fun _ _ => trivial)) ?_
  rintro _ _ ⟨_, ⟨rfl, rfl⟩, rfl⟩
  refine JL.pure rfl (PO.assign (v := str (dec n)) rfl) ?_
  refine JL.nil ?_
  refine JQ.seq ?_
  refine JC.ret ?_
  refine Done.one (.inl rfl) rfl (RV.tmp (v := str (dec n)) rfl) (List.nil_sublist _) ?_
  exact ⟨rfl, rfl⟩

theorem C_readDecimal (t : Str) (ht : t.length ≤ 281474976710656) :
    Ct Tryz.prog 278 [str t] [] (fun _ => True) (fun v A' => v = .tuple #[.int .i64 (readDec t).1, .bool (readDec t).2] ∧ A' = []) := by
  refine Ct.intro Tryz.func278 rfl Tryz.ntmps278 (Nat.le_of_ble_eq_true rfl) fun w0 hpre => ?_
  refine JC.seq ?_
  refine JC.region ?_
  refine JL.pure rfl (PO.assign (v := .int .i64 0) rfl) ?_
  refine JL.pure rfl (PO.assign (v := .bool false) rfl) ?_
  refine JL.nil ?_
  refine JQ.seq ?_
  refine JC.seq ?_
  refine JC.region ?_
  refine JL.pure rfl (PO.move (v := str t) rfl) ?_
  refine JL.op rfl (JO.call [] Tryz.call293 rfl (C_atoi t (by omega)) rfl (fun _ _ => trivial)) ?_
  rintro _ _ ⟨_, ⟨⟨n_, hat, rfl⟩ | ⟨hat, n_, te, pe, rfl⟩, rfl⟩, rfl⟩
  · skip
    refine JL.pure rfl (PO.move (v := .tuple #[.int .i64 n_, .nilIface]) rfl) ?_
    refine JL.pure rfl (PO.extract (v := .int .i64 n_) rfl rfl) ?_
    refine JL.pure rfl (PO.extract (v := .nilIface) rfl rfl) ?_
    refine JL.pure rfl (PO.assign (v := .int .i64 n_) rfl) ?_
    refine JL.pure rfl (PO.assign (v := .nilIface) rfl) ?_
    refine JL.nil ?_
    refine JQ.seq ?_
    refine JC.seq ?_
    refine JC.seq ?_
    refine JC.region ?_
    refine JL.pure rfl (PO.move (v := .nilIface) rfl) ?_
    refine JL.pure rfl (PO.neqIfN Tryz.underlying176 rfl rfl) ?_
    refine JL.pure rfl (PO.move (v := .bool false) rfl) ?_
    refine JL.guardOn rfl rfl rfl (congrArg Value.bool rfl) (JO.ofLO (LO.pure (PO.move (v := .int .i64 n_) rfl))) ?_
    rintro _ _ ⟨rfl, rfl⟩
    refine JL.guardOn rfl rfl rfl (congrArg Value.bool rfl) (JO.call [] Tryz.call143 rfl (C_within n_ 0 1000000000) rfl (fun _ _ => trivial)) ?_
    rintro _ _ ⟨_, ⟨rfl, rfl⟩, rfl⟩
    refine JL.guardOn rfl rfl rfl (congrArg Value.bool rfl) (JO.ofLO (LO.pure (PO.not rfl))) ?_
    rintro _ _ ⟨rfl, rfl⟩
    refine JL.pure rfl (PO.pickF (v := .bool (!(decide (0 ≤ n_) && decide (n_ ≤ 1000000000)))) (congrArg Value.bool rfl) rfl) ?_
    refine JL.pure rfl (PO.move (v := .bool (!(decide (0 ≤ n_) && decide (n_ ≤ 1000000000)))) rfl) ?_
    rcases Bool.eq_false_or_eq_true (decide (0 ≤ n_) && decide (n_ ≤ 1000000000)) with h_1 | h_1
    · skip
      have h_1d := h_1
      simp only [Bool.and_eq_true, Bool.and_eq_false_iff, decide_eq_true_eq, decide_eq_false_iff_not] at h_1d
      refine JL.guardOn rfl rfl rfl (congrArg Value.bool (congrArg Bool.not h_1)) (JO.ofLO (LO.pure (PO.move (v := .int .i64 n_) rfl))) ?_
      rintro _ _ ⟨rfl, rfl⟩
      refine JL.guardOn rfl rfl rfl (congrArg Value.bool (congrArg Bool.not h_1)) (JO.call [] Tryz.call64 rfl (C_decimal n_ (by omega) (by omega)) rfl (fun _ _ => trivial)) ?_
      rintro _ _ ⟨_, ⟨rfl, rfl⟩, rfl⟩
      refine JL.guardOn rfl rfl rfl (congrArg Value.bool (congrArg Bool.not h_1)) (JO.ofLO (LO.pure (PO.move (v := str t) rfl))) ?_
      rintro _ _ ⟨rfl, rfl⟩
      refine JL.guardOn rfl rfl rfl (congrArg Value.bool (congrArg Bool.not h_1)) (JO.ofLO (LO.pure (PO.neqS rfl rfl))) ?_
      rintro _ _ ⟨rfl, rfl⟩
      refine JL.pure rfl (PO.pickF (v := .bool (!(decide ((dec n_) = t)))) (congrArg Value.bool (congrArg Bool.not h_1)) rfl) ?_
      refine JL.nil ?_
      refine JQ.seq ?_
      by_cases h_2 : (dec n_) = t
      · skip
        refine JC.condF (congrArg Value.bool (congrArg Bool.not (decide_eq_true h_2))) ?_
        refine JC.skip ?_
        refine JQ.seq ?_
        refine JC.seq ?_
        refine JC.region ?_
        refine JL.pure rfl (PO.move (v := .int .i64 n_) rfl) ?_
        refine JL.pure rfl (PO.assign (v := .int .i64 n_) rfl) ?_
        refine JL.pure rfl (PO.assign (v := .bool true) rfl) ?_
        refine JL.nil ?_
        refine JQ.seq ?_
        refine JC.ret ?_
        refine Done.two (.inl rfl) rfl (RV.tmp (v := .int .i64 n_) rfl) (RV.tmp (v := .bool true) rfl) (List.nil_sublist _) ?_
        refine ⟨?_, rfl⟩
        rw [readDec_ok hat, if_pos (by refine ⟨?_, ?_, ?_⟩ <;> first | omega | simp_all)]
      · skip
        refine JC.condT (congrArg Value.bool (congrArg Bool.not (decide_eq_false h_2))) ?_
        refine JC.seq ?_
        refine JC.region ?_
        refine JL.pure rfl (PO.assign (v := .int .i64 0) rfl) ?_
        refine JL.pure rfl (PO.assign (v := .bool false) rfl) ?_
        refine JL.nil ?_
        refine JQ.seq ?_
        refine JC.ret ?_
        refine JQ.thenRet ?_
        refine Done.two (.inl rfl) rfl (RV.tmp (v := .int .i64 0) rfl) (RV.tmp (v := .bool false) rfl) (List.nil_sublist _) ?_
        refine ⟨?_, rfl⟩
        rw [readDec_ok hat, if_neg (fun h => by simp_all <;> omega)]
    · skip
      have h_1d := h_1
      simp only [Bool.and_eq_true, Bool.and_eq_false_iff, decide_eq_true_eq, decide_eq_false_iff_not] at h_1d
      refine JL.guardOff (b := true) rfl rfl rfl (congrArg Value.bool (congrArg Bool.not h_1)) ?_
      refine JL.guardOff (b := true) rfl rfl rfl (congrArg Value.bool (congrArg Bool.not h_1)) ?_
      refine JL.guardOff (b := true) rfl rfl rfl (congrArg Value.bool (congrArg Bool.not h_1)) ?_
      refine JL.guardOff (b := true) rfl rfl rfl (congrArg Value.bool (congrArg Bool.not h_1)) ?_
      refine JL.pure rfl (PO.pickT (v := .bool true) (congrArg Value.bool (congrArg Bool.not h_1)) rfl) ?_
      refine JL.nil ?_
      refine JQ.seq ?_
      refine JC.condT (congrArg Value.bool rfl) ?_
      refine JC.seq ?_
      refine JC.region ?_
      refine JL.pure rfl (PO.assign (v := .int .i64 0) rfl) ?_
      refine JL.pure rfl (PO.assign (v := .bool false) rfl) ?_
      refine JL.nil ?_
      refine JQ.seq ?_
      refine JC.ret ?_
      refine JQ.thenRet ?_
      refine Done.two (.inl rfl) rfl (RV.tmp (v := .int .i64 0) rfl) (RV.tmp (v := .bool false) rfl) (List.nil_sublist _) ?_
      refine ⟨?_, rfl⟩
      rw [readDec_ok hat, if_neg (fun h => by simp_all <;> omega)]
  · skip
    refine JL.pure rfl (PO.move (v := .tuple #[.int .i64 n_, .iface te pe]) rfl) ?_
    refine JL.pure rfl (PO.extract (v := .int .i64 n_) rfl rfl) ?_
    refine JL.pure rfl (PO.extract (v := .iface te pe) rfl rfl) ?_
    refine JL.pure rfl (PO.assign (v := .int .i64 n_) rfl) ?_
    refine JL.pure rfl (PO.assign (v := .iface te pe) rfl) ?_
    refine JL.nil ?_
    refine JQ.seq ?_
    refine JC.seq ?_
    refine JC.seq ?_
    refine JC.region ?_
    refine JL.pure rfl (PO.move (v := .iface te pe) rfl) ?_
    refine JL.pure rfl (PO.neqIfS Tryz.underlying176 rfl rfl) ?_
    refine JL.pure rfl (PO.move (v := .bool true) rfl) ?_
    refine JL.guardOff (b := true) rfl rfl rfl (congrArg Value.bool rfl) ?_
    refine JL.guardOff (b := true) rfl rfl rfl (congrArg Value.bool rfl) ?_
    refine JL.guardOff (b := true) rfl rfl rfl (congrArg Value.bool rfl) ?_
    refine JL.pure rfl (PO.pickT (v := .bool true) (congrArg Value.bool rfl) rfl) ?_
    refine JL.pure rfl (PO.move (v := .bool true) rfl) ?_
    refine JL.guardOff (b := true) rfl rfl rfl (congrArg Value.bool rfl) ?_
    refine JL.guardOff (b := true) rfl rfl rfl (congrArg Value.bool rfl) ?_
    refine JL.guardOff (b := true) rfl rfl rfl (congrArg Value.bool rfl) ?_
    refine JL.guardOff (b := true) rfl rfl rfl (congrArg Value.bool rfl) ?_
    refine JL.pure rfl (PO.pickT (v := .bool true) (congrArg Value.bool rfl) rfl) ?_
    refine JL.nil ?_
    refine JQ.seq ?_
    refine JC.condT (congrArg Value.bool rfl) ?_
    refine JC.seq ?_
    refine JC.region ?_
    refine JL.pure rfl (PO.assign (v := .int .i64 0) rfl) ?_
    refine JL.pure rfl (PO.assign (v := .bool false) rfl) ?_
    refine JL.nil ?_
    refine JQ.seq ?_
    refine JC.ret ?_
    refine JQ.thenRet ?_
    refine Done.two (.inl rfl) rfl (RV.tmp (v := .int .i64 0) rfl) (RV.tmp (v := .bool false) rfl) (List.nil_sublist _) ?_
    rw [readDec_err hat]
    exact ⟨rfl, rfl⟩

theorem C_numOf (t : Str) (ht : t.length ≤ 281474976710656) :
    Ct Tryz.prog 221 [str t] [] (fun _ => True) (fun v A' => v = .int .i64 (numOf t) ∧ A' = []) := by
  refine Ct.intro Tryz.func221 rfl Tryz.ntmps221 (Nat.le_of_ble_eq_true rfl) fun w0 hpre => ?_
  refine JC.seq ?_
  refine JC.region ?_
  refine JL.pure rfl (PO.assign (v := .int .i64 0) rfl) ?_
  refine JL.nil ?_
  refine JQ.seq ?_
  refine JC.seq ?_
  refine JC.region ?_
  refine JL.pure rfl (PO.move (v := str t) rfl) ?_
  refine JL.op rfl (JO.call [] Tryz.call278 rfl (C_readDecimal t ht) rfl (fun _ _ => trivial)) ?_
  rintro _ _ ⟨_, ⟨rfl, rfl⟩, rfl⟩
  refine JL.pure rfl (PO.move (v := .tuple #[.int .i64 ((readDec t).1), .bool ((readDec t).2)]) rfl) ?_
  refine JL.pure rfl (PO.extract (v := .int .i64 ((readDec t).1)) rfl rfl) ?_
  refine JL.pure rfl (PO.extract (v := .bool ((readDec t).2)) rfl rfl) ?_
  refine JL.pure rfl (PO.assign (v := .int .i64 ((readDec t).1)) rfl) ?_
  refine JL.pure rfl (PO.assign (v := .bool ((readDec t).2)) rfl) ?_
  refine JL.nil ?_
  refine JQ.seq ?_
  refine JC.seq ?_
  refine JC.seq ?_
  refine JC.region ?_
  refine JL.pure rfl (PO.move (v := .int .i64 ((readDec t).1)) rfl) ?_
  refine JL.pure rfl (PO.gtr rfl rfl) ?_
  refine JL.nil ?_
  refine JQ.seq ?_
  by_cases h_1 : 999 < ((readDec t).1)
  · skip
    refine JC.condT (congrArg Value.bool (decide_eq_true h_1)) ?_
    refine JC.seq ?_
    refine JC.region ?_
    refine JL.pure rfl (PO.assign (v := .int .i64 0) rfl) ?_
    refine JL.nil ?_
    refine JQ.seq ?_
    refine JC.ret ?_
    refine JQ.thenRet ?_
    refine Done.one (.inl rfl) rfl (RV.tmp (v := .int .i64 0) rfl) (List.nil_sublist _) ?_
    refine ⟨?_, rfl⟩
    unfold numOf
    first | rw [if_pos (by omega)] | rw [if_neg (by omega)]
  · skip
    refine JC.condF (congrArg Value.bool (decide_eq_false h_1)) ?_
    refine JC.skip ?_
    refine JQ.seq ?_
    refine JC.seq ?_
    refine JC.region ?_
    refine JL.pure rfl (PO.move (v := .int .i64 ((readDec t).1)) rfl) ?_
    refine JL.pure rfl (PO.assign (v := .int .i64 ((readDec t).1)) rfl) ?_
    refine JL.nil ?_
    refine JQ.seq ?_
    refine JC.ret ?_
    refine Done.one (.inl rfl) rfl (RV.tmp (v := .int .i64 ((readDec t).1)) rfl) (List.nil_sublist _) ?_
    refine ⟨?_, rfl⟩
    unfold numOf
    first | rw [if_pos (by omega)] | rw [if_neg (by omega)]

theorem C_num (p : Nat) (a0 a1 a2 : Option Addr) (c0_ c1 c2 : Nat) (m : MS) (key : Str) (h0 : m.s.length ≤ 10000000000) (h1 : m.r.length ≤ 10000000000) (h2 : m.w.length ≤ 10000000000) (hv : (getKey m.s key).length ≤ 281474976710656) :
    Ct Tryz.prog 170 [.pointer (some ⟨p, 0, none⟩), str key] [bk p 32 [.slice a0 m.s.length c0_, .slice a1 m.r.length c1, .slice a2 m.w.length c2], Res.row (.slice a0 m.s.length c0_) 113 2 m.s.length (m.s.flatMap encC), Res.row (.slice a1 m.r.length c1) 9 1 m.r.length (m.r.map str), Res.row (.slice a2 m.w.length c2) 9 1 m.w.length (m.w.map str)] (fun _ => True) (fun v A' => ∃ x0 y0 x1 y1 x2 y2, v = .int .i64 (m.num key).2 ∧ A' = [bk p 32 [.slice x0 (((m.num key).1).s.length) y0, .slice x1 (((m.num key).1).r.length) y1, .slice x2 (((m.num key).1).w.length) y2], Res.row (.slice x0 (((m.num key).1).s.length) y0) 113 2 ((((m.num key).1).s).length) ((((m.num key).1).s).flatMap encC), Res.row (.slice x1 (((m.num key).1).r.length) y1) 9 1 ((((m.num key).1).r).length) ((((m.num key).1).r).map str), Res.row (.slice x2 (((m.num key).1).w.length) y2) 9 1 ((((m.num key).1).w).length) ((((m.num key).1).w).map str)]) := by
  refine Ct.intro Tryz.func170 rfl Tryz.ntmps170 (Nat.le_of_ble_eq_true rfl) fun w0 hpre => ?_
  refine JC.seq ?_
  refine JC.region ?_
  refine JL.pure rfl (PO.assign (v := .int .i64 0) rfl) ?_
  refine JL.nil ?_
  refine JQ.seq ?_
  refine JC.seq ?_
  refine JC.region ?_
  refine JL.pure rfl (PO.move (v := .pointer (some ⟨p, 0, none⟩)) rfl) ?_
  refine JL.pure rfl (PO.move (v := str key) rfl) ?_
  refine JL.op rfl (JO.call [0, 0, 0, 0] Tryz.call264 rfl (C_look p a0 a1 a2 c0_ c1 c2 m key (by omega) (by omega) (by omega)) rfl (fun _ _ => trivial)) ?_
  rintro _ _ ⟨_, ⟨a_1, c_2, a_3, c_4, a_5, c_6, rfl, rfl⟩, rfl⟩
  have hlk6 := look_len m key
  refine JL.op rfl (JO.call [] Tryz.call221 rfl (C_numOf ((MS.look m key).2) hv) rfl (fun _ _ => trivial)) ?_
  rintro _ _ ⟨_, ⟨rfl, rfl⟩, rfl⟩
  have hno6 := numOf_lo ((MS.look m key).2)
  refine JL.pure rfl (PO.assign (v := .int .i64 (numOf ((MS.look m key).2))) rfl) ?_
  refine JL.nil ?_
  refine JQ.seq ?_
  refine JC.ret ?_
  refine Done.one (.inl rfl) rfl (RV.tmp (v := .int .i64 (numOf ((MS.look m key).2))) rfl) (List.Sublist.refl _) ?_
  exact ⟨_, _, _, _, _, _, rfl, rfl⟩

theorem C_setNum (p : Nat) (a0 a1 a2 : Option Addr) (c0_ c1 c2 : Nat) (m : MS) (key : Str) (n : Int) (h0 : m.s.length ≤ 10000000000) (h1 : m.r.length ≤ 10000000000) (h2 : m.w.length ≤ 10000000000) (hk : key.length ≤ 1000000000000) (hn0 : -9223372036854775808 ≤ n) (hn1 : n ≤ 9223372036854775807) :
    Ct Tryz.prog 241 [.pointer (some ⟨p, 0, none⟩), str key, .int .i64 n] [bk p 32 [.slice a0 m.s.length c0_, .slice a1 m.r.length c1, .slice a2 m.w.length c2], Res.row (.slice a0 m.s.length c0_) 113 2 m.s.length (m.s.flatMap encC), Res.row (.slice a1 m.r.length c1) 9 1 m.r.length (m.r.map str), Res.row (.slice a2 m.w.length c2) 9 1 m.w.length (m.w.map str)] (fun _ => True) (fun v A' => ∃ x0 y0 x1 y1 x2 y2, v = .tuple #[] ∧ A' = [bk p 32 [.slice x0 ((m.setNum key n).s.length) y0, .slice x1 ((m.setNum key n).r.length) y1, .slice x2 ((m.setNum key n).w.length) y2], Res.row (.slice x0 ((m.setNum key n).s.length) y0) 113 2 (((m.setNum key n).s).length) (((m.setNum key n).s).flatMap encC), Res.row (.slice x1 ((m.setNum key n).r.length) y1) 9 1 (((m.setNum key n).r).length) (((m.setNum key n).r).map str), Res.row (.slice x2 ((m.setNum key n).w.length) y2) 9 1 (((m.setNum key n).w).length) (((m.setNum key n).w).map str)]) := by
  refine Ct.intro Tryz.func241 rfl Tryz.ntmps241 (Nat.le_of_ble_eq_true rfl) fun w0 hpre => ?_
  refine JC.seq ?_
  refine JC.region ?_
  refine JL.pure rfl (PO.assign (v := str []) rfl) ?_
  refine JL.nil ?_
  refine JQ.seq ?_
  refine JC.seq ?_
  refine JC.seq ?_
  refine JC.region ?_
  refine JL.pure rfl (PO.move (v := .int .i64 n) rfl) ?_
  refine JL.op rfl (JO.call [] Tryz.call143 rfl (C_within n 1 999) rfl (fun _ _ => trivial)) ?_
  rintro _ _ ⟨_, ⟨rfl, rfl⟩, rfl⟩
  refine JL.nil ?_
  refine JQ.seq ?_
  rcases Bool.eq_false_or_eq_true (decide (1 ≤ n) && decide (n ≤ 999)) with h_1 | h_1
  · skip
    have h_1d := h_1
    simp only [Bool.and_eq_true, Bool.and_eq_false_iff, decide_eq_true_eq, decide_eq_false_iff_not] at h_1d
    refine JC.condT (congrArg Value.bool h_1) ?_
    refine JC.region ?_
    refine JL.pure rfl (PO.move (v := .int .i64 n) rfl) ?_
    refine JL.op rfl (JO.call [] Tryz.call64 rfl (C_decimal n (by omega) (by omega)) rfl (fun _ _ => trivial)) ?_
    rintro _ _ ⟨_, ⟨rfl, rfl⟩, rfl⟩
    refine JL.pure rfl (PO.assign (v := str (dec n)) rfl) ?_
    refine JL.nil ?_
    refine JQ.seq ?_
    refine JC.region ?_
    refine JL.pure rfl (PO.move (v := .pointer (some ⟨p, 0, none⟩)) rfl) ?_
    refine JL.pure rfl (PO.move (v := str key) rfl) ?_
    refine JL.pure rfl (PO.move (v := str (dec n)) rfl) ?_
    refine JL.op rfl (JO.call [0, 0, 0, 0] Tryz.call240 rfl (C_lay p a0 a1 a2 c0_ c1 c2 m key (dec n) (by omega) (by omega) (by omega) (by omega)) rfl (fun _ _ => trivial)) ?_
    rintro _ _ ⟨_, ⟨a_2, c_3, a_4, c_5, a_6, c_7, rfl, rfl⟩, rfl⟩
    have hly7 := lay_len m key (dec n)
    refine JL.nil ?_
    refine Done.none (.inr rfl) rfl (List.Sublist.refl _) ?_
    have hb : m.setNum key n = m.lay key (dec n) := by unfold MS.setNum; rw [if_pos (by omega)]
    rw [hb]
    exact ⟨_, _, _, _, _, _, rfl, rfl⟩
  · skip
    have h_1d := h_1
    simp only [Bool.and_eq_true, Bool.and_eq_false_iff, decide_eq_true_eq, decide_eq_false_iff_not] at h_1d
    refine JC.condF (congrArg Value.bool h_1) ?_
    refine JC.skip ?_
    refine JQ.seq ?_
    refine JC.region ?_
    refine JL.pure rfl (PO.move (v := .pointer (some ⟨p, 0, none⟩)) rfl) ?_
    refine JL.pure rfl (PO.move (v := str key) rfl) ?_
    refine JL.pure rfl (PO.move (v := str []) rfl) ?_
    refine JL.op rfl (JO.call [0, 0, 0, 0] Tryz.call240 rfl (C_lay p a0 a1 a2 c0_ c1 c2 m key [] (by omega) (by omega) (by omega) (by omega)) rfl (fun _ _ => trivial)) ?_
    rintro _ _ ⟨_, ⟨a_8, c_9, a_10, c_11, a_12, c_13, rfl, rfl⟩, rfl⟩
    have hly13 := lay_len m key []
    refine JL.nil ?_
    refine Done.none (.inr rfl) rfl (List.Sublist.refl _) ?_
    have hb : m.setNum key n = m.lay key [] := by unfold MS.setNum; rw [if_neg (by omega)]
    rw [hb]
    exact ⟨_, _, _, _, _, _, rfl, rfl⟩

theorem C_bump (p : Nat) (a0 a1 a2 : Option Addr) (c0_ c1 c2 : Nat) (m : MS) (key : Str) (h0 : m.s.length ≤ 1000000000) (h1 : m.r.length ≤ 1000000000) (h2 : m.w.length ≤ 1000000000) (hv : (getKey m.s key).length ≤ 281474976710656) (hk : key.length ≤ 1000000000000) :
    Ct Tryz.prog 252 [.pointer (some ⟨p, 0, none⟩), str key] [bk p 32 [.slice a0 m.s.length c0_, .slice a1 m.r.length c1, .slice a2 m.w.length c2], Res.row (.slice a0 m.s.length c0_) 113 2 m.s.length (m.s.flatMap encC), Res.row (.slice a1 m.r.length c1) 9 1 m.r.length (m.r.map str), Res.row (.slice a2 m.w.length c2) 9 1 m.w.length (m.w.map str)] (fun _ => True) (fun v A' => ∃ x0 y0 x1 y1 x2 y2, v = .int .i64 (m.bump key).2 ∧ A' = [bk p 32 [.slice x0 (((m.bump key).1).s.length) y0, .slice x1 (((m.bump key).1).r.length) y1, .slice x2 (((m.bump key).1).w.length) y2], Res.row (.slice x0 (((m.bump key).1).s.length) y0) 113 2 ((((m.bump key).1).s).length) ((((m.bump key).1).s).flatMap encC), Res.row (.slice x1 (((m.bump key).1).r.length) y1) 9 1 ((((m.bump key).1).r).length) ((((m.bump key).1).r).map str), Res.row (.slice x2 (((m.bump key).1).w.length) y2) 9 1 ((((m.bump key).1).w).length) ((((m.bump key).1).w).map str)]) := by
  refine Ct.intro Tryz.func252 rfl Tryz.ntmps252 (Nat.le_of_ble_eq_true rfl) fun w0 hpre => ?_
  refine JC.seq ?_
  refine JC.region ?_
  refine JL.pure rfl (PO.assign (v := .int .i64 0) rfl) ?_
  refine JL.nil ?_
  refine JQ.seq ?_
  refine JC.seq ?_
  refine JC.region ?_
  refine JL.pure rfl (PO.move (v := .pointer (some ⟨p, 0, none⟩)) rfl) ?_
  refine JL.pure rfl (PO.move (v := str key) rfl) ?_
  refine JL.op rfl (JO.call [0, 0, 0, 0] Tryz.call170 rfl (C_num p a0 a1 a2 c0_ c1 c2 m key (by omega) (by omega) (by omega) hv) rfl (fun _ _ => trivial)) ?_
  rintro _ _ ⟨_, ⟨a_1, c_2, a_3, c_4, a_5, c_6, rfl, rfl⟩, rfl⟩
  have hnm6 := num_len m key
  have hnn6 : 0 ≤ (MS.num m key).2 ∧ (MS.num m key).2 ≤ 999 := numOf_lo _
  refine JL.pure rfl (PO.add (c := ((MS.num m key).2) + 1) rfl rfl (wr (by omega))) ?_
  refine JL.pure rfl (PO.assign (v := .int .i64 (((MS.num m key).2) + 1)) rfl) ?_
  refine JL.nil ?_
  refine JQ.seq ?_
  refine JC.seq ?_
  refine JC.seq ?_
  refine JC.region ?_
  refine JL.pure rfl (PO.move (v := .int .i64 (((MS.num m key).2) + 1)) rfl) ?_
  refine JL.pure rfl (PO.gtr rfl rfl) ?_
  refine JL.nil ?_
  refine JQ.seq ?_
  by_cases h_7 : 999 < (((MS.num m key).2) + 1)
  · skip
    refine JC.condT (congrArg Value.bool (decide_eq_true h_7)) ?_
    refine JC.seq ?_
    refine JC.region ?_
    refine JL.pure rfl (PO.assign (v := .int .i64 0) rfl) ?_
    refine JL.nil ?_
    refine JQ.seq ?_
    refine JC.ret ?_
    refine JQ.thenRet ?_
    refine Done.one (.inl rfl) rfl (RV.tmp (v := .int .i64 0) rfl) (List.Sublist.refl _) ?_
    have hb : m.bump key = ((m.num key).1, 0) := by unfold MS.bump; rw [if_pos (by omega)]
    rw [hb]
    exact ⟨_, _, _, _, _, _, rfl, rfl⟩
  · skip
    refine JC.condF (congrArg Value.bool (decide_eq_false h_7)) ?_
    refine JC.skip ?_
    refine JQ.seq ?_
    refine JC.seq ?_
    refine JC.region ?_
    refine JL.pure rfl (PO.move (v := .pointer (some ⟨p, 0, none⟩)) rfl) ?_
    refine JL.pure rfl (PO.move (v := str key) rfl) ?_
    refine JL.pure rfl (PO.move (v := .int .i64 (((MS.num m key).2) + 1)) rfl) ?_
    refine JL.op rfl (JO.call [0, 0, 0, 0] Tryz.call241 rfl (C_setNum p a_1 a_3 a_5 c_2 c_4 c_6 ((MS.num m key).1) key (((MS.num m key).2) + 1) (by omega) (by omega) (by omega) (by omega) (by omega) (by omega)) rfl (fun _ _ => trivial)) ?_
    rintro _ _ ⟨_, ⟨a_8, c_9, a_10, c_11, a_12, c_13, rfl, rfl⟩, rfl⟩
    have hsn13 := setNum_len ((MS.num m key).1) key (((MS.num m key).2) + 1)
    refine JL.nil ?_
    refine JQ.seq ?_
    refine JC.seq ?_
    refine JC.region ?_
    refine JL.pure rfl (PO.move (v := .int .i64 (((MS.num m key).2) + 1)) rfl) ?_
    refine JL.pure rfl (PO.assign (v := .int .i64 (((MS.num m key).2) + 1)) rfl) ?_
    refine JL.nil ?_
    refine JQ.seq ?_
    refine JC.ret ?_
    refine Done.one (.inl rfl) rfl (RV.tmp (v := .int .i64 (((MS.num m key).2) + 1)) rfl) (List.Sublist.refl _) ?_
    have hb : m.bump key = ((m.num key).1.setNum key ((m.num key).2 + 1), (m.num key).2 + 1) := by unfold MS.bump; rw [if_neg (by omega)]
    rw [hb]
    exact ⟨_, _, _, _, _, _, rfl, rfl⟩

end Go.Proofs.YtenfajgpdhgknaaGreatDoor
