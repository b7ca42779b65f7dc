/-
  The library's slices.Clone, IndexFunc, Insert and DeleteFunc at cells and at strings (part 7).
-/
import Derived.Test.YtenfajgpdhgknaaGreatDoorS06HELD
import Derived.Test.YtenfajgpdhgknaaGreatDoorSlDel
set_option linter.unusedSimpArgs false
set_option linter.unusedVariables false
set_option linter.unnecessarySimpa false
namespace Go.Proofs.YtenfajgpdhgknaaGreatDoor
open Go Go.RowKit
attribute [local irreducible] JL JC JQ JO LO PO JA JX Ct

theorem run_ov {tS tR : TypeId} {f : FuncId} {fn : Func} {P : Program} (hf : P.funcs[f]? = some fn) (hname : (fn.name == "runtime.NumGoroutine") = false) (hb : fn.body.isNone = true) (hn : Extern.findNext fn = none)
    (he : Extern.find fn = some (Extern.SlicesOverlaps.overlaps #[tS, tS] #[tR])) : ∀ args w, (callFunc f args).run P w = ((Extern.SlicesOverlaps.overlaps #[tS, tS] #[tR] args).run P w).andThen fun v w' => .ok (.value v) w' :=
  fun args w => run_callFunc_extern hf hname hb hn he args w

theorem C_cloneC (a : Option Addr) (c : Nat) (s : List Cell) (hn : s.length ≤ 1000000000000) :
    Ct Tryz.prog 237 [.slice a s.length c] [] (fun w_ => Sees w_ (.slice a s.length c) 2 s.length (s.flatMap encC)) (fun v A' => ∃ a' c', v = .slice a' s.length c' ∧ A' = [.row (.slice a' s.length c') 113 2 s.length (s.flatMap encC)]) := by
  refine Ct.intro Tryz.func237 rfl Tryz.ntmps237 (Nat.le_of_ble_eq_true rfl) fun w0 hpre => ?_
  have hs_a : Sees w0 _ _ _ _ := hpre
  refine JC.seq ?_
  refine JC.region ?_
  refine JL.pure rfl (PO.assign (v := .slice none 0 0) rfl) ?_
  refine JL.nil ?_
  refine JQ.seq ?_
  refine JC.seq ?_
  refine JC.seq ?_
  refine JC.region ?_
  refine JL.pure rfl (PO.move (v := .slice a s.length c) rfl) ?_
  refine JL.pure rfl (PO.eqNil Tryz.underlying29 rfl rfl) ?_
  refine JL.nil ?_
  refine JQ.seq ?_
  rcases Bool.eq_false_or_eq_true (a.isNone) with h_1 | h_1
  · skip
    refine JC.condT (congrArg Value.bool h_1) ?_
    refine JC.seq ?_
    refine JC.region ?_
    refine JL.pure rfl (PO.assign (v := .slice none 0 0) rfl) ?_
    refine JL.nil ?_
    refine JQ.seq ?_
    refine JC.ret ?_
    refine JQ.thenRet ?_
    refine JQ.nilrow 113 2 ?_
    refine Done.one (.inl rfl) rfl (RV.tmp (v := .slice none 0 0) rfl) (List.Sublist.refl _) ?_
    have ha : a = none := by simpa using h_1
    have hz : s.length = 0 := sees_none (ha ▸ hpre)
    have hs0 : s = [] := List.length_eq_zero_iff.1 hz
    subst hs0
    exact ⟨none, 0, rfl, rfl⟩
  · skip
    refine JC.condF (congrArg Value.bool h_1) ?_
    refine JC.skip ?_
    refine JQ.seq ?_
    refine JC.seq ?_
    refine JC.region ?_
    refine JL.op rfl (JO.buildSlice (ps := []) (cur := #[]) Tryz.underlying29 Tryz.sizeOf113 Tryz.zeroValue113 rfl (by kernel_rfl) (by decide) (by decide)) ?_
    rintro _ _ ⟨a_2, rfl, rfl⟩
    refine JL.pure rfl (PO.move (v := .slice a s.length c) rfl) ?_
    refine JL.op rfl (JO.append' 0 (q := s.length) (news := s.flatMap encC) (n' := s.length) (cs' := s.flatMap encC) rfl Tryz.underlying29 Tryz.underlying29 Tryz.typeInfo113 rfl (by' := 32) rfl rfl rfl rfl rfl (fun w hw => Src.sees (hw.seeOut_ hs_a (fun _ _ => List.not_mem_nil)) (oneC _)) (by (try simp only [List.length_append, List.length_cons, List.length_nil, List.length_take, List.length_drop]); omega) (by (try simp only [List.length_append, List.length_cons, List.length_nil, List.length_take, List.length_drop]); omega) (by (try simp only [List.length_take, List.length_drop]); first | rfl | omega) rfl) ?_
    rintro _ _ ⟨a_3, c_4, rfl, rfl⟩
    refine JL.pure rfl (PO.assign (v := .slice a_3 s.length c_4) rfl) ?_
    refine JL.nil ?_
    refine JQ.seq ?_
    refine JC.ret ?_
    refine Done.one (.inl rfl) rfl (RV.tmp (v := .slice a_3 s.length c_4) rfl) (List.Sublist.refl _) ?_
    exact ⟨_, _, rfl, rfl⟩

theorem C_idxC (fp : FuncId) (hcf : ∀ args w, (callFunc fp args).run Tryz.prog w = .ok (.enter fp args) w) (kb : Nat) (key : Str) (p : Cell → Bool) (hp : ∀ x : Cell, Ct Tryz.prog fp [.agg #[str x.1, str x.2], .pointer (some ⟨kb, 0, none⟩)] [bk kb 9 [str key]] (fun _ => True) (fun v A' => v = .bool (p x) ∧ A' = [bk kb 9 [str key]])) (a : Option Addr) (c : Nat) (s : List Cell) (hn : s.length ≤ 1000000000000) :
    Ct Tryz.prog 291 [.slice a s.length c, .func (.func fp) #[] #[.pointer (some ⟨kb, 0, none⟩)]] [bk kb 9 [str key]] (fun w_ => Sees w_ (.slice a s.length c) 2 s.length (s.flatMap encC) ∧ (∀ b, (Value.slice a s.length c).ownBlock = some b → b ≠ kb)) (fun v A' => v = .int .i64 (idxI p s) ∧ A' = [bk kb 9 [str key]]) := by
  refine Ct.intro Tryz.func291 rfl Tryz.ntmps291 (Nat.le_of_ble_eq_true rfl) fun w0 hpre => ?_
  have hs_a : Sees w0 _ _ _ _ := hpre.1
  refine JC.seq ?_
  refine JC.region ?_
  refine JL.pure rfl (PO.assign (v := .int .i64 0) rfl) ?_
  refine JL.nil ?_
  refine JQ.seq ?_
  refine JC.seq ?_
  refine JC.seq ?_
  refine JC.region ?_
  refine JL.pure rfl (PO.move (v := .slice a s.length c) rfl) ?_
  refine JL.pure rfl (PO.lenV Tryz.underlying29 rfl) ?_
  refine JL.pure rfl (PO.move (v := .int .i64 0) rfl) ?_
  refine JL.nil ?_
  refine JQ.seq ?_
  refine JC.block ?_
  refine JC.loop (fun k_ e_ L_ => ∃ j : Nat, (j ≤ s.length) ∧ (∀ i, i < j → p (s.getD i c0) = false) ∧ e_ 0 = .slice a s.length c ∧ e_ 1 = .func (.func fp) #[] #[.pointer (some ⟨kb, 0, none⟩)] ∧ e_ 7 = .int .i64 ((s.length : Nat) : Int) ∧ e_ 8 = .int .i64 ((j : Nat) : Int) ∧ L_ = [bk kb 9 [str key]] ∧ k_ = s.length - j) _ ⟨0, by omega, (fun i hi => absurd hi (Nat.not_lt_zero i)), rfl, rfl, rfl, rfl, rfl, rfl⟩ ?_
  rintro _ e_1 _ ⟨j, hj, hN, he_2, he_3, he_4, he_5, rfl, rfl⟩
  refine JC.seq ?_
  refine JC.region ?_
  refine JL.pure rfl (PO.lss he_5 he_4) ?_
  refine JL.nil ?_
  refine JQ.seq ?_
  refine JC.seq ?_
  by_cases h_6 : ((j : Nat) : Int) < ((s.length : Nat) : Int)
  · skip
    have hlt : j < s.length := by omega
    refine JC.condT (congrArg Value.bool (decide_eq_true h_6)) ?_
    refine JC.skip ?_
    refine JQ.seq ?_
    refine JC.seq ?_
    refine JC.block ?_
    refine JC.seq ?_
    refine JC.region ?_
    refine JL.pure rfl (PO.move (v := .int .i64 ((j : Nat) : Int)) he_5) ?_
    refine JL.pure rfl (PO.assign (v := .int .i64 ((j : Nat) : Int)) rfl) ?_
    refine JL.nil ?_
    refine JQ.seq ?_
    refine JC.seq ?_
    refine JC.region ?_
    refine JL.pure rfl (PO.move (v := .func (.func fp) #[] #[.pointer (some ⟨kb, 0, none⟩)]) he_3) ?_
    refine JL.pure rfl (PO.move (v := .slice a s.length c) he_2) ?_
    refine JL.pure rfl (PO.move (v := .int .i64 ((j : Nat) : Int)) rfl) ?_
    obtain ⟨hr_7, hr_7b, -⟩ := sees_some hs_a (by omega)
    refine JL.pure rfl (PO.indexAddrV (i := j) Tryz.underlying29 Tryz.sizeOf113 hr_7 hr_7b rfl rfl (by omega)) ?_
    refine JL.ld rfl (LO.loadSK (vs := [str ((s.getD j c0).1), str ((s.getD j c0).2)]) hs_a (notin_bk hpre.2) rfl Tryz.isAgg113 Tryz.sizeOf113 (atC (by omega)) rfl (by decide)) ?_
    refine JL.op rfl (JO.callV [0] hcf rfl (hp (s.getD j c0)) rfl rfl (fun _ _ => trivial)) ?_
    rintro _ _ ⟨_, ⟨rfl, rfl⟩, rfl⟩
    refine JL.nil ?_
    refine JQ.seq ?_
    rcases Bool.eq_false_or_eq_true (p (s.getD j c0)) with h_8 | h_8
    · skip
      have hpj := h_8
      refine JC.condT (congrArg Value.bool h_8) ?_
      refine JC.seq ?_
      refine JC.region ?_
      refine JL.pure rfl (PO.move (v := .int .i64 ((j : Nat) : Int)) rfl) ?_
      refine JL.pure rfl (PO.assign (v := .int .i64 ((j : Nat) : Int)) rfl) ?_
      refine JL.nil ?_
      refine JQ.seq ?_
      refine JC.ret ?_
      refine JQ.blockRet ?_
      refine JQ.thenRet ?_
      refine JQ.thenRet ?_
      refine JQ.blockRet ?_
      refine JQ.thenRet ?_
      refine Done.one (.inl rfl) rfl (RV.tmp (v := .int .i64 ((j : Nat) : Int)) rfl) (List.Sublist.refl _) ?_
      refine ⟨?_, rfl⟩
      rw [idxI_found c0 hlt hN hpj]
    · skip
      have hpj := h_8
      refine JC.condF (congrArg Value.bool h_8) ?_
      refine JC.skip ?_
      refine JQ.blockN ?_
      refine JQ.seq ?_
      refine JC.region ?_
      refine JL.pure rfl (PO.add (c := ((j + 1 : Nat) : Int)) he_5 rfl (wr (by omega))) ?_
      refine JL.pure rfl (PO.move (v := .int .i64 ((j + 1 : Nat) : Int)) rfl) ?_
      refine JL.nil ?_
      refine JQ.again (s.length - (j + 1)) (by omega) ⟨j + 1, by omega, (fun i hi => if h : i = j then h ▸ hpj else hN i (by omega)), he_2, he_3, he_4, rfl, rfl, rfl⟩
  · skip
    refine JC.condF (congrArg Value.bool (decide_eq_false h_6)) ?_
    refine JC.exit ?_
    refine JQ.thenExit ?_
    refine JQ.thenExit ?_
    refine JQ.blockE ?_
    refine JQ.seq ?_
    refine JC.seq ?_
    refine JC.region ?_
    refine JL.pure rfl (PO.assign (v := .int .i64 (-1)) rfl) ?_
    refine JL.nil ?_
    refine JQ.seq ?_
    refine JC.ret ?_
    refine Done.one (.inl rfl) rfl (RV.tmp (v := .int .i64 (-1)) rfl) (List.Sublist.refl _) ?_
    refine ⟨?_, rfl⟩
    rw [idxI_none c0 (by omega) hN]

theorem C_insC (a va : Option Addr) (c : Nat) (s : List Cell) (i : Nat) (x : Cell) (hi : i ≤ s.length) (hn : s.length ≤ 1000000000000) (hcl : (s.flatMap encC).length = s.length * 2) :
    Ct Tryz.prog 303 [.slice a s.length c, .int .i64 ((i : Nat) : Int), .slice va 1 1] [Res.row (.slice a s.length c) 113 2 s.length (s.flatMap encC), Res.row (.slice va 1 1) 113 2 1 ([x].flatMap encC)] (fun _ => True) (fun v A' => ∃ a' c', v = .slice a' (insertAt i x s).length c' ∧ A' = [.row (.slice a' (insertAt i x s).length c') 113 2 (insertAt i x s).length ((insertAt i x s).flatMap encC)]) := by
  refine Ct.intro Tryz.func303 rfl Tryz.ntmps303 (Nat.le_of_ble_eq_true rfl) fun w0 hpre => ?_
  refine JC.seq ?_
  refine JC.region ?_
  refine JL.pure rfl (PO.assign (v := .slice none 0 0) rfl) ?_
  refine JL.nil ?_
  refine JQ.seq ?_
  refine JC.seq ?_
  refine JC.region ?_
  refine JL.pure rfl (PO.move (v := .slice a s.length c) rfl) ?_
  refine JL.pure rfl (PO.move (v := .int .i64 ((i : Nat) : Int)) rfl) ?_
  refine JL.facts fun hst => ?_
  obtain ⟨hf_1m, hf_1x, hf_1s, hf_1l⟩ := fits_of hst (i := 0) rfl
  refine JL.pure rfl (PO.sliceVl (i := i) Tryz.underlying29 Tryz.sizeOf113 hf_1s rfl rfl (by omega)) ?_
  refine JL.nil ?_
  refine JQ.seq ?_
  refine JC.seq ?_
  refine JC.region ?_
  refine JL.pure rfl (PO.move (v := .slice va 1 1) rfl) ?_
  refine JL.pure rfl (PO.lenV Tryz.underlying29 rfl) ?_
  refine JL.pure rfl (PO.assign (v := .int .i64 ((1 : Nat) : Int)) rfl) ?_
  refine JL.nil ?_
  refine JQ.seq ?_
  refine JC.seq ?_
  refine JC.seq ?_
  refine JC.region ?_
  refine JL.pure rfl (PO.move (v := .int .i64 ((1 : Nat) : Int)) rfl) ?_
  refine JL.pure rfl (PO.eqlI rfl rfl) ?_
  refine JL.nil ?_
  refine JQ.seq ?_
  by_cases h_2 : ((1 : Nat) : Int) = 0
  · skip
    exfalso; omega
  · skip
    refine JC.condF (congrArg Value.bool (decide_eq_false h_2)) ?_
    refine JC.skip ?_
    refine JQ.seq ?_
    refine JC.seq ?_
    refine JC.region ?_
    refine JL.pure rfl (PO.move (v := .slice a s.length c) rfl) ?_
    refine JL.pure rfl (PO.lenV Tryz.underlying29 rfl) ?_
    refine JL.pure rfl (PO.assign (v := .int .i64 ((s.length : Nat) : Int)) rfl) ?_
    refine JL.nil ?_
    refine JQ.seq ?_
    refine JC.seq ?_
    refine JC.seq ?_
    refine JC.region ?_
    refine JL.pure rfl (PO.move (v := .int .i64 ((i : Nat) : Int)) rfl) ?_
    refine JL.pure rfl (PO.move (v := .int .i64 ((s.length : Nat) : Int)) rfl) ?_
    refine JL.pure rfl (PO.eqlI rfl rfl) ?_
    refine JL.nil ?_
    refine JQ.seq ?_
    by_cases h_3 : ((i : Nat) : Int) = ((s.length : Nat) : Int)
    · skip
      refine JC.condT (congrArg Value.bool (decide_eq_true h_3)) ?_
      refine JC.seq ?_
      refine JC.region ?_
      refine JL.pure rfl (PO.move (v := .slice a s.length c) rfl) ?_
      refine JL.pure rfl (PO.move (v := .slice va 1 1) rfl) ?_
      refine JL.op rfl (JO.append' 0 (q := 1) (news := [x].flatMap encC) (n' := (s ++ [x]).length) (cs' := (s ++ [x]).flatMap encC) rfl Tryz.underlying29 Tryz.underlying29 Tryz.typeInfo113 rfl (by' := 32) rfl rfl rfl rfl rfl (fun w hw => Src.sees (hw.see (i := 1) rfl) (oneC _)) (by (try simp only [List.length_append, List.length_cons, List.length_nil, List.length_take, List.length_drop]); omega) (by (try simp only [List.length_append, List.length_cons, List.length_nil, List.length_take, List.length_drop]); omega) (by simp only [List.length_append, List.length_take, List.length_drop, List.length_cons, List.length_nil] <;> first | rfl | omega) (by simp only [List.flatMap_append])) ?_
      rintro _ _ ⟨a_4, c_5, rfl, rfl⟩
      refine JL.pure rfl (PO.assign (v := .slice a_4 ((s ++ [x]).length) c_5) rfl) ?_
      refine JL.nil ?_
      refine JQ.seq ?_
      refine JC.ret ?_
      refine JQ.thenRet ?_
      refine Done.one (.inl rfl) rfl (RV.tmp (v := .slice a_4 ((s ++ [x]).length) c_5) rfl) (List.sublist_append_left [Res.row (.slice a_4 ((s ++ [x]).length) c_5) 113 2 ((s ++ [x]).length) ((s ++ [x]).flatMap encC)] [Res.row (.slice va 1 1) 113 2 1 ([x].flatMap encC)]) ?_
      have hin : i = s.length := by omega
      exact ⟨_, _, by rw [ins_end hin], by rw [ins_end hin]⟩
    · skip
      refine JC.condF (congrArg Value.bool (decide_eq_false h_3)) ?_
      refine JC.skip ?_
      refine JQ.seq ?_
      refine JC.seq ?_
      refine JC.seq ?_
      refine JC.region ?_
      refine JL.pure rfl (PO.move (v := .int .i64 ((s.length : Nat) : Int)) rfl) ?_
      refine JL.pure rfl (PO.move (v := .int .i64 ((1 : Nat) : Int)) rfl) ?_
      refine JL.pure rfl (PO.add (c := ((s.length + 1 : Nat) : Int)) rfl rfl (wr (by omega))) ?_
      refine JL.pure rfl (PO.move (v := .slice a s.length c) rfl) ?_
      refine JL.pure rfl (PO.capV Tryz.underlying29 rfl) ?_
      refine JL.pure rfl (PO.gtr rfl rfl) ?_
      refine JL.nil ?_
      refine JQ.seq ?_
      by_cases h_6 : ((c : Nat) : Int) < ((s.length + 1 : Nat) : Int)
      · skip
        refine JC.condT (congrArg Value.bool (decide_eq_true h_6)) ?_
        refine JC.seq ?_
        refine JC.region ?_
        refine JL.pure rfl (PO.move (v := .slice a s.length c) rfl) ?_
        refine JL.pure rfl (PO.move (v := .int .i64 ((i : Nat) : Int)) rfl) ?_
        refine JL.pure rfl (PO.sliceVh (j := i) Tryz.underlying29 Tryz.sizeOf113 hf_1s rfl rfl (by omega)) ?_
        refine JL.pure rfl (PO.move (v := .int .i64 ((s.length : Nat) : Int)) rfl) ?_
        refine JL.pure rfl (PO.move (v := .int .i64 ((1 : Nat) : Int)) rfl) ?_
        refine JL.pure rfl (PO.add (c := ((s.length + 1 : Nat) : Int)) rfl rfl (wr (by omega))) ?_
        refine JL.pure rfl (PO.move (v := .int .i64 ((i : Nat) : Int)) rfl) ?_
        refine JL.pure rfl (PO.sub (c := ((s.length + 1 - i : Nat) : Int)) rfl rfl (wr (by omega))) ?_
        refine JL.op rfl (JO.appendMake' 0 (i := i) (r := s.length + 1 - i) (by' := 32) (n' := s.length + 1) rfl Tryz.underlying29 Tryz.underlying3 Tryz.typeInfo113 rfl (by decide) rfl rfl rfl rfl rfl (by omega) (by omega) (by omega) (by omega) (by decide) (by omega)) ?_
        rintro _ _ ⟨a_7, c_8, zs_9, rfl, hzs_9c, hzs_9, rfl⟩
        refine JL.pure rfl (PO.assign (v := .slice a_7 (s.length + 1) c_8) rfl) ?_
        refine JL.nil ?_
        refine JQ.seq ?_
        refine JC.seq ?_
        refine JC.region ?_
        refine JL.pure rfl (PO.move (v := .slice a_7 (s.length + 1) c_8) rfl) ?_
        refine JL.pure rfl (PO.move (v := .int .i64 ((i : Nat) : Int)) rfl) ?_
        refine JL.facts fun hst => ?_
        obtain ⟨hf_10m, hf_10x, hf_10s, hf_10l⟩ := fits_of hst (i := 0) rfl
        refine JL.pure rfl (PO.sliceVl (i := i) Tryz.underlying29 Tryz.sizeOf113 hf_10s rfl rfl (by omega)) ?_
        refine JL.pure rfl (PO.move (v := .slice va 1 1) rfl) ?_
        refine JL.op rfl (JO.copy 0 (k := 2) (lo := i) (q := 1) (news := [str x.1, str x.2]) (cs' := ((s.flatMap encC).take (i * 2) ++ zs_9).take (i * 2) ++ [str x.1, str x.2] ++ ((s.flatMap encC).take (i * 2) ++ zs_9).drop (i * 2 + [str x.1, str x.2].length)) rfl Tryz.underlying29 Tryz.sizeOf113 rfl rfl (by show min _ _ = _; omega) (by omega) (by omega) (by decide) (by omega) (fun w hw => Fst.sees (hw.see (i := 2) rfl) (Nat.le_refl _)) rfl (oneC [x]) (rfl)) ?_
        rintro _ _ rfl
        refine JL.nil ?_
        refine JQ.seq ?_
        refine JC.seq ?_
        refine JC.regionA [] 0 mixed (by simp) ?_
        refine JA.takeP 0 rfl (by kernel_rfl) (NP.th (NP.th NP.body)) (by kernel_rfl) (by kernel_rfl) rfl (PO.move (v := .slice a_7 (s.length + 1) c_8) rfl) ?_
        refine JA.takeP 1 rfl (by kernel_rfl) (NP.th (NP.th NP.body)) (by kernel_rfl) (by kernel_rfl) rfl (PO.move (v := .int .i64 ((i : Nat) : Int)) rfl) ?_
        refine JA.takeP 2 rfl (by kernel_rfl) (NP.th (NP.th NP.body)) (by kernel_rfl) (by kernel_rfl) rfl (PO.move (v := .int .i64 ((1 : Nat) : Int)) rfl) ?_
        refine JA.takeP 3 rfl (by kernel_rfl) (NP.th (NP.th NP.body)) (by kernel_rfl) (by kernel_rfl) rfl (PO.add (c := ((i + 1 : Nat) : Int)) rfl rfl (wr (by omega))) ?_
        refine JA.takeP 4 rfl (by kernel_rfl) (NP.th (NP.th NP.body)) (by kernel_rfl) (by kernel_rfl) rfl (PO.sliceVl (i := (i + 1)) Tryz.underlying29 Tryz.sizeOf113 hf_10s rfl rfl (by omega)) ?_
        refine JA.takeP 5 rfl (by kernel_rfl) (NP.th (NP.th NP.body)) (by kernel_rfl) (by kernel_rfl) rfl (PO.move (v := .slice a s.length c) rfl) ?_
        refine JA.takeP 6 rfl (by kernel_rfl) (NP.th (NP.th NP.body)) (by kernel_rfl) (by kernel_rfl) rfl (PO.move (v := .int .i64 ((i : Nat) : Int)) rfl) ?_
        refine JA.takeP 7 rfl (by kernel_rfl) (NP.th (NP.th NP.body)) (by kernel_rfl) (by kernel_rfl) rfl (PO.sliceVl (i := i) Tryz.underlying29 Tryz.sizeOf113 hf_1s rfl rfl (by omega)) ?_
        refine JA.one (i := 8) (by kernel_rfl) ?_
        refine JX.last rfl rfl (by decide) (by kernel_rfl) (JO.copy 0 (k := 2) (lo := (i + 1)) (q := s.length - i) (news := (s.flatMap encC).drop (i * 2)) (cs' := (insertAt i x s).flatMap encC) rfl Tryz.underlying29 Tryz.sizeOf113 rfl rfl (by show min _ _ = _; omega) (by omega) (by omega) (by decide) (by omega) (fun w hw => Fst.mid (hw.see (i := 1) rfl) (by omega) (by omega) (tail1 hcl)) (by rw [List.length_drop, hcl]; omega) (fun u hu => oneC s u (List.mem_of_mem_drop hu)) ((by rw [show (i + 1) * 2 = i * 2 + 2 by omega]; exact (ins_grow (k := 2) (by rw [hcl]; omega) (by rw [hcl]; omega) rfl).trans insC))) ?_
        rintro _ _ rfl
        refine JQ.seq ?_
        refine JC.seq ?_
        refine JC.region ?_
        refine JL.pure rfl (PO.move (v := .slice a_7 (s.length + 1) c_8) rfl) ?_
        refine JL.pure rfl (PO.assign (v := .slice a_7 (s.length + 1) c_8) rfl) ?_
        refine JL.nil ?_
        refine JQ.seq ?_
        refine JC.ret ?_
        refine JQ.thenRet ?_
        refine Done.one (.inl rfl) rfl (RV.tmp (v := .slice a_7 (s.length + 1) c_8) rfl) (List.sublist_append_left [Res.row (.slice a_7 (s.length + 1) c_8) 113 2 (s.length + 1) ((insertAt i x s).flatMap encC)] [Res.row (.slice a s.length c) 113 2 s.length (s.flatMap encC), Res.row (.slice va 1 1) 113 2 1 ([x].flatMap encC)]) ?_
        exact ⟨_, _, by rw [insertAt_length i x s hi], by rw [insertAt_length i x s hi]⟩
      · skip
        refine JC.condF (congrArg Value.bool (decide_eq_false h_6)) ?_
        refine JC.skip ?_
        refine JQ.seq ?_
        refine JC.seq ?_
        refine JC.region ?_
        refine JL.pure rfl (PO.move (v := .slice a s.length c) rfl) ?_
        refine JL.pure rfl (PO.move (v := .int .i64 ((s.length : Nat) : Int)) rfl) ?_
        refine JL.pure rfl (PO.move (v := .int .i64 ((1 : Nat) : Int)) rfl) ?_
        refine JL.pure rfl (PO.add (c := ((s.length + 1 : Nat) : Int)) rfl rfl (wr (by omega))) ?_
        refine JL.pure rfl (PO.sliceVh (j := (s.length + 1)) Tryz.underlying29 Tryz.sizeOf113 hf_1s rfl rfl (by omega)) ?_
        refine JL.pure rfl (PO.assign (v := .slice a (s.length + 1) c) rfl) ?_
        refine JL.nil ?_
        refine JQ.seq ?_
        refine JC.seq ?_
        refine JC.seq ?_
        refine JC.widen 0 1 (m := s.length) rfl (by omega) fun zs_11 hzs_11 => ?_
        refine JC.region ?_
        refine JL.pure rfl (PO.move (v := .slice va 1 1) rfl) ?_
        refine JL.pure rfl (PO.move (v := .slice a (s.length + 1) c) rfl) ?_
        refine JL.pure rfl (PO.move (v := .int .i64 ((i : Nat) : Int)) rfl) ?_
        refine JL.pure rfl (PO.move (v := .int .i64 ((1 : Nat) : Int)) rfl) ?_
        refine JL.pure rfl (PO.add (c := ((i + 1 : Nat) : Int)) rfl rfl (wr (by omega))) ?_
        refine JL.pure rfl (PO.sliceVl (i := (i + 1)) Tryz.underlying29 Tryz.sizeOf113 hf_1s rfl rfl (by omega)) ?_
        refine JL.op rfl (JO.overlaps 1 0 (by decide) (k := 2) (lo := i + 1) rfl rfl (run_ov (tS := 29) (tR := 4) Tryz.func319 (by kernel_rfl) (by kernel_rfl) (by kernel_rfl) (by kernel_rfl)) Tryz.underlying29 Tryz.sizeOf113 rfl rfl (by decide) (by omega) (by decide) (by decide)) ?_
        rintro _ _ ⟨rfl, rfl⟩
        refine JL.pure rfl (PO.not rfl) ?_
        refine JL.nil ?_
        refine JQ.seq ?_
        refine JC.condT (congrArg Value.bool rfl) ?_
        refine JC.seq ?_
        refine JC.regionA [] 0 mixed (by simp) ?_
        refine JA.takeP 0 rfl (by kernel_rfl) (NP.th (NP.th NP.body)) (by kernel_rfl) (by kernel_rfl) rfl (PO.move (v := .slice a (s.length + 1) c) rfl) ?_
        refine JA.takeP 1 rfl (by kernel_rfl) (NP.th (NP.th NP.body)) (by kernel_rfl) (by kernel_rfl) rfl (PO.move (v := .int .i64 ((i : Nat) : Int)) rfl) ?_
        refine JA.takeP 2 rfl (by kernel_rfl) (NP.th (NP.th NP.body)) (by kernel_rfl) (by kernel_rfl) rfl (PO.move (v := .int .i64 ((1 : Nat) : Int)) rfl) ?_
        refine JA.takeP 3 rfl (by kernel_rfl) (NP.th (NP.th NP.body)) (by kernel_rfl) (by kernel_rfl) rfl (PO.add (c := ((i + 1 : Nat) : Int)) rfl rfl (wr (by omega))) ?_
        refine JA.takeP 4 rfl (by kernel_rfl) (NP.th (NP.th NP.body)) (by kernel_rfl) (by kernel_rfl) rfl (PO.sliceVl (i := (i + 1)) Tryz.underlying29 Tryz.sizeOf113 hf_1s rfl rfl (by omega)) ?_
        refine JA.takeP 5 rfl (by kernel_rfl) (NP.th (NP.th NP.body)) (by kernel_rfl) (by kernel_rfl) rfl (PO.move (v := .slice a (s.length + 1) c) rfl) ?_
        refine JA.takeP 6 rfl (by kernel_rfl) (NP.th (NP.th NP.body)) (by kernel_rfl) (by kernel_rfl) rfl (PO.move (v := .int .i64 ((i : Nat) : Int)) rfl) ?_
        refine JA.takeP 7 rfl (by kernel_rfl) (NP.th (NP.th NP.body)) (by kernel_rfl) (by kernel_rfl) rfl (PO.sliceVl (i := i) Tryz.underlying29 Tryz.sizeOf113 hf_1s rfl rfl (by omega)) ?_
        refine JA.one (i := 8) (by kernel_rfl) ?_
        refine JX.last rfl rfl (by decide) (by kernel_rfl) (JO.copy 0 (k := 2) (lo := (i + 1)) (q := s.length - i) (news := (s.flatMap encC).drop (i * 2)) (cs' := ((s.flatMap encC ++ zs_11)).take (i * 2 + 2) ++ (s.flatMap encC).drop (i * 2) ++ ((s.flatMap encC ++ zs_11)).drop (i * 2 + 2 + ((s.flatMap encC).drop (i * 2)).length)) rfl Tryz.underlying29 Tryz.sizeOf113 rfl rfl (by show min _ _ = _; omega) (by omega) (by omega) (by decide) (by omega) (fun w hw => Fst.mid (hw.see (i := 0) rfl) (by omega) (by omega) (tail2 hcl hi)) (by rw [List.length_drop, hcl]; omega) (fun u hu => oneC s u (List.mem_of_mem_drop hu)) ((by rw [show (i + 1) * 2 = i * 2 + 2 by omega]))) ?_
        rintro _ _ rfl
        refine JQ.seq ?_
        refine JC.seq ?_
        refine JC.region ?_
        refine JL.pure rfl (PO.move (v := .slice a (s.length + 1) c) rfl) ?_
        refine JL.pure rfl (PO.move (v := .int .i64 ((i : Nat) : Int)) rfl) ?_
        refine JL.pure rfl (PO.sliceVl (i := i) Tryz.underlying29 Tryz.sizeOf113 hf_1s rfl rfl (by omega)) ?_
        refine JL.pure rfl (PO.move (v := .slice va 1 1) rfl) ?_
        refine JL.op rfl (JO.copy 0 (k := 2) (lo := i) (q := 1) (news := [str x.1, str x.2]) (cs' := (insertAt i x s).flatMap encC) rfl Tryz.underlying29 Tryz.sizeOf113 rfl rfl (by show min _ _ = _; omega) (by omega) (by omega) (by decide) (by omega) (fun w hw => Fst.sees (hw.see (i := 1) rfl) (Nat.le_refl _)) rfl (oneC [x]) ((ins_room (k := 2) (by rw [hcl]; omega) (by omega) rfl).trans insC)) ?_
        rintro _ _ rfl
        refine JL.nil ?_
        refine JQ.seq ?_
        refine JC.seq ?_
        refine JC.region ?_
        refine JL.pure rfl (PO.move (v := .slice a (s.length + 1) c) rfl) ?_
        refine JL.pure rfl (PO.assign (v := .slice a (s.length + 1) c) rfl) ?_
        refine JL.nil ?_
        refine JQ.seq ?_
        refine JC.ret ?_
        refine JQ.thenRet ?_
        refine Done.one (.inl rfl) rfl (RV.tmp (v := .slice a (s.length + 1) c) rfl) (List.sublist_append_left [Res.row (.slice a (s.length + 1) c) 113 2 (s.length + 1) ((insertAt i x s).flatMap encC)] [Res.row (.slice va 1 1) 113 2 1 ([x].flatMap encC)]) ?_
        exact ⟨_, _, by rw [insertAt_length i x s hi], by rw [insertAt_length i x s hi]⟩

theorem C_delC (fp : FuncId) (hcf : ∀ args w, (callFunc fp args).run Tryz.prog w = .ok (.enter fp args) w) (kb : Nat) (key : Str) (p : Cell → Bool) (hp : ∀ x : Cell, Ct Tryz.prog fp [.agg #[str x.1, str x.2], .pointer (some ⟨kb, 0, none⟩)] [bk kb 9 [str key]] (fun _ => True) (fun v A' => v = .bool (p x) ∧ A' = [bk kb 9 [str key]])) (a : Option Addr) (c : Nat) (s : List Cell) (hn : s.length ≤ 1000000000000) :
    Ct Tryz.prog 300 [.slice a s.length c, .func (.func fp) #[] #[.pointer (some ⟨kb, 0, none⟩)]] [bk kb 9 [str key], Res.row (.slice a s.length c) 113 2 s.length (s.flatMap encC)] (fun _ => True) (fun v A' => ∃ a' c', v = .slice a' (s.filter (fun c => !p c)).length c' ∧ A' = [bk kb 9 [str key], .row (.slice a' (s.filter (fun c => !p c)).length c') 113 2 (s.filter (fun c => !p c)).length ((s.filter (fun c => !p c)).flatMap encC)]) := by
  refine Ct.intro Tryz.func300 rfl Tryz.ntmps300 (Nat.le_of_ble_eq_true rfl) fun w0 hpre => ?_
  refine JC.seq ?_
  refine JC.region ?_
  refine JL.pure rfl (PO.assign (v := .slice none 0 0) rfl) ?_
  refine JL.nil ?_
  refine JQ.seq ?_
  refine JC.seq ?_
  refine JC.region ?_
  refine JL.pure rfl (PO.move (v := .slice a s.length c) rfl) ?_
  refine JL.pure rfl (PO.move (v := .func (.func fp) #[] #[.pointer (some ⟨kb, 0, none⟩)]) rfl) ?_
  refine JL.op rfl (JO.call [0] Tryz.call291 rfl (C_idxC fp hcf kb key p hp a c s (by omega)) rfl (fun w hw => ⟨hw.see (i := 1) rfl, hw.apartO 1 0 rfl rfl rfl⟩)) ?_
  rintro _ _ ⟨_, ⟨rfl, rfl⟩, rfl⟩
  have hix0 := idxI_lo p s
  have hfl0 := findAt_le p s
  refine JL.pure rfl (PO.assign (v := .int .i64 (idxI p s)) rfl) ?_
  refine JL.nil ?_
  refine JQ.seq ?_
  refine JC.seq ?_
  refine JC.seq ?_
  refine JC.region ?_
  refine JL.pure rfl (PO.move (v := .int .i64 (idxI p s)) rfl) ?_
  refine JL.pure rfl (PO.eqlI rfl rfl) ?_
  refine JL.nil ?_
  refine JQ.seq ?_
  by_cases h_1 : (idxI p s) = (-1)
  · skip
    have hfe : findAt p s = s.length := by omega
    refine JC.condT (congrArg Value.bool (decide_eq_true h_1)) ?_
    refine JC.seq ?_
    refine JC.region ?_
    refine JL.pure rfl (PO.move (v := .slice a s.length c) rfl) ?_
    refine JL.pure rfl (PO.assign (v := .slice a s.length c) rfl) ?_
    refine JL.nil ?_
    refine JQ.seq ?_
    refine JC.ret ?_
    refine JQ.thenRet ?_
    refine Done.one (.inl rfl) rfl (RV.tmp (v := .slice a s.length c) rfl) (List.Sublist.refl _) ?_
    exact ⟨_, _, by rw [del_none hfe], by rw [del_none hfe]; rfl⟩
  · skip
    have hfl : findAt p s < s.length := by omega
    have hie : idxI p s = ((findAt p s : Nat) : Int) := by omega
    refine JC.condF (congrArg Value.bool (decide_eq_false h_1)) ?_
    refine JC.skip ?_
    refine JQ.seq ?_
    refine JC.seq ?_
    refine JC.seq ?_
    refine JC.region ?_
    refine JL.pure rfl (PO.move (v := .int .i64 ((findAt p s : Nat) : Int)) (congrArg (Value.int .i64) hie)) ?_
    refine JL.pure rfl (PO.add (c := (((findAt p s) + 1 : Nat) : Int)) rfl rfl (wr (by omega))) ?_
    refine JL.pure rfl (PO.assign (v := .int .i64 (((findAt p s) + 1 : Nat) : Int)) rfl) ?_
    refine JL.nil ?_
    refine JQ.seq ?_
    refine JC.block ?_
    refine JC.loop (fun k_ e_ L_ => ∃ i : Nat, ∃ j : Nat, ∃ X : List Cell, (j ≤ s.length) ∧ (i < j) ∧ (X.length = s.length) ∧ (X.take i = (s.take j).filter (fun c => !p c)) ∧ (X.drop j = s.drop j) ∧ e_ 0 = .slice a s.length c ∧ e_ 1 = .func (.func fp) #[] #[.pointer (some ⟨kb, 0, none⟩)] ∧ e_ 4 = .slice none 0 0 ∧ e_ 5 = .int .i64 ((i : Nat) : Int) ∧ e_ 6 = .int .i64 ((j : Nat) : Int) ∧ L_ = [bk kb 9 [str key], Res.row (.slice a s.length c) 113 2 s.length (X.flatMap encC)] ∧ k_ = s.length - j) _ ⟨findAt p s, (findAt p s + 1), s, by omega, by omega, rfl, (del_start hfl), rfl, rfl, rfl, rfl, (congrArg (Value.int .i64) hie), rfl, rfl, rfl⟩ ?_
    rintro _ e_2 _ ⟨i, j, X, hj, hij, hX, hXi, hXj, he_3, he_4, he_5, he_6, he_7, rfl, rfl⟩
    refine JC.seq ?_
    refine JC.seq ?_
    refine JC.region ?_
    refine JL.pure rfl (PO.move (v := .int .i64 ((j : Nat) : Int)) he_7) ?_
    refine JL.pure rfl (PO.move (v := .slice a s.length c) he_3) ?_
    refine JL.pure rfl (PO.lenV Tryz.underlying29 rfl) ?_
    refine JL.pure rfl (PO.lss rfl rfl) ?_
    refine JL.nil ?_
    refine JQ.seq ?_
    by_cases h_8 : ((j : Nat) : Int) < ((s.length : Nat) : Int)
    · skip
      have hlt : j < s.length := by omega
      refine JC.condT (congrArg Value.bool (decide_eq_true h_8)) ?_
      refine JC.skip ?_
      refine JQ.seq ?_
      refine JC.seq ?_
      refine JC.block ?_
      refine JC.seq ?_
      refine JC.region ?_
      refine JL.pure rfl (PO.move (v := .slice a s.length c) he_3) ?_
      refine JL.pure rfl (PO.move (v := .int .i64 ((j : Nat) : Int)) he_7) ?_
      refine JL.facts fun hst => ?_
      obtain ⟨hr_9, hr_9b, -⟩ := row_some 1 rfl (by omega) hst
      refine JL.pure rfl (PO.indexAddrV (i := j) Tryz.underlying29 Tryz.sizeOf113 hr_9 hr_9b rfl rfl (by omega)) ?_
      refine JL.ld rfl (LO.loadRK 1 (vs := [str ((X.getD j c0).1), str ((X.getD j c0).2)]) rfl rfl Tryz.isAgg113 Tryz.sizeOf113 (atC (by omega)) rfl (by decide)) ?_
      refine JL.op rfl (JO.alloc (z := .agg #[str [], str []]) (cs := [str [], str []]) Tryz.zeroValue113 rfl) ?_
      rintro _ _ ⟨b_10, rfl, rfl⟩
      refine JL.op rfl (JO.store 0 (vs := [str ((X.getD j c0).1), str ((X.getD j c0).2)]) (cs' := [str ((X.getD j c0).1), str ((X.getD j c0).2)]) rfl rfl rfl rfl Tryz.sizeOf113 rfl rfl (Nat.le_of_ble_eq_true rfl) rfl) ?_
      rintro _ _ rfl
      refine JL.nil ?_
      refine JQ.seq ?_
      refine JC.seq ?_
      refine JC.region ?_
      refine JL.pure rfl (PO.move (v := .func (.func fp) #[] #[.pointer (some ⟨kb, 0, none⟩)]) he_4) ?_
      refine JL.ld rfl (LO.loadK 0 (vs := [str ((X.getD j c0).1), str ((X.getD j c0).2)]) rfl rfl Tryz.isAgg113 Tryz.sizeOf113 rfl rfl) ?_
      refine JL.op rfl (JO.callV [1] hcf rfl (hp (X.getD j c0)) rfl rfl (fun _ _ => trivial)) ?_
      rintro _ _ ⟨_, ⟨rfl, rfl⟩, rfl⟩
      refine JL.pure rfl (PO.not rfl) ?_
      refine JL.nil ?_
      refine JQ.seq ?_
      rcases Bool.eq_false_or_eq_true (p (X.getD j c0)) with h_11 | h_11
      · skip
        have hpj := h_11
        refine JC.condF (congrArg Value.bool (congrArg Bool.not h_11)) ?_
        refine JC.skip ?_
        refine JQ.blockN ?_
        refine JQ.seq ?_
        refine JC.region ?_
        refine JL.pure rfl (PO.move (v := .int .i64 ((j : Nat) : Int)) he_7) ?_
        refine JL.pure rfl (PO.add (c := ((j + 1 : Nat) : Int)) rfl rfl (wr (by omega))) ?_
        refine JL.pure rfl (PO.assign (v := .int .i64 ((j + 1 : Nat) : Int)) rfl) ?_
        refine JL.nil ?_
        refine JQ.pick [0, 1] (A := [bk kb 9 [str key], Res.row (.slice a s.length c) 113 2 s.length (X.flatMap encC)]) rfl ?_
        refine JQ.again (s.length - (j + 1)) (by omega) ⟨i, j + 1, X, by omega, by omega, hX, (del_skip c0 hXj hlt hpj hXi), (drop_more hXj), he_3, he_4, he_5, he_6, rfl, rfl, rfl⟩
      · skip
        have hpj := h_11
        refine JC.condT (congrArg Value.bool (congrArg Bool.not h_11)) ?_
        refine JC.seq ?_
        refine JC.region ?_
        refine JL.pure rfl (PO.move (v := .slice a s.length c) he_3) ?_
        refine JL.pure rfl (PO.move (v := .int .i64 ((i : Nat) : Int)) he_6) ?_
        refine JL.ld rfl (LO.loadK 1 (vs := [str ((X.getD j c0).1), str ((X.getD j c0).2)]) rfl rfl Tryz.isAgg113 Tryz.sizeOf113 rfl rfl) ?_
        refine JL.pure rfl (PO.indexAddrV (i := i) Tryz.underlying29 Tryz.sizeOf113 hr_9 hr_9b rfl rfl (by omega)) ?_
        refine JL.op rfl (JO.storeR 2 (vs := [str ((X.getD j c0).1), str ((X.getD j c0).2)]) (cs' := (X.set i ((X.getD j c0).1, (X.getD j c0).2)).flatMap encC) rfl rfl rfl rfl Tryz.sizeOf113 rfl rfl (by decide) (by rw [lenC]; omega) (setC (by omega))) ?_
        rintro _ _ rfl
        refine JL.nil ?_
        refine JQ.seq ?_
        refine JC.region ?_
        refine JL.pure rfl (PO.move (v := .int .i64 ((i : Nat) : Int)) he_6) ?_
        refine JL.pure rfl (PO.add (c := ((i + 1 : Nat) : Int)) rfl rfl (wr (by omega))) ?_
        refine JL.pure rfl (PO.assign (v := .int .i64 ((i + 1 : Nat) : Int)) rfl) ?_
        refine JL.nil ?_
        refine JQ.blockN ?_
        refine JQ.seq ?_
        refine JC.region ?_
        refine JL.pure rfl (PO.move (v := .int .i64 ((j : Nat) : Int)) he_7) ?_
        refine JL.pure rfl (PO.add (c := ((j + 1 : Nat) : Int)) rfl rfl (wr (by omega))) ?_
        refine JL.pure rfl (PO.assign (v := .int .i64 ((j + 1 : Nat) : Int)) rfl) ?_
        refine JL.nil ?_
        refine JQ.pick [0, 1] (A := [bk kb 9 [str key], Res.row (.slice a s.length c) 113 2 s.length ((X.set i ((X.getD j c0).1, (X.getD j c0).2)).flatMap encC)]) rfl ?_
        refine JQ.again (s.length - (j + 1)) (by omega) ⟨i + 1, j + 1, X.set i (X.getD j c0), by omega, by omega, (by rw [List.length_set]; exact hX), (del_keep c0 hXj hlt hX hij hpj hXi), (del_keepD hXj hij _), he_3, he_4, he_5, rfl, rfl, rfl, rfl⟩
    · skip
      refine JC.condF (congrArg Value.bool (decide_eq_false h_8)) ?_
      refine JC.exit ?_
      refine JQ.thenExit ?_
      refine JQ.thenExit ?_
      refine JQ.blockE ?_
      refine JQ.seq ?_
      refine JC.seq ?_
      refine JC.region ?_
      refine JL.pure rfl (PO.move (v := .slice a s.length c) he_3) ?_
      refine JL.pure rfl (PO.move (v := .int .i64 ((i : Nat) : Int)) he_6) ?_
      refine JL.facts fun hst => ?_
      obtain ⟨hf_12m, hf_12x, hf_12s, hf_12l⟩ := fits_of hst (i := 1) rfl
      refine JL.pure rfl (PO.sliceVl (i := i) Tryz.underlying29 Tryz.sizeOf113 hf_12s rfl rfl (by omega)) ?_
      refine JL.op rfl (JO.clear 1 (k := 2) (lo := i) (z := .agg #[str [], str []]) rfl Tryz.underlying29 Tryz.zeroValue113 rfl (by decide) rfl (by decide) (by omega) (by omega)) ?_
      rintro _ _ ⟨zs_13, hzs_13, rfl⟩
      refine JL.nil ?_
      refine JQ.seq ?_
      refine JC.seq ?_
      refine JC.narrow 1 i (cs' := (s.filter (fun c => !p c)).flatMap encC) rfl (by omega) (by rw [takeC (by omega), del_done (by omega) hXi]) ?_
      refine JC.region ?_
      refine JL.pure rfl (PO.move (v := .slice a s.length c) he_3) ?_
      refine JL.pure rfl (PO.move (v := .int .i64 ((i : Nat) : Int)) he_6) ?_
      refine JL.pure rfl (PO.sliceVh (j := i) Tryz.underlying29 Tryz.sizeOf113 hf_12s rfl rfl (by omega)) ?_
      refine JL.pure rfl (PO.assign (v := .slice a i c) rfl) ?_
      refine JL.nil ?_
      refine JQ.seq ?_
      refine JC.ret ?_
      refine Done.one (.inl rfl) rfl (RV.tmp (v := .slice a i c) rfl) (List.Sublist.refl _) ?_
      have hln := del_len hX (by omega) (del_done (by omega) hXi)
      exact ⟨_, _, by rw [hln], by rw [hln]; rfl⟩

theorem C_cloneS (a : Option Addr) (c : Nat) (s : List Str) (hn : s.length ≤ 1000000000000) :
    Ct Tryz.prog 222 [.slice a s.length c] [] (fun w_ => Sees w_ (.slice a s.length c) 1 s.length (s.map str)) (fun v A' => ∃ a' c', v = .slice a' s.length c' ∧ A' = [.row (.slice a' s.length c') 9 1 s.length (s.map str)]) := by
  refine Ct.intro Tryz.func222 rfl Tryz.ntmps222 (Nat.le_of_ble_eq_true rfl) fun w0 hpre => ?_
  have hs_a : Sees w0 _ _ _ _ := hpre
  refine JC.seq ?_
  refine JC.region ?_
  refine JL.pure rfl (PO.assign (v := .slice none 0 0) rfl) ?_
  refine JL.nil ?_
  refine JQ.seq ?_
  refine JC.seq ?_
  refine JC.seq ?_
  refine JC.region ?_
  refine JL.pure rfl (PO.move (v := .slice a s.length c) rfl) ?_
  refine JL.pure rfl (PO.eqNil Tryz.underlying23 rfl rfl) ?_
  refine JL.nil ?_
  refine JQ.seq ?_
  rcases Bool.eq_false_or_eq_true (a.isNone) with h_1 | h_1
  · skip
    refine JC.condT (congrArg Value.bool h_1) ?_
    refine JC.seq ?_
    refine JC.region ?_
    refine JL.pure rfl (PO.assign (v := .slice none 0 0) rfl) ?_
    refine JL.nil ?_
    refine JQ.seq ?_
    refine JC.ret ?_
    refine JQ.thenRet ?_
    refine JQ.nilrow 9 1 ?_
    refine Done.one (.inl rfl) rfl (RV.tmp (v := .slice none 0 0) rfl) (List.Sublist.refl _) ?_
    have ha : a = none := by simpa using h_1
    have hz : s.length = 0 := sees_none (ha ▸ hpre)
    have hs0 : s = [] := List.length_eq_zero_iff.1 hz
    subst hs0
    exact ⟨none, 0, rfl, rfl⟩
  · skip
    refine JC.condF (congrArg Value.bool h_1) ?_
    refine JC.skip ?_
    refine JQ.seq ?_
    refine JC.seq ?_
    refine JC.region ?_
    refine JL.op rfl (JO.buildSlice (ps := []) (cur := #[]) Tryz.underlying23 Tryz.sizeOf9 Tryz.zeroValue9 rfl (by kernel_rfl) (by decide) (by decide)) ?_
    rintro _ _ ⟨a_2, rfl, rfl⟩
    refine JL.pure rfl (PO.move (v := .slice a s.length c) rfl) ?_
    refine JL.op rfl (JO.append' 0 (q := s.length) (news := s.map str) (n' := s.length) (cs' := s.map str) rfl Tryz.underlying23 Tryz.underlying23 Tryz.typeInfo9 rfl (by' := 16) rfl rfl rfl rfl rfl (fun w hw => Src.sees (hw.seeOut_ hs_a (fun _ _ => List.not_mem_nil)) (oneS _)) (by (try simp only [List.length_append, List.length_cons, List.length_nil, List.length_take, List.length_drop]); omega) (by (try simp only [List.length_append, List.length_cons, List.length_nil, List.length_take, List.length_drop]); omega) (by (try simp only [List.length_take, List.length_drop]); first | rfl | omega) rfl) ?_
    rintro _ _ ⟨a_3, c_4, rfl, rfl⟩
    refine JL.pure rfl (PO.assign (v := .slice a_3 s.length c_4) rfl) ?_
    refine JL.nil ?_
    refine JQ.seq ?_
    refine JC.ret ?_
    refine Done.one (.inl rfl) rfl (RV.tmp (v := .slice a_3 s.length c_4) rfl) (List.Sublist.refl _) ?_
    exact ⟨_, _, rfl, rfl⟩

theorem C_idxS (fp : FuncId) (hcf : ∀ args w, (callFunc fp args).run Tryz.prog w = .ok (.enter fp args) w) (kb : Nat) (key : Str) (p : Str → Bool) (hp : ∀ x : Str, Ct Tryz.prog fp [str x, .pointer (some ⟨kb, 0, none⟩)] [bk kb 9 [str key]] (fun _ => True) (fun v A' => v = .bool (p x) ∧ A' = [bk kb 9 [str key]])) (a : Option Addr) (c : Nat) (s : List Str) (hn : s.length ≤ 1000000000000) :
    Ct Tryz.prog 296 [.slice a s.length c, .func (.func fp) #[] #[.pointer (some ⟨kb, 0, none⟩)]] [bk kb 9 [str key]] (fun w_ => Sees w_ (.slice a s.length c) 1 s.length (s.map str) ∧ (∀ b, (Value.slice a s.length c).ownBlock = some b → b ≠ kb)) (fun v A' => v = .int .i64 (idxI p s) ∧ A' = [bk kb 9 [str key]]) := by
  refine Ct.intro Tryz.func296 rfl Tryz.ntmps296 (Nat.le_of_ble_eq_true rfl) fun w0 hpre => ?_
  have hs_a : Sees w0 _ _ _ _ := hpre.1
  refine JC.seq ?_
  refine JC.region ?_
  refine JL.pure rfl (PO.assign (v := .int .i64 0) rfl) ?_
  refine JL.nil ?_
  refine JQ.seq ?_
  refine JC.seq ?_
  refine JC.seq ?_
  refine JC.region ?_
  refine JL.pure rfl (PO.move (v := .slice a s.length c) rfl) ?_
  refine JL.pure rfl (PO.lenV Tryz.underlying23 rfl) ?_
  refine JL.pure rfl (PO.move (v := .int .i64 0) rfl) ?_
  refine JL.nil ?_
  refine JQ.seq ?_
  refine JC.block ?_
  refine JC.loop (fun k_ e_ L_ => ∃ j : Nat, (j ≤ s.length) ∧ (∀ i, i < j → p (s.getD i []) = false) ∧ e_ 0 = .slice a s.length c ∧ e_ 1 = .func (.func fp) #[] #[.pointer (some ⟨kb, 0, none⟩)] ∧ e_ 7 = .int .i64 ((s.length : Nat) : Int) ∧ e_ 8 = .int .i64 ((j : Nat) : Int) ∧ L_ = [bk kb 9 [str key]] ∧ k_ = s.length - j) _ ⟨0, by omega, (fun i hi => absurd hi (Nat.not_lt_zero i)), rfl, rfl, rfl, rfl, rfl, rfl⟩ ?_
  rintro _ e_1 _ ⟨j, hj, hN, he_2, he_3, he_4, he_5, rfl, rfl⟩
  refine JC.seq ?_
  refine JC.region ?_
  refine JL.pure rfl (PO.lss he_5 he_4) ?_
  refine JL.nil ?_
  refine JQ.seq ?_
  refine JC.seq ?_
  by_cases h_6 : ((j : Nat) : Int) < ((s.length : Nat) : Int)
  · skip
    have hlt : j < s.length := by omega
    refine JC.condT (congrArg Value.bool (decide_eq_true h_6)) ?_
    refine JC.skip ?_
    refine JQ.seq ?_
    refine JC.seq ?_
    refine JC.block ?_
    refine JC.seq ?_
    refine JC.region ?_
    refine JL.pure rfl (PO.move (v := .int .i64 ((j : Nat) : Int)) he_5) ?_
    refine JL.pure rfl (PO.assign (v := .int .i64 ((j : Nat) : Int)) rfl) ?_
    refine JL.nil ?_
    refine JQ.seq ?_
    refine JC.seq ?_
    refine JC.region ?_
    refine JL.pure rfl (PO.move (v := .func (.func fp) #[] #[.pointer (some ⟨kb, 0, none⟩)]) he_3) ?_
    refine JL.pure rfl (PO.move (v := .slice a s.length c) he_2) ?_
    refine JL.pure rfl (PO.move (v := .int .i64 ((j : Nat) : Int)) rfl) ?_
    obtain ⟨hr_7, hr_7b, -⟩ := sees_some hs_a (by omega)
    refine JL.pure rfl (PO.indexAddrV (i := j) Tryz.underlying23 Tryz.sizeOf9 hr_7 hr_7b rfl rfl (by omega)) ?_
    refine JL.ld rfl (LO.loadS1 (v := str (s.getD j [])) hs_a (notin_bk hpre.2) rfl Tryz.isAgg9 (atS (by omega))) ?_
    refine JL.op rfl (JO.callV [0] hcf rfl (hp (s.getD j [])) rfl rfl (fun _ _ => trivial)) ?_
    rintro _ _ ⟨_, ⟨rfl, rfl⟩, rfl⟩
    refine JL.nil ?_
    refine JQ.seq ?_
    rcases Bool.eq_false_or_eq_true (p (s.getD j [])) with h_8 | h_8
    · skip
      have hpj := h_8
      refine JC.condT (congrArg Value.bool h_8) ?_
      refine JC.seq ?_
      refine JC.region ?_
      refine JL.pure rfl (PO.move (v := .int .i64 ((j : Nat) : Int)) rfl) ?_
      refine JL.pure rfl (PO.assign (v := .int .i64 ((j : Nat) : Int)) rfl) ?_
      refine JL.nil ?_
      refine JQ.seq ?_
      refine JC.ret ?_
      refine JQ.blockRet ?_
      refine JQ.thenRet ?_
      refine JQ.thenRet ?_
      refine JQ.blockRet ?_
      refine JQ.thenRet ?_
      refine Done.one (.inl rfl) rfl (RV.tmp (v := .int .i64 ((j : Nat) : Int)) rfl) (List.Sublist.refl _) ?_
      refine ⟨?_, rfl⟩
      rw [idxI_found [] hlt hN hpj]
    · skip
      have hpj := h_8
      refine JC.condF (congrArg Value.bool h_8) ?_
      refine JC.skip ?_
      refine JQ.blockN ?_
      refine JQ.seq ?_
      refine JC.region ?_
      refine JL.pure rfl (PO.add (c := ((j + 1 : Nat) : Int)) he_5 rfl (wr (by omega))) ?_
      refine JL.pure rfl (PO.move (v := .int .i64 ((j + 1 : Nat) : Int)) rfl) ?_
      refine JL.nil ?_
      refine JQ.again (s.length - (j + 1)) (by omega) ⟨j + 1, by omega, (fun i hi => if h : i = j then h ▸ hpj else hN i (by omega)), he_2, he_3, he_4, rfl, rfl, rfl⟩
  · skip
    refine JC.condF (congrArg Value.bool (decide_eq_false h_6)) ?_
    refine JC.exit ?_
    refine JQ.thenExit ?_
    refine JQ.thenExit ?_
    refine JQ.blockE ?_
    refine JQ.seq ?_
    refine JC.seq ?_
    refine JC.region ?_
    refine JL.pure rfl (PO.assign (v := .int .i64 (-1)) rfl) ?_
    refine JL.nil ?_
    refine JQ.seq ?_
    refine JC.ret ?_
    refine Done.one (.inl rfl) rfl (RV.tmp (v := .int .i64 (-1)) rfl) (List.Sublist.refl _) ?_
    refine ⟨?_, rfl⟩
    rw [idxI_none [] (by omega) hN]

theorem C_insS (a va : Option Addr) (c : Nat) (s : List Str) (i : Nat) (x : Str) (hi : i ≤ s.length) (hn : s.length ≤ 1000000000000) (hcl : (s.map str).length = s.length * 1) :
    Ct Tryz.prog 298 [.slice a s.length c, .int .i64 ((i : Nat) : Int), .slice va 1 1] [Res.row (.slice a s.length c) 9 1 s.length (s.map str), Res.row (.slice va 1 1) 9 1 1 ([x].map str)] (fun _ => True) (fun v A' => ∃ a' c', v = .slice a' (insertAt i x s).length c' ∧ A' = [.row (.slice a' (insertAt i x s).length c') 9 1 (insertAt i x s).length ((insertAt i x s).map str)]) := by
  refine Ct.intro Tryz.func298 rfl Tryz.ntmps298 (Nat.le_of_ble_eq_true rfl) fun w0 hpre => ?_
  refine JC.seq ?_
  refine JC.region ?_
  refine JL.pure rfl (PO.assign (v := .slice none 0 0) rfl) ?_
  refine JL.nil ?_
  refine JQ.seq ?_
  refine JC.seq ?_
  refine JC.region ?_
  refine JL.pure rfl (PO.move (v := .slice a s.length c) rfl) ?_
  refine JL.pure rfl (PO.move (v := .int .i64 ((i : Nat) : Int)) rfl) ?_
  refine JL.facts fun hst => ?_
  obtain ⟨hf_1m, hf_1x, hf_1s, hf_1l⟩ := fits_of hst (i := 0) rfl
  refine JL.pure rfl (PO.sliceVl (i := i) Tryz.underlying23 Tryz.sizeOf9 hf_1s rfl rfl (by omega)) ?_
  refine JL.nil ?_
  refine JQ.seq ?_
  refine JC.seq ?_
  refine JC.region ?_
  refine JL.pure rfl (PO.move (v := .slice va 1 1) rfl) ?_
  refine JL.pure rfl (PO.lenV Tryz.underlying23 rfl) ?_
  refine JL.pure rfl (PO.assign (v := .int .i64 ((1 : Nat) : Int)) rfl) ?_
  refine JL.nil ?_
  refine JQ.seq ?_
  refine JC.seq ?_
  refine JC.seq ?_
  refine JC.region ?_
  refine JL.pure rfl (PO.move (v := .int .i64 ((1 : Nat) : Int)) rfl) ?_
  refine JL.pure rfl (PO.eqlI rfl rfl) ?_
  refine JL.nil ?_
  refine JQ.seq ?_
  by_cases h_2 : ((1 : Nat) : Int) = 0
  · skip
    exfalso; omega
  · skip
    refine JC.condF (congrArg Value.bool (decide_eq_false h_2)) ?_
    refine JC.skip ?_
    refine JQ.seq ?_
    refine JC.seq ?_
    refine JC.region ?_
    refine JL.pure rfl (PO.move (v := .slice a s.length c) rfl) ?_
    refine JL.pure rfl (PO.lenV Tryz.underlying23 rfl) ?_
    refine JL.pure rfl (PO.assign (v := .int .i64 ((s.length : Nat) : Int)) rfl) ?_
    refine JL.nil ?_
    refine JQ.seq ?_
    refine JC.seq ?_
    refine JC.seq ?_
    refine JC.region ?_
    refine JL.pure rfl (PO.move (v := .int .i64 ((i : Nat) : Int)) rfl) ?_
    refine JL.pure rfl (PO.move (v := .int .i64 ((s.length : Nat) : Int)) rfl) ?_
    refine JL.pure rfl (PO.eqlI rfl rfl) ?_
    refine JL.nil ?_
    refine JQ.seq ?_
    by_cases h_3 : ((i : Nat) : Int) = ((s.length : Nat) : Int)
    · skip
      refine JC.condT (congrArg Value.bool (decide_eq_true h_3)) ?_
      refine JC.seq ?_
      refine JC.region ?_
      refine JL.pure rfl (PO.move (v := .slice a s.length c) rfl) ?_
      refine JL.pure rfl (PO.move (v := .slice va 1 1) rfl) ?_
      refine JL.op rfl (JO.append' 0 (q := 1) (news := [x].map str) (n' := (s ++ [x]).length) (cs' := (s ++ [x]).map str) rfl Tryz.underlying23 Tryz.underlying23 Tryz.typeInfo9 rfl (by' := 16) rfl rfl rfl rfl rfl (fun w hw => Src.sees (hw.see (i := 1) rfl) (oneS _)) (by (try simp only [List.length_append, List.length_cons, List.length_nil, List.length_take, List.length_drop]); omega) (by (try simp only [List.length_append, List.length_cons, List.length_nil, List.length_take, List.length_drop]); omega) (by simp only [List.length_append, List.length_take, List.length_drop, List.length_cons, List.length_nil] <;> first | rfl | omega) (by simp only [List.map_append])) ?_
      rintro _ _ ⟨a_4, c_5, rfl, rfl⟩
      refine JL.pure rfl (PO.assign (v := .slice a_4 ((s ++ [x]).length) c_5) rfl) ?_
      refine JL.nil ?_
      refine JQ.seq ?_
      refine JC.ret ?_
      refine JQ.thenRet ?_
      refine Done.one (.inl rfl) rfl (RV.tmp (v := .slice a_4 ((s ++ [x]).length) c_5) rfl) (List.sublist_append_left [Res.row (.slice a_4 ((s ++ [x]).length) c_5) 9 1 ((s ++ [x]).length) ((s ++ [x]).map str)] [Res.row (.slice va 1 1) 9 1 1 ([x].map str)]) ?_
      have hin : i = s.length := by omega
      exact ⟨_, _, by rw [ins_end hin], by rw [ins_end hin]⟩
    · skip
      refine JC.condF (congrArg Value.bool (decide_eq_false h_3)) ?_
      refine JC.skip ?_
      refine JQ.seq ?_
      refine JC.seq ?_
      refine JC.seq ?_
      refine JC.region ?_
      refine JL.pure rfl (PO.move (v := .int .i64 ((s.length : Nat) : Int)) rfl) ?_
      refine JL.pure rfl (PO.move (v := .int .i64 ((1 : Nat) : Int)) rfl) ?_
      refine JL.pure rfl (PO.add (c := ((s.length + 1 : Nat) : Int)) rfl rfl (wr (by omega))) ?_
      refine JL.pure rfl (PO.move (v := .slice a s.length c) rfl) ?_
      refine JL.pure rfl (PO.capV Tryz.underlying23 rfl) ?_
      refine JL.pure rfl (PO.gtr rfl rfl) ?_
      refine JL.nil ?_
      refine JQ.seq ?_
      by_cases h_6 : ((c : Nat) : Int) < ((s.length + 1 : Nat) : Int)
      · skip
        refine JC.condT (congrArg Value.bool (decide_eq_true h_6)) ?_
        refine JC.seq ?_
        refine JC.region ?_
        refine JL.pure rfl (PO.move (v := .slice a s.length c) rfl) ?_
        refine JL.pure rfl (PO.move (v := .int .i64 ((i : Nat) : Int)) rfl) ?_
        refine JL.pure rfl (PO.sliceVh (j := i) Tryz.underlying23 Tryz.sizeOf9 hf_1s rfl rfl (by omega)) ?_
        refine JL.pure rfl (PO.move (v := .int .i64 ((s.length : Nat) : Int)) rfl) ?_
        refine JL.pure rfl (PO.move (v := .int .i64 ((1 : Nat) : Int)) rfl) ?_
        refine JL.pure rfl (PO.add (c := ((s.length + 1 : Nat) : Int)) rfl rfl (wr (by omega))) ?_
        refine JL.pure rfl (PO.move (v := .int .i64 ((i : Nat) : Int)) rfl) ?_
        refine JL.pure rfl (PO.sub (c := ((s.length + 1 - i : Nat) : Int)) rfl rfl (wr (by omega))) ?_
        refine JL.op rfl (JO.appendMake' 0 (i := i) (r := s.length + 1 - i) (by' := 16) (n' := s.length + 1) rfl Tryz.underlying23 Tryz.underlying3 Tryz.typeInfo9 rfl (by decide) rfl rfl rfl rfl rfl (by omega) (by omega) (by omega) (by omega) (by decide) (by omega)) ?_
        rintro _ _ ⟨a_7, c_8, zs_9, rfl, hzs_9c, hzs_9, rfl⟩
        refine JL.pure rfl (PO.assign (v := .slice a_7 (s.length + 1) c_8) rfl) ?_
        refine JL.nil ?_
        refine JQ.seq ?_
        refine JC.seq ?_
        refine JC.region ?_
        refine JL.pure rfl (PO.move (v := .slice a_7 (s.length + 1) c_8) rfl) ?_
        refine JL.pure rfl (PO.move (v := .int .i64 ((i : Nat) : Int)) rfl) ?_
        refine JL.facts fun hst => ?_
        obtain ⟨hf_10m, hf_10x, hf_10s, hf_10l⟩ := fits_of hst (i := 0) rfl
        refine JL.pure rfl (PO.sliceVl (i := i) Tryz.underlying23 Tryz.sizeOf9 hf_10s rfl rfl (by omega)) ?_
        refine JL.pure rfl (PO.move (v := .slice va 1 1) rfl) ?_
        refine JL.op rfl (JO.copy 0 (k := 1) (lo := i) (q := 1) (news := [str x]) (cs' := ((s.map str).take (i * 1) ++ zs_9).take (i * 1) ++ [str x] ++ ((s.map str).take (i * 1) ++ zs_9).drop (i * 1 + [str x].length)) rfl Tryz.underlying23 Tryz.sizeOf9 rfl rfl (by show min _ _ = _; omega) (by omega) (by omega) (by decide) (by omega) (fun w hw => Fst.sees (hw.see (i := 2) rfl) (Nat.le_refl _)) rfl (oneS [x]) (rfl)) ?_
        rintro _ _ rfl
        refine JL.nil ?_
        refine JQ.seq ?_
        refine JC.seq ?_
        refine JC.regionA [] 0 mixed (by simp) ?_
        refine JA.takeP 0 rfl (by kernel_rfl) (NP.th (NP.th NP.body)) (by kernel_rfl) (by kernel_rfl) rfl (PO.move (v := .slice a_7 (s.length + 1) c_8) rfl) ?_
        refine JA.takeP 1 rfl (by kernel_rfl) (NP.th (NP.th NP.body)) (by kernel_rfl) (by kernel_rfl) rfl (PO.move (v := .int .i64 ((i : Nat) : Int)) rfl) ?_
        refine JA.takeP 2 rfl (by kernel_rfl) (NP.th (NP.th NP.body)) (by kernel_rfl) (by kernel_rfl) rfl (PO.move (v := .int .i64 ((1 : Nat) : Int)) rfl) ?_
        refine JA.takeP 3 rfl (by kernel_rfl) (NP.th (NP.th NP.body)) (by kernel_rfl) (by kernel_rfl) rfl (PO.add (c := ((i + 1 : Nat) : Int)) rfl rfl (wr (by omega))) ?_
        refine JA.takeP 4 rfl (by kernel_rfl) (NP.th (NP.th NP.body)) (by kernel_rfl) (by kernel_rfl) rfl (PO.sliceVl (i := (i + 1)) Tryz.underlying23 Tryz.sizeOf9 hf_10s rfl rfl (by omega)) ?_
        refine JA.takeP 5 rfl (by kernel_rfl) (NP.th (NP.th NP.body)) (by kernel_rfl) (by kernel_rfl) rfl (PO.move (v := .slice a s.length c) rfl) ?_
        refine JA.takeP 6 rfl (by kernel_rfl) (NP.th (NP.th NP.body)) (by kernel_rfl) (by kernel_rfl) rfl (PO.move (v := .int .i64 ((i : Nat) : Int)) rfl) ?_
        refine JA.takeP 7 rfl (by kernel_rfl) (NP.th (NP.th NP.body)) (by kernel_rfl) (by kernel_rfl) rfl (PO.sliceVl (i := i) Tryz.underlying23 Tryz.sizeOf9 hf_1s rfl rfl (by omega)) ?_
        refine JA.one (i := 8) (by kernel_rfl) ?_
        refine JX.last rfl rfl (by decide) (by kernel_rfl) (JO.copy 0 (k := 1) (lo := (i + 1)) (q := s.length - i) (news := (s.map str).drop (i * 1)) (cs' := (insertAt i x s).map str) rfl Tryz.underlying23 Tryz.sizeOf9 rfl rfl (by show min _ _ = _; omega) (by omega) (by omega) (by decide) (by omega) (fun w hw => Fst.mid (hw.see (i := 1) rfl) (by omega) (by omega) (tail1 hcl)) (by rw [List.length_drop, hcl]; omega) (fun u hu => oneS s u (List.mem_of_mem_drop hu)) ((by rw [show (i + 1) * 1 = i * 1 + 1 by omega]; exact (ins_grow (k := 1) (by rw [hcl]; omega) (by rw [hcl]; omega) rfl).trans insS))) ?_
        rintro _ _ rfl
        refine JQ.seq ?_
        refine JC.seq ?_
        refine JC.region ?_
        refine JL.pure rfl (PO.move (v := .slice a_7 (s.length + 1) c_8) rfl) ?_
        refine JL.pure rfl (PO.assign (v := .slice a_7 (s.length + 1) c_8) rfl) ?_
        refine JL.nil ?_
        refine JQ.seq ?_
        refine JC.ret ?_
        refine JQ.thenRet ?_
        refine Done.one (.inl rfl) rfl (RV.tmp (v := .slice a_7 (s.length + 1) c_8) rfl) (List.sublist_append_left [Res.row (.slice a_7 (s.length + 1) c_8) 9 1 (s.length + 1) ((insertAt i x s).map str)] [Res.row (.slice a s.length c) 9 1 s.length (s.map str), Res.row (.slice va 1 1) 9 1 1 ([x].map str)]) ?_
        exact ⟨_, _, by rw [insertAt_length i x s hi], by rw [insertAt_length i x s hi]⟩
      · skip
        refine JC.condF (congrArg Value.bool (decide_eq_false h_6)) ?_
        refine JC.skip ?_
        refine JQ.seq ?_
        refine JC.seq ?_
        refine JC.region ?_
        refine JL.pure rfl (PO.move (v := .slice a s.length c) rfl) ?_
        refine JL.pure rfl (PO.move (v := .int .i64 ((s.length : Nat) : Int)) rfl) ?_
        refine JL.pure rfl (PO.move (v := .int .i64 ((1 : Nat) : Int)) rfl) ?_
        refine JL.pure rfl (PO.add (c := ((s.length + 1 : Nat) : Int)) rfl rfl (wr (by omega))) ?_
        refine JL.pure rfl (PO.sliceVh (j := (s.length + 1)) Tryz.underlying23 Tryz.sizeOf9 hf_1s rfl rfl (by omega)) ?_
        refine JL.pure rfl (PO.assign (v := .slice a (s.length + 1) c) rfl) ?_
        refine JL.nil ?_
        refine JQ.seq ?_
        refine JC.seq ?_
        refine JC.seq ?_
        refine JC.widen 0 1 (m := s.length) rfl (by omega) fun zs_11 hzs_11 => ?_
        refine JC.region ?_
        refine JL.pure rfl (PO.move (v := .slice va 1 1) rfl) ?_
        refine JL.pure rfl (PO.move (v := .slice a (s.length + 1) c) rfl) ?_
        refine JL.pure rfl (PO.move (v := .int .i64 ((i : Nat) : Int)) rfl) ?_
        refine JL.pure rfl (PO.move (v := .int .i64 ((1 : Nat) : Int)) rfl) ?_
        refine JL.pure rfl (PO.add (c := ((i + 1 : Nat) : Int)) rfl rfl (wr (by omega))) ?_
        refine JL.pure rfl (PO.sliceVl (i := (i + 1)) Tryz.underlying23 Tryz.sizeOf9 hf_1s rfl rfl (by omega)) ?_
        refine JL.op rfl (JO.overlaps 1 0 (by decide) (k := 1) (lo := i + 1) rfl rfl (run_ov (tS := 23) (tR := 4) Tryz.func317 (by kernel_rfl) (by kernel_rfl) (by kernel_rfl) (by kernel_rfl)) Tryz.underlying23 Tryz.sizeOf9 rfl rfl (by decide) (by omega) (by decide) (by decide)) ?_
        rintro _ _ ⟨rfl, rfl⟩
        refine JL.pure rfl (PO.not rfl) ?_
        refine JL.nil ?_
        refine JQ.seq ?_
        refine JC.condT (congrArg Value.bool rfl) ?_
        refine JC.seq ?_
        refine JC.regionA [] 0 mixed (by simp) ?_
        refine JA.takeP 0 rfl (by kernel_rfl) (NP.th (NP.th NP.body)) (by kernel_rfl) (by kernel_rfl) rfl (PO.move (v := .slice a (s.length + 1) c) rfl) ?_
        refine JA.takeP 1 rfl (by kernel_rfl) (NP.th (NP.th NP.body)) (by kernel_rfl) (by kernel_rfl) rfl (PO.move (v := .int .i64 ((i : Nat) : Int)) rfl) ?_
        refine JA.takeP 2 rfl (by kernel_rfl) (NP.th (NP.th NP.body)) (by kernel_rfl) (by kernel_rfl) rfl (PO.move (v := .int .i64 ((1 : Nat) : Int)) rfl) ?_
        refine JA.takeP 3 rfl (by kernel_rfl) (NP.th (NP.th NP.body)) (by kernel_rfl) (by kernel_rfl) rfl (PO.add (c := ((i + 1 : Nat) : Int)) rfl rfl (wr (by omega))) ?_
        refine JA.takeP 4 rfl (by kernel_rfl) (NP.th (NP.th NP.body)) (by kernel_rfl) (by kernel_rfl) rfl (PO.sliceVl (i := (i + 1)) Tryz.underlying23 Tryz.sizeOf9 hf_1s rfl rfl (by omega)) ?_
        refine JA.takeP 5 rfl (by kernel_rfl) (NP.th (NP.th NP.body)) (by kernel_rfl) (by kernel_rfl) rfl (PO.move (v := .slice a (s.length + 1) c) rfl) ?_
        refine JA.takeP 6 rfl (by kernel_rfl) (NP.th (NP.th NP.body)) (by kernel_rfl) (by kernel_rfl) rfl (PO.move (v := .int .i64 ((i : Nat) : Int)) rfl) ?_
        refine JA.takeP 7 rfl (by kernel_rfl) (NP.th (NP.th NP.body)) (by kernel_rfl) (by kernel_rfl) rfl (PO.sliceVl (i := i) Tryz.underlying23 Tryz.sizeOf9 hf_1s rfl rfl (by omega)) ?_
        refine JA.one (i := 8) (by kernel_rfl) ?_
        refine JX.last rfl rfl (by decide) (by kernel_rfl) (JO.copy 0 (k := 1) (lo := (i + 1)) (q := s.length - i) (news := (s.map str).drop (i * 1)) (cs' := ((s.map str ++ zs_11)).take (i * 1 + 1) ++ (s.map str).drop (i * 1) ++ ((s.map str ++ zs_11)).drop (i * 1 + 1 + ((s.map str).drop (i * 1)).length)) rfl Tryz.underlying23 Tryz.sizeOf9 rfl rfl (by show min _ _ = _; omega) (by omega) (by omega) (by decide) (by omega) (fun w hw => Fst.mid (hw.see (i := 0) rfl) (by omega) (by omega) (tail2 hcl hi)) (by rw [List.length_drop, hcl]; omega) (fun u hu => oneS s u (List.mem_of_mem_drop hu)) ((by rw [show (i + 1) * 1 = i * 1 + 1 by omega]))) ?_
        rintro _ _ rfl
        refine JQ.seq ?_
        refine JC.seq ?_
        refine JC.region ?_
        refine JL.pure rfl (PO.move (v := .slice a (s.length + 1) c) rfl) ?_
        refine JL.pure rfl (PO.move (v := .int .i64 ((i : Nat) : Int)) rfl) ?_
        refine JL.pure rfl (PO.sliceVl (i := i) Tryz.underlying23 Tryz.sizeOf9 hf_1s rfl rfl (by omega)) ?_
        refine JL.pure rfl (PO.move (v := .slice va 1 1) rfl) ?_
        refine JL.op rfl (JO.copy 0 (k := 1) (lo := i) (q := 1) (news := [str x]) (cs' := (insertAt i x s).map str) rfl Tryz.underlying23 Tryz.sizeOf9 rfl rfl (by show min _ _ = _; omega) (by omega) (by omega) (by decide) (by omega) (fun w hw => Fst.sees (hw.see (i := 1) rfl) (Nat.le_refl _)) rfl (oneS [x]) ((ins_room (k := 1) (by rw [hcl]; omega) (by omega) rfl).trans insS)) ?_
        rintro _ _ rfl
        refine JL.nil ?_
        refine JQ.seq ?_
        refine JC.seq ?_
        refine JC.region ?_
        refine JL.pure rfl (PO.move (v := .slice a (s.length + 1) c) rfl) ?_
        refine JL.pure rfl (PO.assign (v := .slice a (s.length + 1) c) rfl) ?_
        refine JL.nil ?_
        refine JQ.seq ?_
        refine JC.ret ?_
        refine JQ.thenRet ?_
        refine Done.one (.inl rfl) rfl (RV.tmp (v := .slice a (s.length + 1) c) rfl) (List.sublist_append_left [Res.row (.slice a (s.length + 1) c) 9 1 (s.length + 1) ((insertAt i x s).map str)] [Res.row (.slice va 1 1) 9 1 1 ([x].map str)]) ?_
        exact ⟨_, _, by rw [insertAt_length i x s hi], by rw [insertAt_length i x s hi]⟩

end Go.Proofs.YtenfajgpdhgknaaGreatDoor
