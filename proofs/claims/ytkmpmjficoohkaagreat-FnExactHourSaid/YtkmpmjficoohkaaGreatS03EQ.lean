/-
  The laws' own measures and copies (part 3): strings, comparisons.
-/
import Derived.Test.YtkmpmjficoohkaaGreatS02TO
set_option linter.unusedSimpArgs false
set_option linter.unusedVariables false
set_option linter.unnecessarySimpa false
namespace Go.Proofs.YtkmpmjficoohkaaGreat
open Go Go.RowKit
attribute [local irreducible] JL JC JQ JO LO PO JA JX Ct

theorem take_succ_eq {α : Type} {s t : List α} {j : Nat} (d : α) (h : s.take j = t.take j) (hj : j < s.length) (hl : s.length = t.length) (he : s.getD j d = t.getD j d) : s.take (j + 1) = t.take (j + 1) := by
  rw [List.take_add_one, List.take_add_one, h]
  congr 1
  have h1 : s[j]? = some (s.getD j d) := getD_some hj
  have h2 : t[j]? = some (t.getD j d) := getD_some (by omega)
  rw [h1, h2, he]
theorem take_all_eq {α : Type} {s t : List α} {j : Nat} (h : s.take j = t.take j) (hj : s.length ≤ j) (hl : s.length = t.length) : s = t := by
  rw [List.take_of_length_le hj, List.take_of_length_le (by omega)] at h
  exact h
theorem cell_eq {a b : Cell} (h : (decide (a.1 = b.1) && decide (a.2 = b.2)) = true) : a = b := by
  simp only [Bool.and_eq_true, decide_eq_true_eq] at h
  exact Prod.ext h.1 h.2
theorem cell_ne {a b : Cell} (h : (decide (a.1 = b.1) && decide (a.2 = b.2)) = false) : a ≠ b := by
  intro e; subst e; simp at h

theorem C_szStringS (a : Option Addr) (c : Nat) (s : List Str) (l : Int) (h0 : 0 ≤ l) (h1 : l ≤ 1048576) (hn : s.length ≤ 9223372036854775807) (hsz : ∀ j, j < s.length → (s.getD j []).length ≤ 9223372036854775807) :
    Ct Tryz.prog 31 [.slice a s.length c, .int .i64 l] [] (fun w => Sees w (.slice a s.length c) 1 s.length (s.map str)) (fun r A' => r = .int .i64 (szStringS s l) ∧ A' = []) := by
  refine Ct.intro Tryz.func31 rfl Tryz.ntmps31 (Nat.le_of_ble_eq_true rfl) fun w0 hpre => ?_
  have hs_a : Sees w0 _ _ _ _ := hpre
  refine JC.seq ?_
  refine JC.region ?_
  refine JL.pure rfl (PO.assign (v := .int .i64 0) rfl) ?_
  refine JL.nil ?_
  refine JQ.seq ?_
  refine JC.seq ?_
  refine JC.region ?_
  refine JL.pure rfl (PO.move (v := .int .i64 l) rfl) ?_
  refine JL.pure rfl (PO.move (v := .slice a s.length c) rfl) ?_
  refine JL.pure rfl (PO.lenV Tryz.underlying30 rfl) ?_
  refine JL.pure rfl (PO.sub (c := l - ((s.length : Nat) : Int)) rfl rfl (wr (by omega))) ?_
  refine JL.pure rfl (PO.assign (v := .int .i64 (l - ((s.length : Nat) : Int))) rfl) ?_
  refine JL.nil ?_
  refine JQ.seq ?_
  refine JC.seq ?_
  refine JC.seq ?_
  refine JC.region ?_
  refine JL.pure rfl (PO.move (v := .int .i64 (l - ((s.length : Nat) : Int))) rfl) ?_
  refine JL.pure rfl (PO.lss rfl rfl) ?_
  refine JL.nil ?_
  refine JQ.seq ?_
  by_cases h_1 : (l - ((s.length : Nat) : Int)) < 0
  · skip
    refine JC.condT (congrArg Value.bool (decide_eq_true h_1)) ?_
    refine JC.seq ?_
    refine JC.region ?_
    refine JL.pure rfl (PO.assign (v := .int .i64 (-1)) rfl) ?_
    refine JL.nil ?_
    refine JQ.seq ?_
    refine JC.ret ?_
    refine JQ.thenRet ?_
    refine Done.one (.inl rfl) rfl (RV.tmp (v := .int .i64 (-1)) rfl) (List.nil_sublist _) ?_
    refine ⟨?_, rfl⟩
    rw [szStringS, if_pos (by omega)]
  · skip
    refine JC.condF (congrArg Value.bool (decide_eq_false h_1)) ?_
    refine JC.skip ?_
    refine JQ.seq ?_
    refine JC.seq ?_
    refine JC.seq ?_
    refine JC.region ?_
    refine JL.pure rfl (PO.assign (v := .int .i64 0) rfl) ?_
    refine JL.nil ?_
    refine JQ.seq ?_
    refine JC.block ?_
    refine JC.loop (fun k_ e_ L_ => ∃ j : Nat, ∃ l1 : Int, (j ≤ s.length) ∧ (0 ≤ l1) ∧ (l1 ≤ 1048576) ∧ (szStrs (s.drop j) l1 = szStringS s l) ∧ e_ 0 = .slice a s.length c ∧ e_ 1 = .int .i64 l1 ∧ e_ 5 = .int .i64 ((j : Nat) : Int) ∧ L_ = [] ∧ k_ = s.length - j) _ ⟨0, (l - (s.length : Int)), by omega, by omega, by omega, (by rw [szStringS, if_neg (by omega)]; rfl), rfl, rfl, rfl, rfl, rfl⟩ ?_
    rintro _ e_2 _ ⟨j, l1, hj, hl, hl2, hR, he_3, he_4, he_5, rfl, rfl⟩
    refine JC.seq ?_
    refine JC.seq ?_
    refine JC.region ?_
    refine JL.pure rfl (PO.move (v := .int .i64 ((j : Nat) : Int)) he_5) ?_
    refine JL.pure rfl (PO.move (v := .slice a s.length c) he_3) ?_
    refine JL.pure rfl (PO.lenV Tryz.underlying30 rfl) ?_
    refine JL.pure rfl (PO.lss rfl rfl) ?_
    refine JL.nil ?_
    refine JQ.seq ?_
    by_cases h_6 : ((j : Nat) : Int) < ((s.length : Nat) : Int)
    · skip
      have hlt : j < s.length := by omega
      refine JC.condT (congrArg Value.bool (decide_eq_true h_6)) ?_
      refine JC.skip ?_
      refine JQ.seq ?_
      refine JC.seq ?_
      refine JC.block ?_
      refine JC.seq ?_
      refine JC.region ?_
      refine JL.pure rfl (PO.move (v := .int .i64 l1) he_4) ?_
      refine JL.pure rfl (PO.move (v := .slice a s.length c) he_3) ?_
      refine JL.pure rfl (PO.move (v := .int .i64 ((j : Nat) : Int)) he_5) ?_
      obtain ⟨hr_7, hr_7b, -⟩ := sees_some hs_a (by omega)
      refine JL.pure rfl (PO.indexAddrV (i := j) Tryz.underlying30 Tryz.sizeOf9 hr_7 hr_7b rfl rfl (by omega)) ?_
      have hszj := hsz j hlt
      refine JL.ld rfl (LO.loadS1 (v := str (s.getD j [])) hs_a (fun _ _ => List.not_mem_nil) rfl Tryz.isAgg9 (atS (by omega))) ?_
      refine JL.pure rfl (PO.lenS Tryz.underlying9 rfl) ?_
      refine JL.pure rfl (PO.sub (c := l1 - ((s.getD j []).length : Int)) rfl rfl (wr (by omega))) ?_
      refine JL.pure rfl (PO.assign (v := .int .i64 (l1 - ((s.getD j []).length : Int))) rfl) ?_
      refine JL.nil ?_
      refine JQ.seq ?_
      refine JC.seq ?_
      refine JC.region ?_
      refine JL.pure rfl (PO.move (v := .int .i64 (l1 - ((s.getD j []).length : Int))) rfl) ?_
      refine JL.pure rfl (PO.lss rfl rfl) ?_
      refine JL.nil ?_
      refine JQ.seq ?_
      by_cases h_8 : (l1 - ((s.getD j []).length : Int)) < 0
      · skip
        have hneg := h_8
        refine JC.condT (congrArg Value.bool (decide_eq_true h_8)) ?_
        refine JC.seq ?_
        refine JC.region ?_
        refine JL.pure rfl (PO.assign (v := .int .i64 (-1)) rfl) ?_
        refine JL.nil ?_
        refine JQ.seq ?_
        refine JC.ret ?_
        refine JQ.blockRet ?_
        refine JQ.thenRet ?_
        refine JQ.thenRet ?_
        refine JQ.blockRet ?_
        refine JQ.thenRet ?_
        refine Done.one (.inl rfl) rfl (RV.tmp (v := .int .i64 (-1)) rfl) (List.nil_sublist _) ?_
        refine ⟨?_, rfl⟩
        rw [szStrs_step hlt, if_pos hneg] at hR
        rw [← hR]
      · skip
        have hneg := h_8
        refine JC.condF (congrArg Value.bool (decide_eq_false h_8)) ?_
        refine JC.skip ?_
        refine JQ.blockN ?_
        refine JQ.seq ?_
        refine JC.region ?_
        refine JL.pure rfl (PO.move (v := .int .i64 ((j : Nat) : Int)) he_5) ?_
        refine JL.pure rfl (PO.add (c := ((j + 1 : Nat) : Int)) rfl rfl (wr (by omega))) ?_
        refine JL.pure rfl (PO.assign (v := .int .i64 ((j + 1 : Nat) : Int)) rfl) ?_
        refine JL.nil ?_
        refine JQ.again (s.length - (j + 1)) (by omega) ⟨j + 1, l1 - ((s.getD j []).length : Int), by omega, by omega, by omega, (by rw [szStrs_step hlt, if_neg hneg] at hR; exact hR), he_3, rfl, rfl, rfl, rfl⟩
    · skip
      refine JC.condF (congrArg Value.bool (decide_eq_false h_6)) ?_
      refine JC.exit ?_
      refine JQ.thenExit ?_
      refine JQ.thenExit ?_
      refine JQ.blockE ?_
      refine JQ.seq ?_
      refine JC.seq ?_
      refine JC.region ?_
      refine JL.pure rfl (PO.move (v := .int .i64 l1) he_4) ?_
      refine JL.pure rfl (PO.assign (v := .int .i64 l1) rfl) ?_
      refine JL.nil ?_
      refine JQ.seq ?_
      refine JC.ret ?_
      refine Done.one (.inl rfl) rfl (RV.tmp (v := .int .i64 l1) rfl) (List.nil_sublist _) ?_
      refine ⟨?_, rfl⟩
      rw [List.drop_of_length_le (by omega)] at hR
      rw [← hR]
      rfl

theorem C_toStringS (a : Option Addr) (c : Nat) (s : List Str) (hn : s.length ≤ 1048576) :
    Ct Tryz.prog 37 [.slice a s.length c] [] (fun w => Sees w (.slice a s.length c) 1 s.length (s.map str)) (fun r A' => ∃ a' c', r = .slice a' s.length c' ∧ A' = [.row (.slice a' s.length c') 9 1 s.length (s.map str)]) := by
  refine Ct.intro Tryz.func37 rfl Tryz.ntmps37 (Nat.le_of_ble_eq_true rfl) fun w0 hpre => ?_
  have hs_a : Sees w0 _ _ _ _ := hpre
  refine JC.seq ?_
  refine JC.region ?_
  refine JL.pure rfl (PO.assign (v := .slice none 0 0) rfl) ?_
  refine JL.nil ?_
  refine JQ.seq ?_
  refine JC.seq ?_
  refine JC.region ?_
  refine JL.pure rfl (PO.move (v := .slice a s.length c) rfl) ?_
  refine JL.pure rfl (PO.lenV Tryz.underlying30 rfl) ?_
  refine JL.op rfl (JO.makeSlice (z := str []) (zc := [str []]) (m := s.length) Tryz.underlying30 Tryz.typeInfo9 rfl rfl rfl rfl rfl (by unfold maxLen; omega) (by show 16 * _ ≤ _; omega)) ?_
  rintro _ _ ⟨a_1, rfl, rfl⟩
  refine JL.pure rfl (PO.assign (v := .slice a_1 s.length s.length) rfl) ?_
  refine JL.nil ?_
  refine JQ.seq ?_
  refine JC.seq ?_
  refine JC.seq ?_
  refine JC.region ?_
  refine JL.pure rfl (PO.assign (v := .int .i64 0) rfl) ?_
  refine JL.nil ?_
  refine JQ.seq ?_
  refine JC.block ?_
  refine JC.loop (fun k_ e_ L_ => ∃ j : Nat, (j ≤ s.length) ∧ e_ 0 = .slice a s.length c ∧ e_ 2 = .slice none 0 0 ∧ e_ 3 = .slice a_1 s.length s.length ∧ e_ 4 = .int .i64 ((j : Nat) : Int) ∧ L_ = [Res.row (.slice a_1 s.length s.length) 9 1 s.length ((s.take j ++ List.replicate (s.length - j) []).map str)] ∧ k_ = s.length - j) _ ⟨0, by omega, rfl, rfl, rfl, rfl, (by rw [replS]; rfl), rfl⟩ ?_
  rintro _ e_2 _ ⟨j, hj, he_3, he_4, he_5, he_6, rfl, rfl⟩
  refine JC.seq ?_
  refine JC.seq ?_
  refine JC.region ?_
  refine JL.pure rfl (PO.move (v := .int .i64 ((j : Nat) : Int)) he_6) ?_
  refine JL.pure rfl (PO.move (v := .slice a s.length c) he_3) ?_
  refine JL.pure rfl (PO.lenV Tryz.underlying30 rfl) ?_
  refine JL.pure rfl (PO.lss rfl rfl) ?_
  refine JL.nil ?_
  refine JQ.seq ?_
  by_cases h_7 : ((j : Nat) : Int) < ((s.length : Nat) : Int)
  · skip
    have hlt : j < s.length := by omega
    refine JC.condT (congrArg Value.bool (decide_eq_true h_7)) ?_
    refine JC.skip ?_
    refine JQ.seq ?_
    refine JC.seq ?_
    refine JC.block ?_
    refine JC.region ?_
    refine JL.pure rfl (PO.move (v := .slice a_1 s.length s.length) he_5) ?_
    refine JL.pure rfl (PO.move (v := .int .i64 ((j : Nat) : Int)) he_6) ?_
    refine JL.pure rfl (PO.move (v := .slice a s.length c) he_3) ?_
    refine JL.pure rfl (PO.move (v := .int .i64 ((j : Nat) : Int)) he_6) ?_
    obtain ⟨hr_8, hr_8b, -⟩ := sees_some hs_a (by omega)
    refine JL.pure rfl (PO.indexAddrV (i := j) Tryz.underlying30 Tryz.sizeOf9 hr_8 hr_8b rfl rfl (by omega)) ?_
    refine JL.ld rfl (LO.loadS1 (v := str (s.getD j [])) hs_a (fun _ _ => List.not_mem_nil) rfl Tryz.isAgg9 (atS (by omega))) ?_
    refine JL.facts fun hst => ?_
    obtain ⟨hr_9, hr_9b, -⟩ := row_some 0 rfl (by omega) hst
    refine JL.pure rfl (PO.indexAddrV (i := j) Tryz.underlying30 Tryz.sizeOf9 hr_9 hr_9b rfl rfl (by omega)) ?_
    refine JL.op rfl (JO.storeR 0 (vs := [str (s.getD j [])]) (cs' := ((s.take j ++ List.replicate (s.length - j) []).set j (s.getD j [])).map str) rfl rfl rfl rfl Tryz.sizeOf9 rfl rfl (by decide) (by rw [List.length_map]; rw [fill_len [] hj]; omega) (setS (by rw [fill_len [] hj]; omega))) ?_
    rintro _ _ rfl
    refine JL.nil ?_
    refine JQ.blockN ?_
    refine JQ.seq ?_
    refine JC.region ?_
    refine JL.pure rfl (PO.move (v := .int .i64 ((j : Nat) : Int)) he_6) ?_
    refine JL.pure rfl (PO.add (c := ((j + 1 : Nat) : Int)) rfl rfl (wr (by omega))) ?_
    refine JL.pure rfl (PO.assign (v := .int .i64 ((j + 1 : Nat) : Int)) rfl) ?_
    refine JL.nil ?_
    refine JQ.again (s.length - (j + 1)) (by omega) ⟨j + 1, by omega, he_3, he_4, he_5, rfl, (by rw [← fill_step [] hlt]; rfl), rfl⟩
  · skip
    refine JC.condF (congrArg Value.bool (decide_eq_false h_7)) ?_
    refine JC.exit ?_
    refine JQ.thenExit ?_
    refine JQ.thenExit ?_
    refine JQ.blockE ?_
    refine JQ.seq ?_
    refine JC.seq ?_
    refine JC.region ?_
    refine JL.pure rfl (PO.move (v := .slice a_1 s.length s.length) he_5) ?_
    refine JL.pure rfl (PO.assign (v := .slice a_1 s.length s.length) rfl) ?_
    refine JL.nil ?_
    refine JQ.seq ?_
    refine JC.ret ?_
    refine Done.one (.inl rfl) rfl (RV.tmp (v := .slice a_1 s.length s.length) rfl) (List.Sublist.refl _) ?_
    exact ⟨_, _, rfl, by rw [fill_done [] (by omega)]⟩

theorem C_eqCellS (a b : Option Addr) (c c' : Nat) (s t : List Cell) (hn : s.length ≤ 9223372036854775807) :
    Ct Tryz.prog 39 [.slice a s.length c, .slice b t.length c'] [] (fun w => Sees w (.slice a s.length c) 2 s.length (s.flatMap encC) ∧ Sees w (.slice b t.length c') 2 t.length (t.flatMap encC)) (fun r A' => r = .bool (decide (s = t)) ∧ A' = []) := by
  refine Ct.intro Tryz.func39 rfl Tryz.ntmps39 (Nat.le_of_ble_eq_true rfl) fun w0 hpre => ?_
  have hs_a : Sees w0 _ _ _ _ := hpre.1
  have hs_b : Sees w0 _ _ _ _ := hpre.2
  refine JC.seq ?_
  refine JC.region ?_
  refine JL.pure rfl (PO.assign (v := .bool false) rfl) ?_
  refine JL.nil ?_
  refine JQ.seq ?_
  refine JC.seq ?_
  refine JC.seq ?_
  refine JC.region ?_
  refine JL.pure rfl (PO.move (v := .slice a s.length c) rfl) ?_
  refine JL.pure rfl (PO.lenV Tryz.underlying34 rfl) ?_
  refine JL.pure rfl (PO.move (v := .slice b t.length c') rfl) ?_
  refine JL.pure rfl (PO.lenV Tryz.underlying34 rfl) ?_
  refine JL.pure rfl (PO.neqI rfl rfl) ?_
  refine JL.nil ?_
  refine JQ.seq ?_
  by_cases h_1 : ((s.length : Nat) : Int) = ((t.length : Nat) : Int)
  · skip
    have hlen := h_1
    refine JC.condF (congrArg Value.bool (congrArg Bool.not (decide_eq_true h_1))) ?_
    refine JC.skip ?_
    refine JQ.seq ?_
    refine JC.seq ?_
    refine JC.seq ?_
    refine JC.region ?_
    refine JL.pure rfl (PO.assign (v := .int .i64 0) rfl) ?_
    refine JL.nil ?_
    refine JQ.seq ?_
    refine JC.block ?_
    refine JC.loop (fun k_ e_ L_ => ∃ j : Nat, (j ≤ s.length) ∧ (s.take j = t.take j) ∧ (s.length = t.length) ∧ e_ 0 = .slice a s.length c ∧ e_ 1 = .slice b t.length c' ∧ e_ 5 = .int .i64 ((j : Nat) : Int) ∧ L_ = [] ∧ k_ = s.length - j) _ ⟨0, by omega, rfl, by omega, rfl, rfl, rfl, rfl, rfl⟩ ?_
    rintro _ e_2 _ ⟨j, hj, hE, hln, he_3, he_4, he_5, rfl, rfl⟩
    refine JC.seq ?_
    refine JC.seq ?_
    refine JC.region ?_
    refine JL.pure rfl (PO.move (v := .int .i64 ((j : Nat) : Int)) he_5) ?_
    refine JL.pure rfl (PO.move (v := .slice a s.length c) he_3) ?_
    refine JL.pure rfl (PO.lenV Tryz.underlying34 rfl) ?_
    refine JL.pure rfl (PO.lss rfl rfl) ?_
    refine JL.nil ?_
    refine JQ.seq ?_
    by_cases h_6 : ((j : Nat) : Int) < ((s.length : Nat) : Int)
    · skip
      have hlt : j < s.length := by omega
      refine JC.condT (congrArg Value.bool (decide_eq_true h_6)) ?_
      refine JC.skip ?_
      refine JQ.seq ?_
      refine JC.seq ?_
      refine JC.block ?_
      refine JC.seq ?_
      refine JC.regionA [] 1000 mixed (by simp) ?_
      refine JA.takeP 0 rfl (by kernel_rfl) (NP.th (NP.bl (NP.th (NP.th (NP.bl (NP.th NP.body)))))) (by kernel_rfl) (by kernel_rfl) rfl (PO.move (v := .slice a s.length c) he_3) ?_
      refine JA.takeP 1 rfl (by kernel_rfl) (NP.th (NP.bl (NP.th (NP.th (NP.bl (NP.th NP.body)))))) (by kernel_rfl) (by kernel_rfl) rfl (PO.move (v := .int .i64 ((j : Nat) : Int)) he_5) ?_
      obtain ⟨hr_7, hr_7b, -⟩ := sees_some hs_a (by omega)
      refine JA.takeP 2 rfl (by kernel_rfl) (NP.th (NP.bl (NP.th (NP.th (NP.bl (NP.th NP.body)))))) (by kernel_rfl) (by kernel_rfl) rfl (PO.indexAddrV (i := j) Tryz.underlying34 Tryz.sizeOf131 hr_7 hr_7b rfl rfl (by omega)) ?_
      refine JA.take 3 rfl (by kernel_rfl) (NP.th (NP.bl (NP.th (NP.th (NP.bl (NP.th NP.body)))))) (by kernel_rfl) (by kernel_rfl) (by kernel_rfl) rfl (LO.loadSK (vs := [str ((s.getD j c0).1), str ((s.getD j c0).2)]) hs_a (fun _ _ => List.not_mem_nil) rfl Tryz.isAgg131 Tryz.sizeOf131 (atC (by omega)) rfl (by decide)) ?_
      refine JA.takeP 4 rfl (by kernel_rfl) (NP.th (NP.bl (NP.th (NP.th (NP.bl (NP.th NP.body)))))) (by kernel_rfl) (by kernel_rfl) rfl (PO.move (v := .slice b t.length c') he_4) ?_
      refine JA.takeP 5 rfl (by kernel_rfl) (NP.th (NP.bl (NP.th (NP.th (NP.bl (NP.th NP.body)))))) (by kernel_rfl) (by kernel_rfl) rfl (PO.move (v := .int .i64 ((j : Nat) : Int)) he_5) ?_
      obtain ⟨hr_8, hr_8b, -⟩ := sees_some hs_b (by omega)
      refine JA.takeP 6 rfl (by kernel_rfl) (NP.th (NP.bl (NP.th (NP.th (NP.bl (NP.th NP.body)))))) (by kernel_rfl) (by kernel_rfl) rfl (PO.indexAddrV (i := j) Tryz.underlying34 Tryz.sizeOf131 hr_8 hr_8b rfl rfl (by omega)) ?_
      refine JA.take 7 rfl (by kernel_rfl) (NP.th (NP.bl (NP.th (NP.th (NP.bl (NP.th NP.body)))))) (by kernel_rfl) (by kernel_rfl) (by kernel_rfl) rfl (LO.loadSK (vs := [str ((t.getD j c0).1), str ((t.getD j c0).2)]) hs_b (fun _ _ => List.not_mem_nil) rfl Tryz.isAgg131 Tryz.sizeOf131 (atC (by omega)) rfl (by decide)) ?_
      refine JA.one (i := 8) (by kernel_rfl) ?_
      refine JX.op rfl rfl (JO.call [] Tryz.call98 rfl (C_eqCell ((s.getD j c0).1) ((s.getD j c0).2) ((t.getD j c0).1) ((t.getD j c0).2)) rfl (fun _ _ => trivial)) ?_
      rintro _ _ ⟨_, ⟨rfl, rfl⟩, rfl⟩
      refine ⟨(fun _ h => by cases h), ?_⟩
      refine JA.takeP 9 rfl (by kernel_rfl) (NP.th (NP.bl (NP.th (NP.th (NP.bl (NP.th NP.body)))))) (by kernel_rfl) (by kernel_rfl) rfl (PO.not rfl) ?_
      refine JA.done (by kernel_rfl) ?_
      refine JQ.seq ?_
      rcases Bool.eq_false_or_eq_true (decide (((s.getD j c0).1) = ((t.getD j c0).1)) && decide (((s.getD j c0).2) = ((t.getD j c0).2))) with h_9 | h_9
      · skip
        have h_9d := h_9
        simp only [Bool.and_eq_true, Bool.and_eq_false_iff, decide_eq_true_eq, decide_eq_false_iff_not] at h_9d
        have heq := cell_eq h_9
        refine JC.condF (congrArg Value.bool (congrArg Bool.not h_9)) ?_
        refine JC.skip ?_
        refine JQ.blockN ?_
        refine JQ.seq ?_
        refine JC.region ?_
        refine JL.pure rfl (PO.move (v := .int .i64 ((j : Nat) : Int)) he_5) ?_
        refine JL.pure rfl (PO.add (c := ((j + 1 : Nat) : Int)) rfl rfl (wr (by omega))) ?_
        refine JL.pure rfl (PO.assign (v := .int .i64 ((j + 1 : Nat) : Int)) rfl) ?_
        refine JL.nil ?_
        refine JQ.again (s.length - (j + 1)) (by omega) ⟨j + 1, by omega, take_succ_eq c0 hE hlt hln heq, hln, he_3, he_4, rfl, rfl, rfl⟩
      · skip
        have h_9d := h_9
        simp only [Bool.and_eq_true, Bool.and_eq_false_iff, decide_eq_true_eq, decide_eq_false_iff_not] at h_9d
        have hne := cell_ne h_9
        refine JC.condT (congrArg Value.bool (congrArg Bool.not h_9)) ?_
        refine JC.seq ?_
        refine JC.region ?_
        refine JL.pure rfl (PO.assign (v := .bool false) rfl) ?_
        refine JL.nil ?_
        refine JQ.seq ?_
        refine JC.ret ?_
        refine JQ.blockRet ?_
        refine JQ.thenRet ?_
        refine JQ.thenRet ?_
        refine JQ.blockRet ?_
        refine JQ.thenRet ?_
        refine Done.one (.inl rfl) rfl (RV.tmp (v := .bool false) rfl) (List.nil_sublist _) ?_
        refine ⟨?_, rfl⟩
        rw [decide_eq_false (fun h => hne (by rw [h]))]
    · skip
      refine JC.condF (congrArg Value.bool (decide_eq_false h_6)) ?_
      refine JC.exit ?_
      refine JQ.thenExit ?_
      refine JQ.thenExit ?_
      refine JQ.blockE ?_
      refine JQ.seq ?_
      refine JC.seq ?_
      refine JC.region ?_
      refine JL.pure rfl (PO.assign (v := .bool true) rfl) ?_
      refine JL.nil ?_
      refine JQ.seq ?_
      refine JC.ret ?_
      refine Done.one (.inl rfl) rfl (RV.tmp (v := .bool true) rfl) (List.nil_sublist _) ?_
      refine ⟨?_, rfl⟩
      rw [decide_eq_true (take_all_eq hE (by omega) (by omega))]
  · skip
    have hlen := h_1
    refine JC.condT (congrArg Value.bool (congrArg Bool.not (decide_eq_false h_1))) ?_
    refine JC.seq ?_
    refine JC.region ?_
    refine JL.pure rfl (PO.assign (v := .bool false) rfl) ?_
    refine JL.nil ?_
    refine JQ.seq ?_
    refine JC.ret ?_
    refine JQ.thenRet ?_
    refine Done.one (.inl rfl) rfl (RV.tmp (v := .bool false) rfl) (List.nil_sublist _) ?_
    refine ⟨?_, rfl⟩
    rw [decide_eq_false (fun h => by rw [h] at hlen; omega)]

theorem C_eqStringS (a b : Option Addr) (c c' : Nat) (s t : List Str) (hn : s.length ≤ 9223372036854775807) :
    Ct Tryz.prog 43 [.slice a s.length c, .slice b t.length c'] [] (fun w => Sees w (.slice a s.length c) 1 s.length (s.map str) ∧ Sees w (.slice b t.length c') 1 t.length (t.map str)) (fun r A' => r = .bool (decide (s = t)) ∧ A' = []) := by
  refine Ct.intro Tryz.func43 rfl Tryz.ntmps43 (Nat.le_of_ble_eq_true rfl) fun w0 hpre => ?_
  have hs_a : Sees w0 _ _ _ _ := hpre.1
  have hs_b : Sees w0 _ _ _ _ := hpre.2
  refine JC.seq ?_
  refine JC.region ?_
  refine JL.pure rfl (PO.assign (v := .bool false) rfl) ?_
  refine JL.nil ?_
  refine JQ.seq ?_
  refine JC.seq ?_
  refine JC.seq ?_
  refine JC.region ?_
  refine JL.pure rfl (PO.move (v := .slice a s.length c) rfl) ?_
  refine JL.pure rfl (PO.lenV Tryz.underlying30 rfl) ?_
  refine JL.pure rfl (PO.move (v := .slice b t.length c') rfl) ?_
  refine JL.pure rfl (PO.lenV Tryz.underlying30 rfl) ?_
  refine JL.pure rfl (PO.neqI rfl rfl) ?_
  refine JL.nil ?_
  refine JQ.seq ?_
  by_cases h_1 : ((s.length : Nat) : Int) = ((t.length : Nat) : Int)
  · skip
    have hlen := h_1
    refine JC.condF (congrArg Value.bool (congrArg Bool.not (decide_eq_true h_1))) ?_
    refine JC.skip ?_
    refine JQ.seq ?_
    refine JC.seq ?_
    refine JC.seq ?_
    refine JC.region ?_
    refine JL.pure rfl (PO.assign (v := .int .i64 0) rfl) ?_
    refine JL.nil ?_
    refine JQ.seq ?_
    refine JC.block ?_
    refine JC.loop (fun k_ e_ L_ => ∃ j : Nat, (j ≤ s.length) ∧ (s.take j = t.take j) ∧ (s.length = t.length) ∧ e_ 0 = .slice a s.length c ∧ e_ 1 = .slice b t.length c' ∧ e_ 5 = .int .i64 ((j : Nat) : Int) ∧ L_ = [] ∧ k_ = s.length - j) _ ⟨0, by omega, rfl, by omega, rfl, rfl, rfl, rfl, rfl⟩ ?_
    rintro _ e_2 _ ⟨j, hj, hE, hln, he_3, he_4, he_5, rfl, rfl⟩
    refine JC.seq ?_
    refine JC.seq ?_
    refine JC.region ?_
    refine JL.pure rfl (PO.move (v := .int .i64 ((j : Nat) : Int)) he_5) ?_
    refine JL.pure rfl (PO.move (v := .slice a s.length c) he_3) ?_
    refine JL.pure rfl (PO.lenV Tryz.underlying30 rfl) ?_
    refine JL.pure rfl (PO.lss rfl rfl) ?_
    refine JL.nil ?_
    refine JQ.seq ?_
    by_cases h_6 : ((j : Nat) : Int) < ((s.length : Nat) : Int)
    · skip
      have hlt : j < s.length := by omega
      refine JC.condT (congrArg Value.bool (decide_eq_true h_6)) ?_
      refine JC.skip ?_
      refine JQ.seq ?_
      refine JC.seq ?_
      refine JC.block ?_
      refine JC.seq ?_
      refine JC.regionA [] 8 mixed (by simp) ?_
      refine JA.takeP 0 rfl (by kernel_rfl) (NP.th (NP.bl (NP.th (NP.th (NP.bl (NP.th NP.body)))))) (by kernel_rfl) (by kernel_rfl) rfl (PO.move (v := .slice a s.length c) he_3) ?_
      refine JA.takeP 1 rfl (by kernel_rfl) (NP.th (NP.bl (NP.th (NP.th (NP.bl (NP.th NP.body)))))) (by kernel_rfl) (by kernel_rfl) rfl (PO.move (v := .int .i64 ((j : Nat) : Int)) he_5) ?_
      obtain ⟨hr_7, hr_7b, -⟩ := sees_some hs_a (by omega)
      refine JA.takeP 2 rfl (by kernel_rfl) (NP.th (NP.bl (NP.th (NP.th (NP.bl (NP.th NP.body)))))) (by kernel_rfl) (by kernel_rfl) rfl (PO.indexAddrV (i := j) Tryz.underlying30 Tryz.sizeOf9 hr_7 hr_7b rfl rfl (by omega)) ?_
      refine JA.take 3 rfl (by kernel_rfl) (NP.th (NP.bl (NP.th (NP.th (NP.bl (NP.th NP.body)))))) (by kernel_rfl) (by kernel_rfl) (by kernel_rfl) rfl (LO.loadS1 (v := str (s.getD j [])) hs_a (fun _ _ => List.not_mem_nil) rfl Tryz.isAgg9 (atS (by omega))) ?_
      refine JA.takeP 4 rfl (by kernel_rfl) (NP.th (NP.bl (NP.th (NP.th (NP.bl (NP.th NP.body)))))) (by kernel_rfl) (by kernel_rfl) rfl (PO.move (v := .slice b t.length c') he_4) ?_
      refine JA.takeP 5 rfl (by kernel_rfl) (NP.th (NP.bl (NP.th (NP.th (NP.bl (NP.th NP.body)))))) (by kernel_rfl) (by kernel_rfl) rfl (PO.move (v := .int .i64 ((j : Nat) : Int)) he_5) ?_
      obtain ⟨hr_8, hr_8b, -⟩ := sees_some hs_b (by omega)
      refine JA.takeP 6 rfl (by kernel_rfl) (NP.th (NP.bl (NP.th (NP.th (NP.bl (NP.th NP.body)))))) (by kernel_rfl) (by kernel_rfl) rfl (PO.indexAddrV (i := j) Tryz.underlying30 Tryz.sizeOf9 hr_8 hr_8b rfl rfl (by omega)) ?_
      refine JA.take 7 rfl (by kernel_rfl) (NP.th (NP.bl (NP.th (NP.th (NP.bl (NP.th NP.body)))))) (by kernel_rfl) (by kernel_rfl) (by kernel_rfl) rfl (LO.loadS1 (v := str (t.getD j [])) hs_b (fun _ _ => List.not_mem_nil) rfl Tryz.isAgg9 (atS (by omega))) ?_
      refine JA.takeP 8 rfl (by kernel_rfl) (NP.th (NP.bl (NP.th (NP.th (NP.bl (NP.th NP.body)))))) (by kernel_rfl) (by kernel_rfl) rfl (PO.neqS rfl rfl) ?_
      refine JA.done (by kernel_rfl) ?_
      refine JQ.seq ?_
      by_cases h_9 : (s.getD j []) = (t.getD j [])
      · skip
        have heq := h_9
        refine JC.condF (congrArg Value.bool (congrArg Bool.not (decide_eq_true h_9))) ?_
        refine JC.skip ?_
        refine JQ.blockN ?_
        refine JQ.seq ?_
        refine JC.region ?_
        refine JL.pure rfl (PO.move (v := .int .i64 ((j : Nat) : Int)) he_5) ?_
        refine JL.pure rfl (PO.add (c := ((j + 1 : Nat) : Int)) rfl rfl (wr (by omega))) ?_
        refine JL.pure rfl (PO.assign (v := .int .i64 ((j + 1 : Nat) : Int)) rfl) ?_
        refine JL.nil ?_
        refine JQ.again (s.length - (j + 1)) (by omega) ⟨j + 1, by omega, take_succ_eq [] hE hlt hln heq, hln, he_3, he_4, rfl, rfl, rfl⟩
      · skip
        have hne := h_9
        refine JC.condT (congrArg Value.bool (congrArg Bool.not (decide_eq_false h_9))) ?_
        refine JC.seq ?_
        refine JC.region ?_
        refine JL.pure rfl (PO.assign (v := .bool false) rfl) ?_
        refine JL.nil ?_
        refine JQ.seq ?_
        refine JC.ret ?_
        refine JQ.blockRet ?_
        refine JQ.thenRet ?_
        refine JQ.thenRet ?_
        refine JQ.blockRet ?_
        refine JQ.thenRet ?_
        refine Done.one (.inl rfl) rfl (RV.tmp (v := .bool false) rfl) (List.nil_sublist _) ?_
        refine ⟨?_, rfl⟩
        rw [decide_eq_false (fun h => hne (by rw [h]))]
    · skip
      refine JC.condF (congrArg Value.bool (decide_eq_false h_6)) ?_
      refine JC.exit ?_
      refine JQ.thenExit ?_
      refine JQ.thenExit ?_
      refine JQ.blockE ?_
      refine JQ.seq ?_
      refine JC.seq ?_
      refine JC.region ?_
      refine JL.pure rfl (PO.assign (v := .bool true) rfl) ?_
      refine JL.nil ?_
      refine JQ.seq ?_
      refine JC.ret ?_
      refine Done.one (.inl rfl) rfl (RV.tmp (v := .bool true) rfl) (List.nil_sublist _) ?_
      refine ⟨?_, rfl⟩
      rw [decide_eq_true (take_all_eq hE (by omega) (by omega))]
  · skip
    have hlen := h_1
    refine JC.condT (congrArg Value.bool (congrArg Bool.not (decide_eq_false h_1))) ?_
    refine JC.seq ?_
    refine JC.region ?_
    refine JL.pure rfl (PO.assign (v := .bool false) rfl) ?_
    refine JL.nil ?_
    refine JQ.seq ?_
    refine JC.ret ?_
    refine JQ.thenRet ?_
    refine Done.one (.inl rfl) rfl (RV.tmp (v := .bool false) rfl) (List.nil_sublist _) ?_
    refine ⟨?_, rfl⟩
    rw [decide_eq_false (fun h => by rw [h] at hlen; omega)]

end Go.Proofs.YtkmpmjficoohkaaGreat
