/-
  Names, clocks, pages (part 17).
-/
import Derived.Test.YtdjecfpmjjjplaaGreatDoorS14MACH
set_option linter.unusedSimpArgs false
set_option linter.unusedVariables false
set_option linter.unnecessarySimpa false
namespace Go.Proofs.YtdjecfpmjjjplaaGreatDoor
open Go Go.RowKit
attribute [local irreducible] JL JC JQ JO LO PO JA JX Ct

theorem N_tick (p : Nat) (x : MA) (m : MS) {S T : Nat} (hk : m.ok S T) (hS : S ≤ 4000000) (hT : T ≤ 4000000) (n : Int) (hn : -9223372036854775808 ≤ n ∧ n ≤ 9223372036854775807) :
    Ct Tryz.prog 72 [.pointer (some ⟨p, 0, none⟩), .int .i64 n] (mb p x m :: mr x m) (fun _ => True) (fun v A' => ∃ x' m' r0 r1, MS.tick m n = (m', r0, r1) ∧ m'.ok (3 * S + 3) (T + 7 * S + 10) ∧ (0 ≤ r0 ∧ r0 ≤ 1000000000) ∧ (0 ≤ r1 ∧ r1 ≤ 9) ∧ v = .tuple #[.int .i64 r0, .int .i64 r1] ∧ A' = mb p x' m' :: mr x' m') := by
  refine Ct.intro Tryz.func72 rfl Tryz.ntmps72 (Nat.le_of_ble_eq_true rfl) fun w0 hpre => ?_
  refine JC.seq ?_
  refine JC.region ?_
  refine JL.pure rfl (PO.assign (v := .int .i64 0) rfl) ?_
  refine JL.pure rfl (PO.assign (v := .int .i64 0) rfl) ?_
  refine JL.nil ?_
  refine JQ.seq ?_
  refine JC.seq ?_
  refine JC.seq ?_
  refine JC.region ?_
  refine JL.pure rfl (PO.move (v := .int .i64 n) rfl) ?_
  refine JL.pure rfl (PO.lss rfl rfl) ?_
  refine JL.nil ?_
  refine JQ.seq ?_
  by_cases h_1 : n < 1
  · skip
    refine JC.condT (congrArg Value.bool (decide_eq_true h_1)) ?_
    refine JC.seq ?_
    refine JC.region ?_
    refine JL.pure rfl (PO.assign (v := .int .i64 0) rfl) ?_
    refine JL.pure rfl (PO.assign (v := .int .i64 4) rfl) ?_
    refine JL.nil ?_
    refine JQ.seq ?_
    refine JC.ret ?_
    refine JQ.thenRet ?_
    refine Done.two (.inl rfl) rfl (RV.tmp (v := .int .i64 0) rfl) (RV.tmp (v := .int .i64 4) rfl) (List.Sublist.refl _) ?_
    exact ⟨x, m, 0, 4, (by simp only [MS.tick, h_1, if_true, if_false, Bool.false_eq_true, Bool.not_true, Bool.not_false]; (repeat (first | rw [if_pos (by omega)] | rw [if_neg (by omega)])); all_goals (first | rfl | simp only [if_true, if_false, Bool.false_eq_true, Bool.not_true, Bool.not_false, h_1])), (hk.mono (by omega) (by omega)), (by first | omega | (simp only [List.length_append, List.length_cons, List.length_nil, List.length_take, List.length_drop]; omega)), (by first | omega | (simp only [List.length_append, List.length_cons, List.length_nil, List.length_take, List.length_drop]; omega)), rfl, rfl⟩
  · skip
    refine JC.condF (congrArg Value.bool (decide_eq_false h_1)) ?_
    refine JC.skip ?_
    refine JQ.seq ?_
    refine JC.seq ?_
    refine JC.region ?_
    refine JL.pure rfl (PO.move (v := .pointer (some ⟨p, 0, none⟩)) rfl) ?_
    refine JL.op rfl (JO.call [0, 0, 0, 0] Tryz.call87 rfl (N_num p x m hk (by omega) (by omega) [99, 47, 99, 108, 111, 99, 107]) rfl (fun _ _ => trivial)) ?_
    rintro _ _ ⟨_, ⟨x_4, m_5, n_6, e_2, k_3, f_7, rfl, rfl⟩, rfl⟩
    refine JL.pure rfl (PO.assign (v := .int .i64 n_6) rfl) ?_
    refine JL.nil ?_
    refine JQ.seq ?_
    refine JC.seq ?_
    refine JC.seq ?_
    refine JC.region ?_
    refine JL.pure rfl (PO.move (v := .int .i64 n) rfl) ?_
    refine JL.pure rfl (PO.move (v := .int .i64 n_6) rfl) ?_
    refine JL.pure rfl (PO.sub (c := 999 - n_6) rfl rfl (wr (by omega))) ?_
    refine JL.pure rfl (PO.gtr rfl rfl) ?_
    refine JL.nil ?_
    refine JQ.seq ?_
    by_cases h_8 : (999 - n_6) < n
    · skip
      refine JC.condT (congrArg Value.bool (decide_eq_true h_8)) ?_
      refine JC.seq ?_
      refine JC.region ?_
      refine JL.pure rfl (PO.assign (v := .int .i64 0) rfl) ?_
      refine JL.pure rfl (PO.assign (v := .int .i64 3) rfl) ?_
      refine JL.nil ?_
      refine JQ.seq ?_
      refine JC.ret ?_
      refine JQ.thenRet ?_
      refine Done.two (.inl rfl) rfl (RV.tmp (v := .int .i64 0) rfl) (RV.tmp (v := .int .i64 3) rfl) (List.Sublist.refl _) ?_
      exact ⟨x_4, m_5, 0, 3, (by simp only [MS.tick, h_1, e_2, h_8, if_true, if_false, Bool.false_eq_true, Bool.not_true, Bool.not_false]; (repeat (first | rw [if_pos (by omega)] | rw [if_neg (by omega)])); all_goals (first | rfl | simp only [if_true, if_false, Bool.false_eq_true, Bool.not_true, Bool.not_false, h_1, e_2, h_8])), (k_3.mono (by omega) (by omega)), (by first | omega | (simp only [List.length_append, List.length_cons, List.length_nil, List.length_take, List.length_drop]; omega)), (by first | omega | (simp only [List.length_append, List.length_cons, List.length_nil, List.length_take, List.length_drop]; omega)), rfl, rfl⟩
    · skip
      refine JC.condF (congrArg Value.bool (decide_eq_false h_8)) ?_
      refine JC.skip ?_
      refine JQ.seq ?_
      refine JC.seq ?_
      refine JC.region ?_
      refine JL.pure rfl (PO.move (v := .int .i64 n_6) rfl) ?_
      refine JL.pure rfl (PO.move (v := .int .i64 n) rfl) ?_
      refine JL.pure rfl (PO.add (c := n_6 + n) rfl rfl (wr (by omega))) ?_
      refine JL.pure rfl (PO.assign (v := .int .i64 (n_6 + n)) rfl) ?_
      refine JL.nil ?_
      refine JQ.seq ?_
      refine JC.seq ?_
      refine JC.region ?_
      refine JL.pure rfl (PO.move (v := .pointer (some ⟨p, 0, none⟩)) rfl) ?_
      refine JL.pure rfl (PO.move (v := .int .i64 (n_6 + n)) rfl) ?_
      refine JL.op rfl (JO.call [0, 0, 0, 0] Tryz.call91 rfl (N_setNum p x_4 m_5 k_3 (by omega) (by omega) [99, 47, 99, 108, 111, 99, 107] (n_6 + n) (by decide) (by omega)) rfl (fun _ _ => trivial)) ?_
      rintro _ _ ⟨_, ⟨x_11, m_12, e_9, k_10, rfl, rfl⟩, rfl⟩
      refine JL.nil ?_
      refine JQ.seq ?_
      refine JC.seq ?_
      refine JC.region ?_
      refine JL.pure rfl (PO.assign (v := .int .i64 0) rfl) ?_
      refine JL.nil ?_
      refine JQ.seq ?_
      refine JC.seq ?_
      refine JC.seq ?_
      refine JC.region ?_
      refine JL.pure rfl (PO.move (v := .pointer (some ⟨p, 0, none⟩)) rfl) ?_
      refine JL.op rfl (JO.call [0, 0, 0, 0] Tryz.call118 rfl (N_under p x_11 m_12 k_10 (by omega) (by omega) [116, 47] (by decide)) rfl (fun _ _ => trivial)) ?_
      rintro _ _ ⟨_, ⟨x_15, m_16, l_17a, l_17c, l_17, e_13, k_14, f_18, rfl, rfl⟩, rfl⟩
      refine JL.pure rfl (PO.lenV Tryz.underlying23 rfl) ?_
      refine JL.pure rfl (PO.move (v := .int .i64 0) rfl) ?_
      refine JL.nil ?_
      refine JQ.seq ?_
      refine JC.block ?_
      have hll := f_18.1
      refine JC.loop (fun k_ e_ L_ => ∃ j : Nat, ∃ x : MA, ∃ mm : MS, ∃ expired_ : Int, (j ≤ l_17.length) ∧ (mm.ok ((S + 1) + 2 * j) (((T + 1) + 1) + 1 + 7 * j)) ∧ (0 ≤ expired_ ∧ expired_ ≤ ((j : Nat) : Int)) ∧ (MS.tickL (n_6 + n) (l_17.drop j) mm expired_ = MS.tickL (n_6 + n) l_17 m_16 0) ∧ e_ 0 = .pointer (some ⟨p, 0, none⟩) ∧ e_ 4 = .int .i64 0 ∧ e_ 5 = .int .i64 0 ∧ e_ 6 = .int .i64 (n_6 + n) ∧ e_ 7 = .int .i64 expired_ ∧ e_ 25 = .slice l_17a l_17.length l_17c ∧ e_ 26 = .int .i64 ((l_17.length : Nat) : Int) ∧ e_ 27 = .int .i64 ((j : Nat) : Int) ∧ L_ = [mb p x mm, rC x.a0 x.c0 mm.s, rS x.a1 x.c1 mm.r, rS x.a2 x.c2 mm.w, rS l_17a l_17c l_17] ∧ k_ = l_17.length - j) _ ⟨0, x_15, m_16, 0, by omega, (k_14.mono (by omega) (by omega)), (by first | omega | (simp only [List.length_append, List.length_cons, List.length_nil, List.length_take, List.length_drop]; omega)), rfl, rfl, rfl, rfl, rfl, rfl, rfl, rfl, rfl, rfl, rfl⟩ ?_
      rintro _ e_19 _ ⟨j, x, mm, expired_, hj, hkmm, hx, hR, he_20, he_21, he_22, he_23, he_24, he_25, he_26, he_27, rfl, rfl⟩
      refine JC.seq ?_
      refine JC.region ?_
      refine JL.pure rfl (PO.lss he_27 he_26) ?_
      refine JL.nil ?_
      refine JQ.seq ?_
      refine JC.seq ?_
      by_cases h_28 : ((j : Nat) : Int) < ((l_17.length : Nat) : Int)
      · skip
        have hlt : j < l_17.length := by omega
        have hbj := f_18.2 j hlt
        try simp only [List.length_cons, List.length_nil] at hbj
        refine JC.condT (congrArg Value.bool (decide_eq_true h_28)) ?_
        refine JC.skip ?_
        refine JQ.seq ?_
        refine JC.seq ?_
        refine JC.block ?_
        refine JC.seq ?_
        refine JC.region ?_
        refine JL.facts fun hst => ?_
        obtain ⟨hr_29, hr_29b, -⟩ := row_some 4 rfl (by omega) hst
        refine JL.pure rfl (PO.indexAddrV (i := j) Tryz.underlying23 Tryz.sizeOf9 hr_29 hr_29b he_25 he_27 (by omega)) ?_
        refine JL.ld rfl (LO.loadR1 4 (v := str (l_17.getD j [])) rfl rfl Tryz.isAgg9 (atS (by omega))) ?_
        refine JL.pure rfl (PO.assign (v := str (l_17.getD j [])) rfl) ?_
        refine JL.nil ?_
        refine JQ.seq ?_
        refine JC.seq ?_
        refine JC.seq ?_
        refine JC.region ?_
        refine JL.pure rfl (PO.move (v := .pointer (some ⟨p, 0, none⟩)) he_20) ?_
        refine JL.pure rfl (PO.move (v := str (l_17.getD j [])) rfl) ?_
        refine JL.op rfl (JO.call [0, 0, 0, 0] Tryz.call87 rfl (N_num p x mm hkmm (by omega) (by omega) (l_17.getD j [])) rfl (fun _ _ => trivial)) ?_
        rintro _ _ ⟨_, ⟨x_32, m_33, n_34, e_30, k_31, f_35, rfl, rfl⟩, rfl⟩
        refine JL.pure rfl (PO.move (v := .int .i64 (n_6 + n)) he_23) ?_
        refine JL.pure rfl (PO.gtr rfl rfl) ?_
        refine JL.nil ?_
        refine JQ.seq ?_
        by_cases h_36 : (n_6 + n) < n_34
        · skip
          refine JC.condT (congrArg Value.bool (decide_eq_true h_36)) ?_
          refine JC.exit ?_
          refine JQ.thenExit ?_
          refine JQ.blockE ?_
          refine JQ.seq ?_
          refine JC.region ?_
          refine JL.pure rfl (PO.add (c := ((j + 1 : Nat) : Int)) he_27 rfl (wr (by omega))) ?_
          refine JL.pure rfl (PO.move (v := .int .i64 ((j + 1 : Nat) : Int)) rfl) ?_
          refine JL.nil ?_
          refine JQ.pick [0, 0, 0, 0, 0] (A := [mb p x_32 m_33, rC x_32.a0 x_32.c0 m_33.s, rS x_32.a1 x_32.c1 m_33.r, rS x_32.a2 x_32.c2 m_33.w, rS l_17a l_17c l_17]) rfl ?_
          refine JQ.again (l_17.length - (j + 1)) (by omega) ⟨j + 1, x_32, m_33, expired_, by omega, (k_31.mono (by omega) (by omega)), (by first | omega | (simp only [List.length_append, List.length_cons, List.length_nil, List.length_take, List.length_drop]; omega)), (by rw [drop_at (getD_some (d := []) hlt)] at hR; simp only [MS.tickL, h_1, e_2, h_8, e_9, e_13, h_28, e_30, h_36, if_true, if_false, Bool.false_eq_true, Bool.not_true, Bool.not_false] at hR; (repeat (first | rw [if_pos (by omega)] at hR | rw [if_neg (by omega)] at hR)); exact hR), he_20, he_21, he_22, he_23, he_24, he_25, he_26, rfl, rfl, rfl⟩
        · skip
          refine JC.condF (congrArg Value.bool (decide_eq_false h_36)) ?_
          refine JC.skip ?_
          refine JQ.seq ?_
          refine JC.seq ?_
          refine JC.region ?_
          refine JL.pure rfl (PO.move (v := .pointer (some ⟨p, 0, none⟩)) he_20) ?_
          refine JL.pure rfl (PO.move (v := str (l_17.getD j [])) rfl) ?_
          refine JL.op rfl (JO.call [0, 0, 0, 0] Tryz.call90 rfl (N_layNil p x_32 m_33 k_31 (by omega) (by omega) (l_17.getD j []) (by omega)) rfl (fun _ _ => trivial)) ?_
          rintro _ _ ⟨_, ⟨x_39, m_40, e_37, k_38, rfl, rfl⟩, rfl⟩
          refine JL.nil ?_
          refine JQ.seq ?_
          refine JC.seq ?_
          refine JC.region ?_
          refine JL.pure rfl (PO.move (v := .pointer (some ⟨p, 0, none⟩)) he_20) ?_
          refine JL.pure rfl (PO.move (v := str (l_17.getD j [])) rfl) ?_
          refine JL.pure rfl (PO.sliceSl (i := 2) Tryz.underlying9 rfl rfl (by omega)) ?_
          refine JL.op rfl (JO.call [] Tryz.call119 rfl (N_numOf ((l_17.getD j []).drop 2) (by first | omega | (simp only [List.length_append, List.length_cons, List.length_nil, List.length_take, List.length_drop]; omega))) rfl (fun _ _ => trivial)) ?_
          rintro _ _ ⟨_, ⟨n_43, e_41, f_44, rfl, rfl⟩, rfl⟩
          refine JL.op rfl (JO.call [0, 0, 0, 0] Tryz.call62 rfl (N_send p x_39 m_40 k_38 (by omega) (by omega) n_43 14 (by omega) (by omega)) rfl (fun _ _ => trivial)) ?_
          rintro _ _ ⟨_, ⟨x_47, m_48, n_49, e_45, k_46, f_50, rfl, rfl⟩, rfl⟩
          refine JL.nil ?_
          refine JQ.seq ?_
          refine JC.region ?_
          refine JL.pure rfl (PO.move (v := .int .i64 expired_) he_24) ?_
          refine JL.pure rfl (PO.add (c := expired_ + 1) rfl rfl (wr (by omega))) ?_
          refine JL.pure rfl (PO.assign (v := .int .i64 (expired_ + 1)) rfl) ?_
          refine JL.nil ?_
          refine JQ.blockN ?_
          refine JQ.seq ?_
          refine JC.region ?_
          refine JL.pure rfl (PO.add (c := ((j + 1 : Nat) : Int)) he_27 rfl (wr (by omega))) ?_
          refine JL.pure rfl (PO.move (v := .int .i64 ((j + 1 : Nat) : Int)) rfl) ?_
          refine JL.nil ?_
          refine JQ.pick [0, 0, 0, 0, 0] (A := [mb p x_47 m_48, rC x_47.a0 x_47.c0 m_48.s, rS x_47.a1 x_47.c1 m_48.r, rS x_47.a2 x_47.c2 m_48.w, rS l_17a l_17c l_17]) rfl ?_
          refine JQ.again (l_17.length - (j + 1)) (by omega) ⟨j + 1, x_47, m_48, (expired_ + 1), by omega, (k_46.mono (by omega) (by omega)), (by first | omega | (simp only [List.length_append, List.length_cons, List.length_nil, List.length_take, List.length_drop]; omega)), (by rw [drop_at (getD_some (d := []) hlt)] at hR; simp only [MS.tickL, h_1, e_2, h_8, e_9, e_13, h_28, e_30, h_36, e_37, e_41, e_45, if_true, if_false, Bool.false_eq_true, Bool.not_true, Bool.not_false] at hR; (repeat (first | rw [if_pos (by omega)] at hR | rw [if_neg (by omega)] at hR)); exact hR), he_20, he_21, he_22, he_23, rfl, he_25, he_26, rfl, rfl, rfl⟩
      · skip
        rw [List.drop_of_length_le (by omega)] at hR
        simp only [MS.tickL] at hR
        have hE := hR.symm
        refine JC.condF (congrArg Value.bool (decide_eq_false h_28)) ?_
        refine JC.exit ?_
        refine JQ.thenExit ?_
        refine JQ.thenExit ?_
        refine JQ.blockE ?_
        refine JQ.seq ?_
        refine JC.seq ?_
        refine JC.region ?_
        refine JL.pure rfl (PO.move (v := .int .i64 expired_) he_24) ?_
        refine JL.pure rfl (PO.assign (v := .int .i64 expired_) rfl) ?_
        refine JL.pure rfl (PO.assign (v := .int .i64 0) rfl) ?_
        refine JL.nil ?_
        refine JQ.seq ?_
        refine JC.ret ?_
        refine Done.two (.inl rfl) rfl (RV.tmp (v := .int .i64 expired_) rfl) (RV.tmp (v := .int .i64 0) rfl) (List.sublist_append_left [mb p x mm, rC x.a0 x.c0 mm.s, rS x.a1 x.c1 mm.r, rS x.a2 x.c2 mm.w] [rS l_17a l_17c l_17]) ?_
        exact ⟨x, mm, expired_, 0, (by simp only [MS.tick, h_1, e_2, h_8, e_9, e_13, h_28, hE, if_true, if_false, Bool.false_eq_true, Bool.not_true, Bool.not_false]; (repeat (first | rw [if_pos (by omega)] | rw [if_neg (by omega)])); all_goals (first | rfl | simp only [if_true, if_false, Bool.false_eq_true, Bool.not_true, Bool.not_false, h_1, e_2, h_8, e_9, e_13, h_28, hE])), (hkmm.mono (by omega) (by omega)), (by first | omega | (simp only [List.length_append, List.length_cons, List.length_nil, List.length_take, List.length_drop]; omega)), (by first | omega | (simp only [List.length_append, List.length_cons, List.length_nil, List.length_take, List.length_drop]; omega)), rfl, rfl⟩

theorem M_tick (x : MA) (m : MS) {S T : Nat} (hk : m.ok S T) (hS : S ≤ 4000000) (hT : T ≤ 4000000) (n : Int) (hn : -9223372036854775808 ≤ n ∧ n ≤ 9223372036854775807) :
    Ct Tryz.prog 71 [mv x m, .int .i64 n] (mr x m) (fun _ => True) (fun v A' => ∃ x' m' r0 r1, MS.tick m n = (m', r0, r1) ∧ m'.ok (3 * S + 3) (T + 7 * S + 10) ∧ (0 ≤ r0 ∧ r0 ≤ 1000000000) ∧ (0 ≤ r1 ∧ r1 ≤ 9) ∧ v = .tuple #[mv x' m', .int .i64 r0, .int .i64 r1] ∧ A' = mr x' m') := by
  refine Ct.intro Tryz.func71 rfl Tryz.ntmps71 (Nat.le_of_ble_eq_true rfl) fun w0 hpre => ?_
  refine JC.seq ?_
  refine JC.region ?_
  refine JL.op rfl (JO.box (cs := [.slice x.a0 m.s.length x.c0, .slice x.a1 m.r.length x.c1, .slice x.a2 m.w.length x.c2]) rfl rfl) ?_
  rintro _ _ ⟨b_1, rfl, rfl⟩
  refine JL.op rfl (JO.alloc (z := .agg #[.slice none 0 0, .slice none 0 0, .slice none 0 0]) (cs := [.slice none 0 0, .slice none 0 0, .slice none 0 0]) Tryz.zeroValue32 rfl) ?_
  rintro _ _ ⟨b_2, rfl, rfl⟩
  refine JL.pure rfl (PO.assign (v := .int .i64 0) rfl) ?_
  refine JL.pure rfl (PO.assign (v := .int .i64 0) rfl) ?_
  refine JL.nil ?_
  refine JQ.seq ?_
  refine JC.seq ?_
  refine JC.seq ?_
  refine JC.region ?_
  refine JL.pure rfl (PO.move (v := .int .i64 n) rfl) ?_
  refine JL.pure rfl (PO.lss rfl rfl) ?_
  refine JL.nil ?_
  refine JQ.seq ?_
  by_cases h_3 : n < 1
  · skip
    refine JC.condT (congrArg Value.bool (decide_eq_true h_3)) ?_
    refine JC.seq ?_
    refine JC.region ?_
    refine JL.ld rfl (LO.loadK 1 (vs := [.slice x.a0 m.s.length x.c0, .slice x.a1 m.r.length x.c1, .slice x.a2 m.w.length x.c2]) rfl rfl Tryz.isAgg32 Tryz.sizeOf32 rfl rfl) ?_
    refine JL.op rfl (JO.store 0 (vs := [.slice x.a0 m.s.length x.c0, .slice x.a1 m.r.length x.c1, .slice x.a2 m.w.length x.c2]) (cs' := [.slice x.a0 m.s.length x.c0, .slice x.a1 m.r.length x.c1, .slice x.a2 m.w.length x.c2]) rfl rfl rfl rfl Tryz.sizeOf32 rfl rfl (Nat.le_of_ble_eq_true rfl) rfl) ?_
    rintro _ _ rfl
    refine JL.pure rfl (PO.assign (v := .int .i64 0) rfl) ?_
    refine JL.pure rfl (PO.assign (v := .int .i64 4) rfl) ?_
    refine JL.nil ?_
    refine JQ.seq ?_
    refine JC.ret ?_
    refine JQ.thenRet ?_
    refine JQ.perm (pick_perm [2, 2, 2] (A := [rC x.a0 x.c0 m.s, rS x.a1 x.c1 m.r, rS x.a2 x.c2 m.w]) (F := [mb b_2 x m, mb b_1 x m]) rfl).symm ?_
    refine Done.three (.inl rfl) rfl (RV.cell1 (LO.loadK 3 (vs := [.slice x.a0 m.s.length x.c0, .slice x.a1 m.r.length x.c1, .slice x.a2 m.w.length x.c2]) rfl rfl Tryz.isAgg32 Tryz.sizeOf32 rfl rfl) ⟨_, rfl⟩) (RV.tmp (v := .int .i64 0) rfl) (RV.tmp (v := .int .i64 4) rfl) (List.sublist_append_left [rC x.a0 x.c0 m.s, rS x.a1 x.c1 m.r, rS x.a2 x.c2 m.w] [mb b_2 x m, mb b_1 x m]) ?_
    exact ⟨x, m, 0, 4, (by simp only [MS.tick, h_3, if_true, if_false, Bool.false_eq_true, Bool.not_true, Bool.not_false]; (repeat (first | rw [if_pos (by omega)] | rw [if_neg (by omega)])); all_goals (first | rfl | simp only [if_true, if_false, Bool.false_eq_true, Bool.not_true, Bool.not_false, h_3])), (hk.mono (by omega) (by omega)), (by first | omega | (simp only [List.length_append, List.length_cons, List.length_nil, List.length_take, List.length_drop]; omega)), (by first | omega | (simp only [List.length_append, List.length_cons, List.length_nil, List.length_take, List.length_drop]; omega)), rfl, rfl⟩
  · skip
    refine JC.condF (congrArg Value.bool (decide_eq_false h_3)) ?_
    refine JC.skip ?_
    refine JQ.seq ?_
    refine JC.seq ?_
    refine JC.region ?_
    refine JL.ld rfl (LO.loadK 1 (vs := [.slice x.a0 m.s.length x.c0, .slice x.a1 m.r.length x.c1, .slice x.a2 m.w.length x.c2]) rfl rfl Tryz.isAgg32 Tryz.sizeOf32 rfl rfl) ?_
    refine JL.op rfl (JO.call [2, 2, 2] Tryz.call77 rfl (N_sNumAt x m hk (by omega) (by omega) [99, 47, 99, 108, 111, 99, 107]) rfl (fun _ _ => trivial)) ?_
    rintro _ _ ⟨_, ⟨x_6, m_7, n_8, e_4, k_5, f_9, rfl, rfl⟩, rfl⟩
    refine JL.pure rfl (PO.move (v := .tuple #[mv x_6 m_7, .int .i64 n_8]) rfl) ?_
    refine JL.pure rfl (PO.extract (v := mv x_6 m_7) rfl rfl) ?_
    refine JL.pure rfl (PO.extract (v := .int .i64 n_8) rfl rfl) ?_
    refine JL.op rfl (JO.store 4 (vs := [.slice x_6.a0 m_7.s.length x_6.c0, .slice x_6.a1 m_7.r.length x_6.c1, .slice x_6.a2 m_7.w.length x_6.c2]) (cs' := [.slice x_6.a0 m_7.s.length x_6.c0, .slice x_6.a1 m_7.r.length x_6.c1, .slice x_6.a2 m_7.w.length x_6.c2]) rfl rfl rfl rfl Tryz.sizeOf32 rfl rfl (Nat.le_of_ble_eq_true rfl) rfl) ?_
    rintro _ _ rfl
    refine JL.pure rfl (PO.assign (v := .int .i64 n_8) rfl) ?_
    refine JL.nil ?_
    refine JQ.seq ?_
    refine JC.seq ?_
    refine JC.seq ?_
    refine JC.region ?_
    refine JL.pure rfl (PO.move (v := .int .i64 n) rfl) ?_
    refine JL.pure rfl (PO.move (v := .int .i64 n_8) rfl) ?_
    refine JL.pure rfl (PO.sub (c := 999 - n_8) rfl rfl (wr (by omega))) ?_
    refine JL.pure rfl (PO.gtr rfl rfl) ?_
    refine JL.nil ?_
    refine JQ.seq ?_
    by_cases h_10 : (999 - n_8) < n
    · skip
      refine JC.condT (congrArg Value.bool (decide_eq_true h_10)) ?_
      refine JC.seq ?_
      refine JC.region ?_
      refine JL.ld rfl (LO.loadK 4 (vs := [.slice x_6.a0 m_7.s.length x_6.c0, .slice x_6.a1 m_7.r.length x_6.c1, .slice x_6.a2 m_7.w.length x_6.c2]) rfl rfl Tryz.isAgg32 Tryz.sizeOf32 rfl rfl) ?_
      refine JL.op rfl (JO.store 3 (vs := [.slice x_6.a0 m_7.s.length x_6.c0, .slice x_6.a1 m_7.r.length x_6.c1, .slice x_6.a2 m_7.w.length x_6.c2]) (cs' := [.slice x_6.a0 m_7.s.length x_6.c0, .slice x_6.a1 m_7.r.length x_6.c1, .slice x_6.a2 m_7.w.length x_6.c2]) rfl rfl rfl rfl Tryz.sizeOf32 rfl rfl (Nat.le_of_ble_eq_true rfl) rfl) ?_
      rintro _ _ rfl
      refine JL.pure rfl (PO.assign (v := .int .i64 0) rfl) ?_
      refine JL.pure rfl (PO.assign (v := .int .i64 3) rfl) ?_
      refine JL.nil ?_
      refine JQ.seq ?_
      refine JC.ret ?_
      refine JQ.thenRet ?_
      refine Done.three (.inl rfl) rfl (RV.cell1 (LO.loadK 3 (vs := [.slice x_6.a0 m_7.s.length x_6.c0, .slice x_6.a1 m_7.r.length x_6.c1, .slice x_6.a2 m_7.w.length x_6.c2]) rfl rfl Tryz.isAgg32 Tryz.sizeOf32 rfl rfl) ⟨_, rfl⟩) (RV.tmp (v := .int .i64 0) rfl) (RV.tmp (v := .int .i64 3) rfl) (List.sublist_append_left [rC x_6.a0 x_6.c0 m_7.s, rS x_6.a1 x_6.c1 m_7.r, rS x_6.a2 x_6.c2 m_7.w] [mb b_2 x_6 m_7, mb b_1 x_6 m_7]) ?_
      exact ⟨x_6, m_7, 0, 3, (by simp only [MS.tick, h_3, e_4, h_10, if_true, if_false, Bool.false_eq_true, Bool.not_true, Bool.not_false]; (repeat (first | rw [if_pos (by omega)] | rw [if_neg (by omega)])); all_goals (first | rfl | simp only [if_true, if_false, Bool.false_eq_true, Bool.not_true, Bool.not_false, h_3, e_4, h_10])), (k_5.mono (by omega) (by omega)), (by first | omega | (simp only [List.length_append, List.length_cons, List.length_nil, List.length_take, List.length_drop]; omega)), (by first | omega | (simp only [List.length_append, List.length_cons, List.length_nil, List.length_take, List.length_drop]; omega)), rfl, rfl⟩
    · skip
      refine JC.condF (congrArg Value.bool (decide_eq_false h_10)) ?_
      refine JC.skip ?_
      refine JQ.seq ?_
      refine JC.seq ?_
      refine JC.region ?_
      refine JL.ld rfl (LO.loadK 4 (vs := [.slice x_6.a0 m_7.s.length x_6.c0, .slice x_6.a1 m_7.r.length x_6.c1, .slice x_6.a2 m_7.w.length x_6.c2]) rfl rfl Tryz.isAgg32 Tryz.sizeOf32 rfl rfl) ?_
      refine JL.pure rfl (PO.move (v := .int .i64 n_8) rfl) ?_
      refine JL.pure rfl (PO.move (v := .int .i64 n) rfl) ?_
      refine JL.pure rfl (PO.add (c := n_8 + n) rfl rfl (wr (by omega))) ?_
      refine JL.op rfl (JO.call [0, 0, 0] Tryz.call81 rfl (N_sSetNum x_6 m_7 k_5 (by omega) (by omega) [99, 47, 99, 108, 111, 99, 107] (n_8 + n) (by decide) (by omega)) rfl (fun _ _ => trivial)) ?_
      rintro _ _ ⟨_, ⟨x_13, m_14, e_11, k_12, rfl, rfl⟩, rfl⟩
      refine JL.op rfl (JO.store 4 (vs := [.slice x_13.a0 m_14.s.length x_13.c0, .slice x_13.a1 m_14.r.length x_13.c1, .slice x_13.a2 m_14.w.length x_13.c2]) (cs' := [.slice x_13.a0 m_14.s.length x_13.c0, .slice x_13.a1 m_14.r.length x_13.c1, .slice x_13.a2 m_14.w.length x_13.c2]) rfl rfl rfl rfl Tryz.sizeOf32 rfl rfl (Nat.le_of_ble_eq_true rfl) rfl) ?_
      rintro _ _ rfl
      refine JL.nil ?_
      refine JQ.seq ?_
      refine JC.seq ?_
      refine JC.region ?_
      refine JL.ld rfl (LO.loadK 4 (vs := [.slice x_13.a0 m_14.s.length x_13.c0, .slice x_13.a1 m_14.r.length x_13.c1, .slice x_13.a2 m_14.w.length x_13.c2]) rfl rfl Tryz.isAgg32 Tryz.sizeOf32 rfl rfl) ?_
      refine JL.op rfl (JO.call [0, 0, 0] Tryz.call116 rfl (N_sUnder x_13 m_14 k_12 (by omega) (by omega) [116, 47] (by decide)) rfl (fun _ _ => trivial)) ?_
      rintro _ _ ⟨_, ⟨x_17, m_18, l_19a, l_19c, l_19, e_15, k_16, f_20, rfl, rfl⟩, rfl⟩
      refine JL.pure rfl (PO.move (v := .tuple #[mv x_17 m_18, .slice l_19a l_19.length l_19c]) rfl) ?_
      refine JL.pure rfl (PO.extract (v := mv x_17 m_18) rfl rfl) ?_
      refine JL.pure rfl (PO.extract (v := .slice l_19a l_19.length l_19c) rfl rfl) ?_
      refine JL.op rfl (JO.store 5 (vs := [.slice x_17.a0 m_18.s.length x_17.c0, .slice x_17.a1 m_18.r.length x_17.c1, .slice x_17.a2 m_18.w.length x_17.c2]) (cs' := [.slice x_17.a0 m_18.s.length x_17.c0, .slice x_17.a1 m_18.r.length x_17.c1, .slice x_17.a2 m_18.w.length x_17.c2]) rfl rfl rfl rfl Tryz.sizeOf32 rfl rfl (Nat.le_of_ble_eq_true rfl) rfl) ?_
      rintro _ _ rfl
      refine JL.pure rfl (PO.assign (v := .slice l_19a l_19.length l_19c) rfl) ?_
      refine JL.nil ?_
      refine JQ.seq ?_
      refine JC.seq ?_
      refine JC.region ?_
      refine JL.pure rfl (PO.assign (v := .int .i64 0) rfl) ?_
      refine JL.nil ?_
      refine JQ.seq ?_
      refine JC.seq ?_
      refine JC.seq ?_
      refine JC.region ?_
      refine JL.pure rfl (PO.assign (v := .int .i64 0) rfl) ?_
      refine JL.nil ?_
      refine JQ.seq ?_
      refine JC.block ?_
      have hll := f_20.1
      refine JC.perm (pick_perm [5, 0, 0, 0, 0, 0] (A := [mb b_1 x_17 m_18, rC x_17.a0 x_17.c0 m_18.s, rS x_17.a1 x_17.c1 m_18.r, rS x_17.a2 x_17.c2 m_18.w, rS l_19a l_19c l_19, bk b_2 32 [.slice none 0 0, .slice none 0 0, .slice none 0 0]]) (F := []) rfl).symm ?_
      refine JC.loop (fun k_ e_ L_ => ∃ j : Nat, ∃ x : MA, ∃ mm : MS, ∃ kv9_ : Int, (j ≤ l_19.length) ∧ (mm.ok ((S + 1) + 2 * j) (((T + 1) + 1) + 1 + 7 * j)) ∧ (0 ≤ kv9_ ∧ kv9_ ≤ ((j : Nat) : Int)) ∧ (MS.tickL (n_8 + n) (l_19.drop j) mm kv9_ = MS.tickL (n_8 + n) l_19 m_18 0) ∧ e_ 1 = .int .i64 n ∧ e_ 2 = .pointer (some ⟨b_1, 0, none⟩) ∧ e_ 4 = .pointer (some ⟨b_2, 0, none⟩) ∧ e_ 5 = .int .i64 0 ∧ e_ 6 = .int .i64 0 ∧ e_ 7 = .int .i64 n_8 ∧ e_ 8 = .slice l_19a l_19.length l_19c ∧ e_ 9 = .int .i64 kv9_ ∧ e_ 10 = .int .i64 ((j : Nat) : Int) ∧ L_ = [mb b_1 x mm, rC x.a0 x.c0 mm.s, rS x.a1 x.c1 mm.r, rS x.a2 x.c2 mm.w, rS l_19a l_19c l_19, bk b_2 32 [.slice none 0 0, .slice none 0 0, .slice none 0 0]] ∧ k_ = l_19.length - j) _ ⟨0, x_17, m_18, 0, by omega, (k_16.mono (by omega) (by omega)), (by first | omega | (simp only [List.length_append, List.length_cons, List.length_nil, List.length_take, List.length_drop]; omega)), rfl, rfl, rfl, rfl, rfl, rfl, rfl, rfl, rfl, rfl, rfl, rfl⟩ ?_
      rintro _ e_21 _ ⟨j, x, mm, kv9_, hj, hkmm, hx, hR, he_22, he_23, he_24, he_25, he_26, he_27, he_28, he_29, he_30, rfl, rfl⟩
      refine JC.seq ?_
      refine JC.seq ?_
      refine JC.region ?_
      refine JL.pure rfl (PO.move (v := .int .i64 ((j : Nat) : Int)) he_30) ?_
      refine JL.pure rfl (PO.move (v := .slice l_19a l_19.length l_19c) he_28) ?_
      refine JL.pure rfl (PO.lenV Tryz.underlying23 rfl) ?_
      refine JL.pure rfl (PO.lss rfl rfl) ?_
      refine JL.nil ?_
      refine JQ.seq ?_
      by_cases h_31 : ((j : Nat) : Int) < ((l_19.length : Nat) : Int)
      · skip
        have hlt : j < l_19.length := by omega
        have hbj := f_20.2 j hlt
        try simp only [List.length_cons, List.length_nil] at hbj
        refine JC.condT (congrArg Value.bool (decide_eq_true h_31)) ?_
        refine JC.skip ?_
        refine JQ.seq ?_
        refine JC.seq ?_
        refine JC.block ?_
        refine JC.seq ?_
        refine JC.region ?_
        refine JL.pure rfl (PO.assign (v := .int .i64 0) rfl) ?_
        refine JL.nil ?_
        refine JQ.seq ?_
        refine JC.seq ?_
        refine JC.regionA [] 10 mixed (by simp) ?_
        refine JA.take 1 rfl (by kernel_rfl) (NP.th (NP.bl (NP.th (NP.th (NP.bl (NP.th NP.body)))))) (by kernel_rfl) (by kernel_rfl) (by kernel_rfl) rfl (LO.pure (PO.move (v := .slice l_19a l_19.length l_19c) he_28)) ?_
        refine JA.take 2 rfl (by kernel_rfl) (NP.th (NP.bl (NP.th (NP.th (NP.bl (NP.th NP.body)))))) (by kernel_rfl) (by kernel_rfl) (by kernel_rfl) rfl (LO.pure (PO.move (v := .int .i64 ((j : Nat) : Int)) he_30)) ?_
        refine JA.facts fun hst => ?_
        obtain ⟨hr_32, hr_32b, -⟩ := row_some 4 rfl (by omega) hst
        refine JA.take 3 rfl (by kernel_rfl) (NP.th (NP.bl (NP.th (NP.th (NP.bl (NP.th NP.body)))))) (by kernel_rfl) (by kernel_rfl) (by kernel_rfl) rfl (LO.pure (PO.indexAddrV (i := j) Tryz.underlying23 Tryz.sizeOf9 hr_32 hr_32b rfl rfl (by omega))) ?_
        refine JA.two (i := 0) (j := 4) (by kernel_rfl) ?_ ?_
        · skip
          refine JX.op rfl rfl (JO.ofLO (LO.loadK 0 (vs := [.slice x.a0 mm.s.length x.c0, .slice x.a1 mm.r.length x.c1, .slice x.a2 mm.w.length x.c2]) rfl he_23 Tryz.isAgg32 Tryz.sizeOf32 rfl rfl)) ?_
          rintro _ _ ⟨rfl, rfl⟩
          refine ⟨(fun _ h => by cases h), ?_⟩
          refine JA.one (i := 4) (by kernel_rfl) ?_
          refine JX.op rfl rfl (JO.ofLO (LO.loadR1 4 (v := str (l_19.getD j [])) rfl rfl Tryz.isAgg9 (atS (by omega)))) ?_
          rintro _ _ ⟨rfl, rfl⟩
          refine ⟨(fun _ h => by cases h), ?_⟩
          refine JA.one (i := 5) (by kernel_rfl) ?_
          refine JX.op rfl rfl (JO.call [1, 1, 1] Tryz.call77 rfl (N_sNumAt x mm hkmm (by omega) (by omega) (l_19.getD j [])) rfl (fun _ _ => trivial)) ?_
          rintro _ _ ⟨_, ⟨x_41, m_42, n_43, e_39, k_40, f_44, rfl, rfl⟩, rfl⟩
          refine ⟨(fun _ h => by cases h), ?_⟩
          refine JA.take 6 rfl (by kernel_rfl) (NP.th (NP.bl (NP.th (NP.th (NP.bl (NP.th NP.body)))))) (by kernel_rfl) (by kernel_rfl) (by kernel_rfl) rfl (LO.pure (PO.move (v := .tuple #[mv x_41 m_42, .int .i64 n_43]) rfl)) ?_
          refine JA.take 7 rfl (by kernel_rfl) (NP.th (NP.bl (NP.th (NP.th (NP.bl (NP.th NP.body)))))) (by kernel_rfl) (by kernel_rfl) (by kernel_rfl) rfl (LO.pure (PO.extract (v := mv x_41 m_42) rfl rfl)) ?_
          refine JA.take 8 rfl (by kernel_rfl) (NP.th (NP.bl (NP.th (NP.th (NP.bl (NP.th NP.body)))))) (by kernel_rfl) (by kernel_rfl) (by kernel_rfl) rfl (LO.pure (PO.extract (v := .int .i64 n_43) rfl rfl)) ?_
          refine JA.one (i := 9) (by kernel_rfl) ?_
          refine JX.op rfl rfl (JO.store 3 (vs := [.slice x_41.a0 m_42.s.length x_41.c0, .slice x_41.a1 m_42.r.length x_41.c1, .slice x_41.a2 m_42.w.length x_41.c2]) (cs' := [.slice x_41.a0 m_42.s.length x_41.c0, .slice x_41.a1 m_42.r.length x_41.c1, .slice x_41.a2 m_42.w.length x_41.c2]) rfl he_23 rfl rfl Tryz.sizeOf32 rfl rfl (Nat.le_of_ble_eq_true rfl) rfl) ?_
          rintro _ _ rfl
          refine ⟨(fun _ h => by cases h), ?_⟩
          refine JA.take 10 rfl (by kernel_rfl) (NP.th (NP.bl (NP.th (NP.th (NP.bl (NP.th NP.body)))))) (by kernel_rfl) (by kernel_rfl) (by kernel_rfl) rfl (LO.pure (PO.assign (v := .int .i64 n_43) rfl)) ?_
          refine JA.done (by kernel_rfl) ?_
          refine JQ.seq ?_
          refine JC.seq ?_
          refine JC.region ?_
          refine JL.pure rfl (PO.move (v := .int .i64 n_43) rfl) ?_
          refine JL.pure rfl (PO.move (v := .int .i64 n_8) he_27) ?_
          refine JL.pure rfl (PO.move (v := .int .i64 n) he_22) ?_
          refine JL.pure rfl (PO.add (c := n_8 + n) rfl rfl (wr (by omega))) ?_
          refine JL.pure rfl (PO.leq rfl rfl) ?_
          refine JL.nil ?_
          refine JQ.seq ?_
          by_cases h_45 : n_43 ≤ (n_8 + n)
          · skip
            refine JC.condT (congrArg Value.bool (decide_eq_true h_45)) ?_
            refine JC.seq ?_
            refine JC.regionA [mb b_1 x_41 m_42] 6 mixed (by simp) ?_
            refine JA.take 0 rfl (by kernel_rfl) (NP.th (NP.bl (NP.th (NP.th (NP.bl (NP.th NP.body)))))) (by kernel_rfl) (by kernel_rfl) (by kernel_rfl) rfl (LO.loadK 0 (vs := [.slice x_41.a0 m_42.s.length x_41.c0, .slice x_41.a1 m_42.r.length x_41.c1, .slice x_41.a2 m_42.w.length x_41.c2]) rfl he_23 Tryz.isAgg32 Tryz.sizeOf32 rfl rfl) ?_
            refine JA.take 1 rfl (by kernel_rfl) (NP.th (NP.bl (NP.th (NP.th (NP.bl (NP.th NP.body)))))) (by kernel_rfl) (by kernel_rfl) (by kernel_rfl) rfl (LO.pure (PO.move (v := .slice l_19a l_19.length l_19c) he_28)) ?_
            refine JA.take 2 rfl (by kernel_rfl) (NP.th (NP.bl (NP.th (NP.th (NP.bl (NP.th NP.body)))))) (by kernel_rfl) (by kernel_rfl) (by kernel_rfl) rfl (LO.pure (PO.move (v := .int .i64 ((j : Nat) : Int)) he_30)) ?_
            refine JA.take 3 rfl (by kernel_rfl) (NP.th (NP.bl (NP.th (NP.th (NP.bl (NP.th NP.body)))))) (by kernel_rfl) (by kernel_rfl) (by kernel_rfl) rfl (LO.pure (PO.indexAddrV (i := j) Tryz.underlying23 Tryz.sizeOf9 hr_32 hr_32b rfl rfl (by omega))) ?_
            refine JA.one (i := 4) (by kernel_rfl) ?_
            refine JX.op rfl rfl (JO.ofLO (LO.loadR1 4 (v := str (l_19.getD j [])) rfl rfl Tryz.isAgg9 (atS (by omega)))) ?_
            rintro _ _ ⟨rfl, rfl⟩
            refine ⟨(by simp), ?_⟩
            refine JA.one (i := 5) (by kernel_rfl) ?_
            refine JX.op rfl rfl (JO.call [0, 0, 0] Tryz.call80 rfl (N_sLayNil x_41 m_42 k_40 (by omega) (by omega) (l_19.getD j []) (by omega)) rfl (fun _ _ => trivial)) ?_
            rintro _ _ ⟨_, ⟨x_52, m_53, e_50, k_51, rfl, rfl⟩, rfl⟩
            refine ⟨(by simp), ?_⟩
            refine JA.one (i := 6) (by kernel_rfl) ?_
            refine JX.last rfl rfl rfl (by kernel_rfl) (JO.store 3 (vs := [.slice x_52.a0 m_53.s.length x_52.c0, .slice x_52.a1 m_53.r.length x_52.c1, .slice x_52.a2 m_53.w.length x_52.c2]) (cs' := [.slice x_52.a0 m_53.s.length x_52.c0, .slice x_52.a1 m_53.r.length x_52.c1, .slice x_52.a2 m_53.w.length x_52.c2]) rfl he_23 rfl rfl Tryz.sizeOf32 rfl rfl (Nat.le_of_ble_eq_true rfl) rfl) ?_
            rintro _ _ rfl
            refine JQ.seq ?_
            refine JC.seq ?_
            refine JC.regionA [] 1000 mixed (by simp) ?_
            refine JA.take 1 rfl (by kernel_rfl) (NP.th (NP.bl (NP.th (NP.th (NP.bl (NP.th NP.body)))))) (by kernel_rfl) (by kernel_rfl) (by kernel_rfl) rfl (LO.pure (PO.move (v := .slice l_19a l_19.length l_19c) he_28)) ?_
            refine JA.take 2 rfl (by kernel_rfl) (NP.th (NP.bl (NP.th (NP.th (NP.bl (NP.th NP.body)))))) (by kernel_rfl) (by kernel_rfl) (by kernel_rfl) rfl (LO.pure (PO.move (v := .int .i64 ((j : Nat) : Int)) he_30)) ?_
            refine JA.take 3 rfl (by kernel_rfl) (NP.th (NP.bl (NP.th (NP.th (NP.bl (NP.th NP.body)))))) (by kernel_rfl) (by kernel_rfl) (by kernel_rfl) rfl (LO.pure (PO.indexAddrV (i := j) Tryz.underlying23 Tryz.sizeOf9 hr_32 hr_32b rfl rfl (by omega))) ?_
            refine JA.two (i := 0) (j := 4) (by kernel_rfl) ?_ ?_
            · skip
              refine JX.op rfl rfl (JO.ofLO (LO.loadK 3 (vs := [.slice x_52.a0 m_53.s.length x_52.c0, .slice x_52.a1 m_53.r.length x_52.c1, .slice x_52.a2 m_53.w.length x_52.c2]) rfl he_23 Tryz.isAgg32 Tryz.sizeOf32 rfl rfl)) ?_
              rintro _ _ ⟨rfl, rfl⟩
              refine ⟨(fun _ h => by cases h), ?_⟩
              refine JA.one (i := 4) (by kernel_rfl) ?_
              refine JX.op rfl rfl (JO.ofLO (LO.loadR1 4 (v := str (l_19.getD j [])) rfl rfl Tryz.isAgg9 (atS (by omega)))) ?_
              rintro _ _ ⟨rfl, rfl⟩
              refine ⟨(fun _ h => by cases h), ?_⟩
              refine JA.take 5 rfl (by kernel_rfl) (NP.th (NP.bl (NP.th (NP.th (NP.bl (NP.th NP.body)))))) (by kernel_rfl) (by kernel_rfl) (by kernel_rfl) rfl (LO.pure (PO.sliceSl (i := 2) Tryz.underlying9 rfl rfl (by omega))) ?_
              refine JA.one (i := 6) (by kernel_rfl) ?_
              refine JX.op rfl rfl (JO.call [] Tryz.call117 rfl (N_sNumOf ((l_19.getD j []).drop 2) (by first | omega | (simp only [List.length_append, List.length_cons, List.length_nil, List.length_take, List.length_drop]; omega))) rfl (fun _ _ => trivial)) ?_
              rintro _ _ ⟨_, ⟨n_60, e_58, f_61, rfl, rfl⟩, rfl⟩
              refine ⟨(fun _ h => by cases h), ?_⟩
              refine JA.one (i := 7) (by kernel_rfl) ?_
              refine JX.op rfl rfl (JO.call [0, 0, 0] Tryz.call61 rfl (M_send x_52 m_53 k_51 (by omega) (by omega) n_60 14 (by omega) (by omega)) rfl (fun _ _ => trivial)) ?_
              rintro _ _ ⟨_, ⟨x_70, m_71, n_72, e_68, k_69, f_73, rfl, rfl⟩, rfl⟩
              refine ⟨(fun _ h => by cases h), ?_⟩
              refine JA.take 8 rfl (by kernel_rfl) (NP.th (NP.bl (NP.th (NP.th (NP.bl (NP.th NP.body)))))) (by kernel_rfl) (by kernel_rfl) (by kernel_rfl) rfl (LO.pure (PO.move (v := .tuple #[mv x_70 m_71, .int .i64 n_72]) rfl)) ?_
              refine JA.take 9 rfl (by kernel_rfl) (NP.th (NP.bl (NP.th (NP.th (NP.bl (NP.th NP.body)))))) (by kernel_rfl) (by kernel_rfl) (by kernel_rfl) rfl (LO.pure (PO.extract (v := mv x_70 m_71) rfl rfl)) ?_
              refine JA.take 10 rfl (by kernel_rfl) (NP.th (NP.bl (NP.th (NP.th (NP.bl (NP.th NP.body)))))) (by kernel_rfl) (by kernel_rfl) (by kernel_rfl) rfl (LO.pure (PO.extract (v := .int .i64 n_72) rfl rfl)) ?_
              refine JA.one (i := 11) (by kernel_rfl) ?_
              refine JX.op rfl rfl (JO.store 3 (vs := [.slice x_70.a0 m_71.s.length x_70.c0, .slice x_70.a1 m_71.r.length x_70.c1, .slice x_70.a2 m_71.w.length x_70.c2]) (cs' := [.slice x_70.a0 m_71.s.length x_70.c0, .slice x_70.a1 m_71.r.length x_70.c1, .slice x_70.a2 m_71.w.length x_70.c2]) rfl he_23 rfl rfl Tryz.sizeOf32 rfl rfl (Nat.le_of_ble_eq_true rfl) rfl) ?_
              rintro _ _ rfl
              refine ⟨(fun _ h => by cases h), ?_⟩
              refine JA.done (by kernel_rfl) ?_
              refine JQ.seq ?_
              refine JC.region ?_
              refine JL.pure rfl (PO.move (v := .int .i64 kv9_) he_29) ?_
              refine JL.pure rfl (PO.add (c := kv9_ + 1) rfl rfl (wr (by omega))) ?_
              refine JL.pure rfl (PO.assign (v := .int .i64 (kv9_ + 1)) rfl) ?_
              refine JL.nil ?_
              refine JQ.blockN ?_
              refine JQ.seq ?_
              refine JC.region ?_
              refine JL.pure rfl (PO.move (v := .int .i64 ((j : Nat) : Int)) he_30) ?_
              refine JL.pure rfl (PO.add (c := ((j + 1 : Nat) : Int)) rfl rfl (wr (by omega))) ?_
              refine JL.pure rfl (PO.assign (v := .int .i64 ((j + 1 : Nat) : Int)) rfl) ?_
              refine JL.nil ?_
              refine JQ.pick [3, 0, 0, 0, 0, 0] (A := [mb b_1 x_70 m_71, rC x_70.a0 x_70.c0 m_71.s, rS x_70.a1 x_70.c1 m_71.r, rS x_70.a2 x_70.c2 m_71.w, rS l_19a l_19c l_19, bk b_2 32 [.slice none 0 0, .slice none 0 0, .slice none 0 0]]) rfl ?_
              refine JQ.again (l_19.length - (j + 1)) (by omega) ⟨j + 1, x_70, m_71, (kv9_ + 1), by omega, (k_69.mono (by omega) (by omega)), (by first | omega | (simp only [List.length_append, List.length_cons, List.length_nil, List.length_take, List.length_drop]; omega)), (by rw [drop_at (getD_some (d := []) hlt)] at hR; simp only [MS.tickL, h_3, e_4, h_10, e_11, e_15, h_31, e_39, h_45, e_50, e_58, e_68, if_true, if_false, Bool.false_eq_true, Bool.not_true, Bool.not_false] at hR; (repeat (first | rw [if_pos (by omega)] at hR | rw [if_neg (by omega)] at hR)); exact hR), he_22, he_23, he_24, he_25, he_26, he_27, he_28, rfl, rfl, rfl, rfl⟩
            · skip
              refine JX.op rfl rfl (JO.ofLO (LO.loadR1 4 (v := str (l_19.getD j [])) rfl rfl Tryz.isAgg9 (atS (by omega)))) ?_
              rintro _ _ ⟨rfl, rfl⟩
              refine ⟨(fun _ h => by cases h), ?_⟩
              refine JA.take 5 rfl (by kernel_rfl) (NP.th (NP.bl (NP.th (NP.th (NP.bl (NP.th NP.body)))))) (by kernel_rfl) (by kernel_rfl) (by kernel_rfl) rfl (LO.pure (PO.sliceSl (i := 2) Tryz.underlying9 rfl rfl (by omega))) ?_
              refine JA.two (i := 0) (j := 6) (by kernel_rfl) ?_ ?_
              · skip
                refine JX.op rfl rfl (JO.ofLO (LO.loadK 3 (vs := [.slice x_52.a0 m_53.s.length x_52.c0, .slice x_52.a1 m_53.r.length x_52.c1, .slice x_52.a2 m_53.w.length x_52.c2]) rfl he_23 Tryz.isAgg32 Tryz.sizeOf32 rfl rfl)) ?_
                rintro _ _ ⟨rfl, rfl⟩
                refine ⟨(fun _ h => by cases h), ?_⟩
                refine JA.one (i := 6) (by kernel_rfl) ?_
                refine JX.op rfl rfl (JO.call [] Tryz.call117 rfl (N_sNumOf ((l_19.getD j []).drop 2) (by first | omega | (simp only [List.length_append, List.length_cons, List.length_nil, List.length_take, List.length_drop]; omega))) rfl (fun _ _ => trivial)) ?_
                rintro _ _ ⟨_, ⟨n_84, e_82, f_85, rfl, rfl⟩, rfl⟩
                refine ⟨(fun _ h => by cases h), ?_⟩
                refine JA.one (i := 7) (by kernel_rfl) ?_
                refine JX.op rfl rfl (JO.call [0, 0, 0] Tryz.call61 rfl (M_send x_52 m_53 k_51 (by omega) (by omega) n_84 14 (by omega) (by omega)) rfl (fun _ _ => trivial)) ?_
                rintro _ _ ⟨_, ⟨x_94, m_95, n_96, e_92, k_93, f_97, rfl, rfl⟩, rfl⟩
                refine ⟨(fun _ h => by cases h), ?_⟩
                refine JA.take 8 rfl (by kernel_rfl) (NP.th (NP.bl (NP.th (NP.th (NP.bl (NP.th NP.body)))))) (by kernel_rfl) (by kernel_rfl) (by kernel_rfl) rfl (LO.pure (PO.move (v := .tuple #[mv x_94 m_95, .int .i64 n_96]) rfl)) ?_
                refine JA.take 9 rfl (by kernel_rfl) (NP.th (NP.bl (NP.th (NP.th (NP.bl (NP.th NP.body)))))) (by kernel_rfl) (by kernel_rfl) (by kernel_rfl) rfl (LO.pure (PO.extract (v := mv x_94 m_95) rfl rfl)) ?_
                refine JA.take 10 rfl (by kernel_rfl) (NP.th (NP.bl (NP.th (NP.th (NP.bl (NP.th NP.body)))))) (by kernel_rfl) (by kernel_rfl) (by kernel_rfl) rfl (LO.pure (PO.extract (v := .int .i64 n_96) rfl rfl)) ?_
                refine JA.one (i := 11) (by kernel_rfl) ?_
                refine JX.op rfl rfl (JO.store 3 (vs := [.slice x_94.a0 m_95.s.length x_94.c0, .slice x_94.a1 m_95.r.length x_94.c1, .slice x_94.a2 m_95.w.length x_94.c2]) (cs' := [.slice x_94.a0 m_95.s.length x_94.c0, .slice x_94.a1 m_95.r.length x_94.c1, .slice x_94.a2 m_95.w.length x_94.c2]) rfl he_23 rfl rfl Tryz.sizeOf32 rfl rfl (Nat.le_of_ble_eq_true rfl) rfl) ?_
                rintro _ _ rfl
                refine ⟨(fun _ h => by cases h), ?_⟩
                refine JA.done (by kernel_rfl) ?_
                refine JQ.seq ?_
                refine JC.region ?_
                refine JL.pure rfl (PO.move (v := .int .i64 kv9_) he_29) ?_
                refine JL.pure rfl (PO.add (c := kv9_ + 1) rfl rfl (wr (by omega))) ?_
                refine JL.pure rfl (PO.assign (v := .int .i64 (kv9_ + 1)) rfl) ?_
                refine JL.nil ?_
                refine JQ.blockN ?_
                refine JQ.seq ?_
                refine JC.region ?_
                refine JL.pure rfl (PO.move (v := .int .i64 ((j : Nat) : Int)) he_30) ?_
                refine JL.pure rfl (PO.add (c := ((j + 1 : Nat) : Int)) rfl rfl (wr (by omega))) ?_
                refine JL.pure rfl (PO.assign (v := .int .i64 ((j + 1 : Nat) : Int)) rfl) ?_
                refine JL.nil ?_
                refine JQ.pick [3, 0, 0, 0, 0, 0] (A := [mb b_1 x_94 m_95, rC x_94.a0 x_94.c0 m_95.s, rS x_94.a1 x_94.c1 m_95.r, rS x_94.a2 x_94.c2 m_95.w, rS l_19a l_19c l_19, bk b_2 32 [.slice none 0 0, .slice none 0 0, .slice none 0 0]]) rfl ?_
                refine JQ.again (l_19.length - (j + 1)) (by omega) ⟨j + 1, x_94, m_95, (kv9_ + 1), by omega, (k_93.mono (by omega) (by omega)), (by first | omega | (simp only [List.length_append, List.length_cons, List.length_nil, List.length_take, List.length_drop]; omega)), (by rw [drop_at (getD_some (d := []) hlt)] at hR; simp only [MS.tickL, h_3, e_4, h_10, e_11, e_15, h_31, e_39, h_45, e_50, e_82, e_92, if_true, if_false, Bool.false_eq_true, Bool.not_true, Bool.not_false] at hR; (repeat (first | rw [if_pos (by omega)] at hR | rw [if_neg (by omega)] at hR)); exact hR), he_22, he_23, he_24, he_25, he_26, he_27, he_28, rfl, rfl, rfl, rfl⟩
              · skip
                refine JX.op rfl rfl (JO.call [] Tryz.call117 rfl (N_sNumOf ((l_19.getD j []).drop 2) (by first | omega | (simp only [List.length_append, List.length_cons, List.length_nil, List.length_take, List.length_drop]; omega))) rfl (fun _ _ => trivial)) ?_
                rintro _ _ ⟨_, ⟨n_100, e_98, f_101, rfl, rfl⟩, rfl⟩
                refine ⟨(fun _ h => by cases h), ?_⟩
                refine JA.one (i := 0) (by kernel_rfl) ?_
                refine JX.op rfl rfl (JO.ofLO (LO.loadK 3 (vs := [.slice x_52.a0 m_53.s.length x_52.c0, .slice x_52.a1 m_53.r.length x_52.c1, .slice x_52.a2 m_53.w.length x_52.c2]) rfl he_23 Tryz.isAgg32 Tryz.sizeOf32 rfl rfl)) ?_
                rintro _ _ ⟨rfl, rfl⟩
                refine ⟨(fun _ h => by cases h), ?_⟩
                refine JA.one (i := 7) (by kernel_rfl) ?_
                refine JX.op rfl rfl (JO.call [0, 0, 0] Tryz.call61 rfl (M_send x_52 m_53 k_51 (by omega) (by omega) n_100 14 (by omega) (by omega)) rfl (fun _ _ => trivial)) ?_
                rintro _ _ ⟨_, ⟨x_110, m_111, n_112, e_108, k_109, f_113, rfl, rfl⟩, rfl⟩
                refine ⟨(fun _ h => by cases h), ?_⟩
                refine JA.take 8 rfl (by kernel_rfl) (NP.th (NP.bl (NP.th (NP.th (NP.bl (NP.th NP.body)))))) (by kernel_rfl) (by kernel_rfl) (by kernel_rfl) rfl (LO.pure (PO.move (v := .tuple #[mv x_110 m_111, .int .i64 n_112]) rfl)) ?_
                refine JA.take 9 rfl (by kernel_rfl) (NP.th (NP.bl (NP.th (NP.th (NP.bl (NP.th NP.body)))))) (by kernel_rfl) (by kernel_rfl) (by kernel_rfl) rfl (LO.pure (PO.extract (v := mv x_110 m_111) rfl rfl)) ?_
                refine JA.take 10 rfl (by kernel_rfl) (NP.th (NP.bl (NP.th (NP.th (NP.bl (NP.th NP.body)))))) (by kernel_rfl) (by kernel_rfl) (by kernel_rfl) rfl (LO.pure (PO.extract (v := .int .i64 n_112) rfl rfl)) ?_
                refine JA.one (i := 11) (by kernel_rfl) ?_
                refine JX.op rfl rfl (JO.store 3 (vs := [.slice x_110.a0 m_111.s.length x_110.c0, .slice x_110.a1 m_111.r.length x_110.c1, .slice x_110.a2 m_111.w.length x_110.c2]) (cs' := [.slice x_110.a0 m_111.s.length x_110.c0, .slice x_110.a1 m_111.r.length x_110.c1, .slice x_110.a2 m_111.w.length x_110.c2]) rfl he_23 rfl rfl Tryz.sizeOf32 rfl rfl (Nat.le_of_ble_eq_true rfl) rfl) ?_
                rintro _ _ rfl
                refine ⟨(fun _ h => by cases h), ?_⟩
                refine JA.done (by kernel_rfl) ?_
                refine JQ.seq ?_
                refine JC.region ?_
                refine JL.pure rfl (PO.move (v := .int .i64 kv9_) he_29) ?_
                refine JL.pure rfl (PO.add (c := kv9_ + 1) rfl rfl (wr (by omega))) ?_
                refine JL.pure rfl (PO.assign (v := .int .i64 (kv9_ + 1)) rfl) ?_
                refine JL.nil ?_
                refine JQ.blockN ?_
                refine JQ.seq ?_
                refine JC.region ?_
                refine JL.pure rfl (PO.move (v := .int .i64 ((j : Nat) : Int)) he_30) ?_
                refine JL.pure rfl (PO.add (c := ((j + 1 : Nat) : Int)) rfl rfl (wr (by omega))) ?_
                refine JL.pure rfl (PO.assign (v := .int .i64 ((j + 1 : Nat) : Int)) rfl) ?_
                refine JL.nil ?_
                refine JQ.pick [3, 0, 0, 0, 0, 0] (A := [mb b_1 x_110 m_111, rC x_110.a0 x_110.c0 m_111.s, rS x_110.a1 x_110.c1 m_111.r, rS x_110.a2 x_110.c2 m_111.w, rS l_19a l_19c l_19, bk b_2 32 [.slice none 0 0, .slice none 0 0, .slice none 0 0]]) rfl ?_
                refine JQ.again (l_19.length - (j + 1)) (by omega) ⟨j + 1, x_110, m_111, (kv9_ + 1), by omega, (k_109.mono (by omega) (by omega)), (by first | omega | (simp only [List.length_append, List.length_cons, List.length_nil, List.length_take, List.length_drop]; omega)), (by rw [drop_at (getD_some (d := []) hlt)] at hR; simp only [MS.tickL, h_3, e_4, h_10, e_11, e_15, h_31, e_39, h_45, e_50, e_98, e_108, if_true, if_false, Bool.false_eq_true, Bool.not_true, Bool.not_false] at hR; (repeat (first | rw [if_pos (by omega)] at hR | rw [if_neg (by omega)] at hR)); exact hR), he_22, he_23, he_24, he_25, he_26, he_27, he_28, rfl, rfl, rfl, rfl⟩
          · skip
            refine JC.condF (congrArg Value.bool (decide_eq_false h_45)) ?_
            refine JC.skip ?_
            refine JQ.blockN ?_
            refine JQ.seq ?_
            refine JC.region ?_
            refine JL.pure rfl (PO.move (v := .int .i64 ((j : Nat) : Int)) he_30) ?_
            refine JL.pure rfl (PO.add (c := ((j + 1 : Nat) : Int)) rfl rfl (wr (by omega))) ?_
            refine JL.pure rfl (PO.assign (v := .int .i64 ((j + 1 : Nat) : Int)) rfl) ?_
            refine JL.nil ?_
            refine JQ.pick [3, 0, 0, 0, 0, 0] (A := [mb b_1 x_41 m_42, rC x_41.a0 x_41.c0 m_42.s, rS x_41.a1 x_41.c1 m_42.r, rS x_41.a2 x_41.c2 m_42.w, rS l_19a l_19c l_19, bk b_2 32 [.slice none 0 0, .slice none 0 0, .slice none 0 0]]) rfl ?_
            refine JQ.again (l_19.length - (j + 1)) (by omega) ⟨j + 1, x_41, m_42, kv9_, by omega, (k_40.mono (by omega) (by omega)), (by first | omega | (simp only [List.length_append, List.length_cons, List.length_nil, List.length_take, List.length_drop]; omega)), (by rw [drop_at (getD_some (d := []) hlt)] at hR; simp only [MS.tickL, h_3, e_4, h_10, e_11, e_15, h_31, e_39, h_45, if_true, if_false, Bool.false_eq_true, Bool.not_true, Bool.not_false] at hR; (repeat (first | rw [if_pos (by omega)] at hR | rw [if_neg (by omega)] at hR)); exact hR), he_22, he_23, he_24, he_25, he_26, he_27, he_28, he_29, rfl, rfl, rfl⟩
        · skip
          refine JX.op rfl rfl (JO.ofLO (LO.loadR1 4 (v := str (l_19.getD j [])) rfl rfl Tryz.isAgg9 (atS (by omega)))) ?_
          rintro _ _ ⟨rfl, rfl⟩
          refine ⟨(fun _ h => by cases h), ?_⟩
          refine JA.one (i := 0) (by kernel_rfl) ?_
          refine JX.op rfl rfl (JO.ofLO (LO.loadK 0 (vs := [.slice x.a0 mm.s.length x.c0, .slice x.a1 mm.r.length x.c1, .slice x.a2 mm.w.length x.c2]) rfl he_23 Tryz.isAgg32 Tryz.sizeOf32 rfl rfl)) ?_
          rintro _ _ ⟨rfl, rfl⟩
          refine ⟨(fun _ h => by cases h), ?_⟩
          refine JA.one (i := 5) (by kernel_rfl) ?_
          refine JX.op rfl rfl (JO.call [1, 1, 1] Tryz.call77 rfl (N_sNumAt x mm hkmm (by omega) (by omega) (l_19.getD j [])) rfl (fun _ _ => trivial)) ?_
          rintro _ _ ⟨_, ⟨x_122, m_123, n_124, e_120, k_121, f_125, rfl, rfl⟩, rfl⟩
          refine ⟨(fun _ h => by cases h), ?_⟩
          refine JA.take 6 rfl (by kernel_rfl) (NP.th (NP.bl (NP.th (NP.th (NP.bl (NP.th NP.body)))))) (by kernel_rfl) (by kernel_rfl) (by kernel_rfl) rfl (LO.pure (PO.move (v := .tuple #[mv x_122 m_123, .int .i64 n_124]) rfl)) ?_
          refine JA.take 7 rfl (by kernel_rfl) (NP.th (NP.bl (NP.th (NP.th (NP.bl (NP.th NP.body)))))) (by kernel_rfl) (by kernel_rfl) (by kernel_rfl) rfl (LO.pure (PO.extract (v := mv x_122 m_123) rfl rfl)) ?_
          refine JA.take 8 rfl (by kernel_rfl) (NP.th (NP.bl (NP.th (NP.th (NP.bl (NP.th NP.body)))))) (by kernel_rfl) (by kernel_rfl) (by kernel_rfl) rfl (LO.pure (PO.extract (v := .int .i64 n_124) rfl rfl)) ?_
          refine JA.one (i := 9) (by kernel_rfl) ?_
          refine JX.op rfl rfl (JO.store 3 (vs := [.slice x_122.a0 m_123.s.length x_122.c0, .slice x_122.a1 m_123.r.length x_122.c1, .slice x_122.a2 m_123.w.length x_122.c2]) (cs' := [.slice x_122.a0 m_123.s.length x_122.c0, .slice x_122.a1 m_123.r.length x_122.c1, .slice x_122.a2 m_123.w.length x_122.c2]) rfl he_23 rfl rfl Tryz.sizeOf32 rfl rfl (Nat.le_of_ble_eq_true rfl) rfl) ?_
          rintro _ _ rfl
          refine ⟨(fun _ h => by cases h), ?_⟩
          refine JA.take 10 rfl (by kernel_rfl) (NP.th (NP.bl (NP.th (NP.th (NP.bl (NP.th NP.body)))))) (by kernel_rfl) (by kernel_rfl) (by kernel_rfl) rfl (LO.pure (PO.assign (v := .int .i64 n_124) rfl)) ?_
          refine JA.done (by kernel_rfl) ?_
          refine JQ.seq ?_
          refine JC.seq ?_
          refine JC.region ?_
          refine JL.pure rfl (PO.move (v := .int .i64 n_124) rfl) ?_
          refine JL.pure rfl (PO.move (v := .int .i64 n_8) he_27) ?_
          refine JL.pure rfl (PO.move (v := .int .i64 n) he_22) ?_
          refine JL.pure rfl (PO.add (c := n_8 + n) rfl rfl (wr (by omega))) ?_
          refine JL.pure rfl (PO.leq rfl rfl) ?_
          refine JL.nil ?_
          refine JQ.seq ?_
          by_cases h_126 : n_124 ≤ (n_8 + n)
          · skip
            refine JC.condT (congrArg Value.bool (decide_eq_true h_126)) ?_
            refine JC.seq ?_
            refine JC.regionA [mb b_1 x_122 m_123] 6 mixed (by simp) ?_
            refine JA.take 0 rfl (by kernel_rfl) (NP.th (NP.bl (NP.th (NP.th (NP.bl (NP.th NP.body)))))) (by kernel_rfl) (by kernel_rfl) (by kernel_rfl) rfl (LO.loadK 0 (vs := [.slice x_122.a0 m_123.s.length x_122.c0, .slice x_122.a1 m_123.r.length x_122.c1, .slice x_122.a2 m_123.w.length x_122.c2]) rfl he_23 Tryz.isAgg32 Tryz.sizeOf32 rfl rfl) ?_
            refine JA.take 1 rfl (by kernel_rfl) (NP.th (NP.bl (NP.th (NP.th (NP.bl (NP.th NP.body)))))) (by kernel_rfl) (by kernel_rfl) (by kernel_rfl) rfl (LO.pure (PO.move (v := .slice l_19a l_19.length l_19c) he_28)) ?_
            refine JA.take 2 rfl (by kernel_rfl) (NP.th (NP.bl (NP.th (NP.th (NP.bl (NP.th NP.body)))))) (by kernel_rfl) (by kernel_rfl) (by kernel_rfl) rfl (LO.pure (PO.move (v := .int .i64 ((j : Nat) : Int)) he_30)) ?_
            refine JA.take 3 rfl (by kernel_rfl) (NP.th (NP.bl (NP.th (NP.th (NP.bl (NP.th NP.body)))))) (by kernel_rfl) (by kernel_rfl) (by kernel_rfl) rfl (LO.pure (PO.indexAddrV (i := j) Tryz.underlying23 Tryz.sizeOf9 hr_32 hr_32b rfl rfl (by omega))) ?_
            refine JA.one (i := 4) (by kernel_rfl) ?_
            refine JX.op rfl rfl (JO.ofLO (LO.loadR1 4 (v := str (l_19.getD j [])) rfl rfl Tryz.isAgg9 (atS (by omega)))) ?_
            rintro _ _ ⟨rfl, rfl⟩
            refine ⟨(by simp), ?_⟩
            refine JA.one (i := 5) (by kernel_rfl) ?_
            refine JX.op rfl rfl (JO.call [0, 0, 0] Tryz.call80 rfl (N_sLayNil x_122 m_123 k_121 (by omega) (by omega) (l_19.getD j []) (by omega)) rfl (fun _ _ => trivial)) ?_
            rintro _ _ ⟨_, ⟨x_133, m_134, e_131, k_132, rfl, rfl⟩, rfl⟩
            refine ⟨(by simp), ?_⟩
            refine JA.one (i := 6) (by kernel_rfl) ?_
            refine JX.last rfl rfl rfl (by kernel_rfl) (JO.store 3 (vs := [.slice x_133.a0 m_134.s.length x_133.c0, .slice x_133.a1 m_134.r.length x_133.c1, .slice x_133.a2 m_134.w.length x_133.c2]) (cs' := [.slice x_133.a0 m_134.s.length x_133.c0, .slice x_133.a1 m_134.r.length x_133.c1, .slice x_133.a2 m_134.w.length x_133.c2]) rfl he_23 rfl rfl Tryz.sizeOf32 rfl rfl (Nat.le_of_ble_eq_true rfl) rfl) ?_
            rintro _ _ rfl
            refine JQ.seq ?_
            refine JC.seq ?_
            refine JC.regionA [] 1000 mixed (by simp) ?_
            refine JA.take 1 rfl (by kernel_rfl) (NP.th (NP.bl (NP.th (NP.th (NP.bl (NP.th NP.body)))))) (by kernel_rfl) (by kernel_rfl) (by kernel_rfl) rfl (LO.pure (PO.move (v := .slice l_19a l_19.length l_19c) he_28)) ?_
            refine JA.take 2 rfl (by kernel_rfl) (NP.th (NP.bl (NP.th (NP.th (NP.bl (NP.th NP.body)))))) (by kernel_rfl) (by kernel_rfl) (by kernel_rfl) rfl (LO.pure (PO.move (v := .int .i64 ((j : Nat) : Int)) he_30)) ?_
            refine JA.take 3 rfl (by kernel_rfl) (NP.th (NP.bl (NP.th (NP.th (NP.bl (NP.th NP.body)))))) (by kernel_rfl) (by kernel_rfl) (by kernel_rfl) rfl (LO.pure (PO.indexAddrV (i := j) Tryz.underlying23 Tryz.sizeOf9 hr_32 hr_32b rfl rfl (by omega))) ?_
            refine JA.two (i := 0) (j := 4) (by kernel_rfl) ?_ ?_
            · skip
              refine JX.op rfl rfl (JO.ofLO (LO.loadK 3 (vs := [.slice x_133.a0 m_134.s.length x_133.c0, .slice x_133.a1 m_134.r.length x_133.c1, .slice x_133.a2 m_134.w.length x_133.c2]) rfl he_23 Tryz.isAgg32 Tryz.sizeOf32 rfl rfl)) ?_
              rintro _ _ ⟨rfl, rfl⟩
              refine ⟨(fun _ h => by cases h), ?_⟩
              refine JA.one (i := 4) (by kernel_rfl) ?_
              refine JX.op rfl rfl (JO.ofLO (LO.loadR1 4 (v := str (l_19.getD j [])) rfl rfl Tryz.isAgg9 (atS (by omega)))) ?_
              rintro _ _ ⟨rfl, rfl⟩
              refine ⟨(fun _ h => by cases h), ?_⟩
              refine JA.take 5 rfl (by kernel_rfl) (NP.th (NP.bl (NP.th (NP.th (NP.bl (NP.th NP.body)))))) (by kernel_rfl) (by kernel_rfl) (by kernel_rfl) rfl (LO.pure (PO.sliceSl (i := 2) Tryz.underlying9 rfl rfl (by omega))) ?_
              refine JA.one (i := 6) (by kernel_rfl) ?_
              refine JX.op rfl rfl (JO.call [] Tryz.call117 rfl (N_sNumOf ((l_19.getD j []).drop 2) (by first | omega | (simp only [List.length_append, List.length_cons, List.length_nil, List.length_take, List.length_drop]; omega))) rfl (fun _ _ => trivial)) ?_
              rintro _ _ ⟨_, ⟨n_141, e_139, f_142, rfl, rfl⟩, rfl⟩
              refine ⟨(fun _ h => by cases h), ?_⟩
              refine JA.one (i := 7) (by kernel_rfl) ?_
              refine JX.op rfl rfl (JO.call [0, 0, 0] Tryz.call61 rfl (M_send x_133 m_134 k_132 (by omega) (by omega) n_141 14 (by omega) (by omega)) rfl (fun _ _ => trivial)) ?_
              rintro _ _ ⟨_, ⟨x_151, m_152, n_153, e_149, k_150, f_154, rfl, rfl⟩, rfl⟩
              refine ⟨(fun _ h => by cases h), ?_⟩
              refine JA.take 8 rfl (by kernel_rfl) (NP.th (NP.bl (NP.th (NP.th (NP.bl (NP.th NP.body)))))) (by kernel_rfl) (by kernel_rfl) (by kernel_rfl) rfl (LO.pure (PO.move (v := .tuple #[mv x_151 m_152, .int .i64 n_153]) rfl)) ?_
              refine JA.take 9 rfl (by kernel_rfl) (NP.th (NP.bl (NP.th (NP.th (NP.bl (NP.th NP.body)))))) (by kernel_rfl) (by kernel_rfl) (by kernel_rfl) rfl (LO.pure (PO.extract (v := mv x_151 m_152) rfl rfl)) ?_
              refine JA.take 10 rfl (by kernel_rfl) (NP.th (NP.bl (NP.th (NP.th (NP.bl (NP.th NP.body)))))) (by kernel_rfl) (by kernel_rfl) (by kernel_rfl) rfl (LO.pure (PO.extract (v := .int .i64 n_153) rfl rfl)) ?_
              refine JA.one (i := 11) (by kernel_rfl) ?_
              refine JX.op rfl rfl (JO.store 3 (vs := [.slice x_151.a0 m_152.s.length x_151.c0, .slice x_151.a1 m_152.r.length x_151.c1, .slice x_151.a2 m_152.w.length x_151.c2]) (cs' := [.slice x_151.a0 m_152.s.length x_151.c0, .slice x_151.a1 m_152.r.length x_151.c1, .slice x_151.a2 m_152.w.length x_151.c2]) rfl he_23 rfl rfl Tryz.sizeOf32 rfl rfl (Nat.le_of_ble_eq_true rfl) rfl) ?_
              rintro _ _ rfl
              refine ⟨(fun _ h => by cases h), ?_⟩
              refine JA.done (by kernel_rfl) ?_
              refine JQ.seq ?_
              refine JC.region ?_
              refine JL.pure rfl (PO.move (v := .int .i64 kv9_) he_29) ?_
              refine JL.pure rfl (PO.add (c := kv9_ + 1) rfl rfl (wr (by omega))) ?_
              refine JL.pure rfl (PO.assign (v := .int .i64 (kv9_ + 1)) rfl) ?_
              refine JL.nil ?_
              refine JQ.blockN ?_
              refine JQ.seq ?_
              refine JC.region ?_
              refine JL.pure rfl (PO.move (v := .int .i64 ((j : Nat) : Int)) he_30) ?_
              refine JL.pure rfl (PO.add (c := ((j + 1 : Nat) : Int)) rfl rfl (wr (by omega))) ?_
              refine JL.pure rfl (PO.assign (v := .int .i64 ((j + 1 : Nat) : Int)) rfl) ?_
              refine JL.nil ?_
              refine JQ.pick [3, 0, 0, 0, 0, 0] (A := [mb b_1 x_151 m_152, rC x_151.a0 x_151.c0 m_152.s, rS x_151.a1 x_151.c1 m_152.r, rS x_151.a2 x_151.c2 m_152.w, rS l_19a l_19c l_19, bk b_2 32 [.slice none 0 0, .slice none 0 0, .slice none 0 0]]) rfl ?_
              refine JQ.again (l_19.length - (j + 1)) (by omega) ⟨j + 1, x_151, m_152, (kv9_ + 1), by omega, (k_150.mono (by omega) (by omega)), (by first | omega | (simp only [List.length_append, List.length_cons, List.length_nil, List.length_take, List.length_drop]; omega)), (by rw [drop_at (getD_some (d := []) hlt)] at hR; simp only [MS.tickL, h_3, e_4, h_10, e_11, e_15, h_31, e_120, h_126, e_131, e_139, e_149, if_true, if_false, Bool.false_eq_true, Bool.not_true, Bool.not_false] at hR; (repeat (first | rw [if_pos (by omega)] at hR | rw [if_neg (by omega)] at hR)); exact hR), he_22, he_23, he_24, he_25, he_26, he_27, he_28, rfl, rfl, rfl, rfl⟩
            · skip
              refine JX.op rfl rfl (JO.ofLO (LO.loadR1 4 (v := str (l_19.getD j [])) rfl rfl Tryz.isAgg9 (atS (by omega)))) ?_
              rintro _ _ ⟨rfl, rfl⟩
              refine ⟨(fun _ h => by cases h), ?_⟩
              refine JA.take 5 rfl (by kernel_rfl) (NP.th (NP.bl (NP.th (NP.th (NP.bl (NP.th NP.body)))))) (by kernel_rfl) (by kernel_rfl) (by kernel_rfl) rfl (LO.pure (PO.sliceSl (i := 2) Tryz.underlying9 rfl rfl (by omega))) ?_
              refine JA.two (i := 0) (j := 6) (by kernel_rfl) ?_ ?_
              · skip
                refine JX.op rfl rfl (JO.ofLO (LO.loadK 3 (vs := [.slice x_133.a0 m_134.s.length x_133.c0, .slice x_133.a1 m_134.r.length x_133.c1, .slice x_133.a2 m_134.w.length x_133.c2]) rfl he_23 Tryz.isAgg32 Tryz.sizeOf32 rfl rfl)) ?_
                rintro _ _ ⟨rfl, rfl⟩
                refine ⟨(fun _ h => by cases h), ?_⟩
                refine JA.one (i := 6) (by kernel_rfl) ?_
                refine JX.op rfl rfl (JO.call [] Tryz.call117 rfl (N_sNumOf ((l_19.getD j []).drop 2) (by first | omega | (simp only [List.length_append, List.length_cons, List.length_nil, List.length_take, List.length_drop]; omega))) rfl (fun _ _ => trivial)) ?_
                rintro _ _ ⟨_, ⟨n_165, e_163, f_166, rfl, rfl⟩, rfl⟩
                refine ⟨(fun _ h => by cases h), ?_⟩
                refine JA.one (i := 7) (by kernel_rfl) ?_
                refine JX.op rfl rfl (JO.call [0, 0, 0] Tryz.call61 rfl (M_send x_133 m_134 k_132 (by omega) (by omega) n_165 14 (by omega) (by omega)) rfl (fun _ _ => trivial)) ?_
                rintro _ _ ⟨_, ⟨x_175, m_176, n_177, e_173, k_174, f_178, rfl, rfl⟩, rfl⟩
                refine ⟨(fun _ h => by cases h), ?_⟩
                refine JA.take 8 rfl (by kernel_rfl) (NP.th (NP.bl (NP.th (NP.th (NP.bl (NP.th NP.body)))))) (by kernel_rfl) (by kernel_rfl) (by kernel_rfl) rfl (LO.pure (PO.move (v := .tuple #[mv x_175 m_176, .int .i64 n_177]) rfl)) ?_
                refine JA.take 9 rfl (by kernel_rfl) (NP.th (NP.bl (NP.th (NP.th (NP.bl (NP.th NP.body)))))) (by kernel_rfl) (by kernel_rfl) (by kernel_rfl) rfl (LO.pure (PO.extract (v := mv x_175 m_176) rfl rfl)) ?_
                refine JA.take 10 rfl (by kernel_rfl) (NP.th (NP.bl (NP.th (NP.th (NP.bl (NP.th NP.body)))))) (by kernel_rfl) (by kernel_rfl) (by kernel_rfl) rfl (LO.pure (PO.extract (v := .int .i64 n_177) rfl rfl)) ?_
                refine JA.one (i := 11) (by kernel_rfl) ?_
                refine JX.op rfl rfl (JO.store 3 (vs := [.slice x_175.a0 m_176.s.length x_175.c0, .slice x_175.a1 m_176.r.length x_175.c1, .slice x_175.a2 m_176.w.length x_175.c2]) (cs' := [.slice x_175.a0 m_176.s.length x_175.c0, .slice x_175.a1 m_176.r.length x_175.c1, .slice x_175.a2 m_176.w.length x_175.c2]) rfl he_23 rfl rfl Tryz.sizeOf32 rfl rfl (Nat.le_of_ble_eq_true rfl) rfl) ?_
                rintro _ _ rfl
                refine ⟨(fun _ h => by cases h), ?_⟩
                refine JA.done (by kernel_rfl) ?_
                refine JQ.seq ?_
                refine JC.region ?_
                refine JL.pure rfl (PO.move (v := .int .i64 kv9_) he_29) ?_
                refine JL.pure rfl (PO.add (c := kv9_ + 1) rfl rfl (wr (by omega))) ?_
                refine JL.pure rfl (PO.assign (v := .int .i64 (kv9_ + 1)) rfl) ?_
                refine JL.nil ?_
                refine JQ.blockN ?_
                refine JQ.seq ?_
                refine JC.region ?_
                refine JL.pure rfl (PO.move (v := .int .i64 ((j : Nat) : Int)) he_30) ?_
                refine JL.pure rfl (PO.add (c := ((j + 1 : Nat) : Int)) rfl rfl (wr (by omega))) ?_
                refine JL.pure rfl (PO.assign (v := .int .i64 ((j + 1 : Nat) : Int)) rfl) ?_
                refine JL.nil ?_
                refine JQ.pick [3, 0, 0, 0, 0, 0] (A := [mb b_1 x_175 m_176, rC x_175.a0 x_175.c0 m_176.s, rS x_175.a1 x_175.c1 m_176.r, rS x_175.a2 x_175.c2 m_176.w, rS l_19a l_19c l_19, bk b_2 32 [.slice none 0 0, .slice none 0 0, .slice none 0 0]]) rfl ?_
                refine JQ.again (l_19.length - (j + 1)) (by omega) ⟨j + 1, x_175, m_176, (kv9_ + 1), by omega, (k_174.mono (by omega) (by omega)), (by first | omega | (simp only [List.length_append, List.length_cons, List.length_nil, List.length_take, List.length_drop]; omega)), (by rw [drop_at (getD_some (d := []) hlt)] at hR; simp only [MS.tickL, h_3, e_4, h_10, e_11, e_15, h_31, e_120, h_126, e_131, e_163, e_173, if_true, if_false, Bool.false_eq_true, Bool.not_true, Bool.not_false] at hR; (repeat (first | rw [if_pos (by omega)] at hR | rw [if_neg (by omega)] at hR)); exact hR), he_22, he_23, he_24, he_25, he_26, he_27, he_28, rfl, rfl, rfl, rfl⟩
              · skip
                refine JX.op rfl rfl (JO.call [] Tryz.call117 rfl (N_sNumOf ((l_19.getD j []).drop 2) (by first | omega | (simp only [List.length_append, List.length_cons, List.length_nil, List.length_take, List.length_drop]; omega))) rfl (fun _ _ => trivial)) ?_
                rintro _ _ ⟨_, ⟨n_181, e_179, f_182, rfl, rfl⟩, rfl⟩
                refine ⟨(fun _ h => by cases h), ?_⟩
                refine JA.one (i := 0) (by kernel_rfl) ?_
                refine JX.op rfl rfl (JO.ofLO (LO.loadK 3 (vs := [.slice x_133.a0 m_134.s.length x_133.c0, .slice x_133.a1 m_134.r.length x_133.c1, .slice x_133.a2 m_134.w.length x_133.c2]) rfl he_23 Tryz.isAgg32 Tryz.sizeOf32 rfl rfl)) ?_
                rintro _ _ ⟨rfl, rfl⟩
                refine ⟨(fun _ h => by cases h), ?_⟩
                refine JA.one (i := 7) (by kernel_rfl) ?_
                refine JX.op rfl rfl (JO.call [0, 0, 0] Tryz.call61 rfl (M_send x_133 m_134 k_132 (by omega) (by omega) n_181 14 (by omega) (by omega)) rfl (fun _ _ => trivial)) ?_
                rintro _ _ ⟨_, ⟨x_191, m_192, n_193, e_189, k_190, f_194, rfl, rfl⟩, rfl⟩
                refine ⟨(fun _ h => by cases h), ?_⟩
                refine JA.take 8 rfl (by kernel_rfl) (NP.th (NP.bl (NP.th (NP.th (NP.bl (NP.th NP.body)))))) (by kernel_rfl) (by kernel_rfl) (by kernel_rfl) rfl (LO.pure (PO.move (v := .tuple #[mv x_191 m_192, .int .i64 n_193]) rfl)) ?_
                refine JA.take 9 rfl (by kernel_rfl) (NP.th (NP.bl (NP.th (NP.th (NP.bl (NP.th NP.body)))))) (by kernel_rfl) (by kernel_rfl) (by kernel_rfl) rfl (LO.pure (PO.extract (v := mv x_191 m_192) rfl rfl)) ?_
                refine JA.take 10 rfl (by kernel_rfl) (NP.th (NP.bl (NP.th (NP.th (NP.bl (NP.th NP.body)))))) (by kernel_rfl) (by kernel_rfl) (by kernel_rfl) rfl (LO.pure (PO.extract (v := .int .i64 n_193) rfl rfl)) ?_
                refine JA.one (i := 11) (by kernel_rfl) ?_
                refine JX.op rfl rfl (JO.store 3 (vs := [.slice x_191.a0 m_192.s.length x_191.c0, .slice x_191.a1 m_192.r.length x_191.c1, .slice x_191.a2 m_192.w.length x_191.c2]) (cs' := [.slice x_191.a0 m_192.s.length x_191.c0, .slice x_191.a1 m_192.r.length x_191.c1, .slice x_191.a2 m_192.w.length x_191.c2]) rfl he_23 rfl rfl Tryz.sizeOf32 rfl rfl (Nat.le_of_ble_eq_true rfl) rfl) ?_
                rintro _ _ rfl
                refine ⟨(fun _ h => by cases h), ?_⟩
                refine JA.done (by kernel_rfl) ?_
                refine JQ.seq ?_
                refine JC.region ?_
                refine JL.pure rfl (PO.move (v := .int .i64 kv9_) he_29) ?_
                refine JL.pure rfl (PO.add (c := kv9_ + 1) rfl rfl (wr (by omega))) ?_
                refine JL.pure rfl (PO.assign (v := .int .i64 (kv9_ + 1)) rfl) ?_
                refine JL.nil ?_
                refine JQ.blockN ?_
                refine JQ.seq ?_
                refine JC.region ?_
                refine JL.pure rfl (PO.move (v := .int .i64 ((j : Nat) : Int)) he_30) ?_
                refine JL.pure rfl (PO.add (c := ((j + 1 : Nat) : Int)) rfl rfl (wr (by omega))) ?_
                refine JL.pure rfl (PO.assign (v := .int .i64 ((j + 1 : Nat) : Int)) rfl) ?_
                refine JL.nil ?_
                refine JQ.pick [3, 0, 0, 0, 0, 0] (A := [mb b_1 x_191 m_192, rC x_191.a0 x_191.c0 m_192.s, rS x_191.a1 x_191.c1 m_192.r, rS x_191.a2 x_191.c2 m_192.w, rS l_19a l_19c l_19, bk b_2 32 [.slice none 0 0, .slice none 0 0, .slice none 0 0]]) rfl ?_
                refine JQ.again (l_19.length - (j + 1)) (by omega) ⟨j + 1, x_191, m_192, (kv9_ + 1), by omega, (k_190.mono (by omega) (by omega)), (by first | omega | (simp only [List.length_append, List.length_cons, List.length_nil, List.length_take, List.length_drop]; omega)), (by rw [drop_at (getD_some (d := []) hlt)] at hR; simp only [MS.tickL, h_3, e_4, h_10, e_11, e_15, h_31, e_120, h_126, e_131, e_179, e_189, if_true, if_false, Bool.false_eq_true, Bool.not_true, Bool.not_false] at hR; (repeat (first | rw [if_pos (by omega)] at hR | rw [if_neg (by omega)] at hR)); exact hR), he_22, he_23, he_24, he_25, he_26, he_27, he_28, rfl, rfl, rfl, rfl⟩
          · skip
            refine JC.condF (congrArg Value.bool (decide_eq_false h_126)) ?_
            refine JC.skip ?_
            refine JQ.blockN ?_
            refine JQ.seq ?_
            refine JC.region ?_
            refine JL.pure rfl (PO.move (v := .int .i64 ((j : Nat) : Int)) he_30) ?_
            refine JL.pure rfl (PO.add (c := ((j + 1 : Nat) : Int)) rfl rfl (wr (by omega))) ?_
            refine JL.pure rfl (PO.assign (v := .int .i64 ((j + 1 : Nat) : Int)) rfl) ?_
            refine JL.nil ?_
            refine JQ.pick [3, 0, 0, 0, 0, 0] (A := [mb b_1 x_122 m_123, rC x_122.a0 x_122.c0 m_123.s, rS x_122.a1 x_122.c1 m_123.r, rS x_122.a2 x_122.c2 m_123.w, rS l_19a l_19c l_19, bk b_2 32 [.slice none 0 0, .slice none 0 0, .slice none 0 0]]) rfl ?_
            refine JQ.again (l_19.length - (j + 1)) (by omega) ⟨j + 1, x_122, m_123, kv9_, by omega, (k_121.mono (by omega) (by omega)), (by first | omega | (simp only [List.length_append, List.length_cons, List.length_nil, List.length_take, List.length_drop]; omega)), (by rw [drop_at (getD_some (d := []) hlt)] at hR; simp only [MS.tickL, h_3, e_4, h_10, e_11, e_15, h_31, e_120, h_126, if_true, if_false, Bool.false_eq_true, Bool.not_true, Bool.not_false] at hR; (repeat (first | rw [if_pos (by omega)] at hR | rw [if_neg (by omega)] at hR)); exact hR), he_22, he_23, he_24, he_25, he_26, he_27, he_28, he_29, rfl, rfl, rfl⟩
      · skip
        rw [List.drop_of_length_le (by omega)] at hR
        simp only [MS.tickL] at hR
        have hE := hR.symm
        refine JC.condF (congrArg Value.bool (decide_eq_false h_31)) ?_
        refine JC.exit ?_
        refine JQ.thenExit ?_
        refine JQ.thenExit ?_
        refine JQ.blockE ?_
        refine JQ.seq ?_
        refine JC.seq ?_
        refine JC.region ?_
        refine JL.ld rfl (LO.loadK 0 (vs := [.slice x.a0 mm.s.length x.c0, .slice x.a1 mm.r.length x.c1, .slice x.a2 mm.w.length x.c2]) rfl he_23 Tryz.isAgg32 Tryz.sizeOf32 rfl rfl) ?_
        refine JL.pure rfl (PO.move (v := .int .i64 kv9_) he_29) ?_
        refine JL.op rfl (JO.store 5 (vs := [.slice x.a0 mm.s.length x.c0, .slice x.a1 mm.r.length x.c1, .slice x.a2 mm.w.length x.c2]) (cs' := [.slice x.a0 mm.s.length x.c0, .slice x.a1 mm.r.length x.c1, .slice x.a2 mm.w.length x.c2]) rfl he_24 rfl rfl Tryz.sizeOf32 rfl rfl (Nat.le_of_ble_eq_true rfl) rfl) ?_
        rintro _ _ rfl
        refine JL.pure rfl (PO.assign (v := .int .i64 kv9_) rfl) ?_
        refine JL.pure rfl (PO.assign (v := .int .i64 0) rfl) ?_
        refine JL.nil ?_
        refine JQ.seq ?_
        refine JC.ret ?_
        refine JQ.perm (pick_perm [1, 1, 1] (A := [rC x.a0 x.c0 mm.s, rS x.a1 x.c1 mm.r, rS x.a2 x.c2 mm.w]) (F := [mb b_1 x mm, rS l_19a l_19c l_19, mb b_2 x mm]) rfl).symm ?_
        refine Done.three (.inl rfl) rfl (RV.cell1 (LO.loadK 5 (vs := [.slice x.a0 mm.s.length x.c0, .slice x.a1 mm.r.length x.c1, .slice x.a2 mm.w.length x.c2]) rfl he_24 Tryz.isAgg32 Tryz.sizeOf32 rfl rfl) ⟨_, he_24⟩) (RV.tmp (v := .int .i64 kv9_) rfl) (RV.tmp (v := .int .i64 0) rfl) (List.sublist_append_left [rC x.a0 x.c0 mm.s, rS x.a1 x.c1 mm.r, rS x.a2 x.c2 mm.w] [mb b_1 x mm, rS l_19a l_19c l_19, mb b_2 x mm]) ?_
        exact ⟨x, mm, kv9_, 0, (by simp only [MS.tick, h_3, e_4, h_10, e_11, e_15, h_31, hE, if_true, if_false, Bool.false_eq_true, Bool.not_true, Bool.not_false]; (repeat (first | rw [if_pos (by omega)] | rw [if_neg (by omega)])); all_goals (first | rfl | simp only [if_true, if_false, Bool.false_eq_true, Bool.not_true, Bool.not_false, h_3, e_4, h_10, e_11, e_15, h_31, hE])), (hkmm.mono (by omega) (by omega)), (by first | omega | (simp only [List.length_append, List.length_cons, List.length_nil, List.length_take, List.length_drop]; omega)), (by first | omega | (simp only [List.length_append, List.length_cons, List.length_nil, List.length_take, List.length_drop]; omega)), rfl, rfl⟩

theorem P_tick (x : MA) (m : MS) {S T : Nat} (hk : m.ok S T) (hS : S ≤ 3000000) (hT : T ≤ 3000000) (n : Int) (hn : -9223372036854775808 ≤ n ∧ n ≤ 9223372036854775807) :
    Ct Tryz.prog 38 [mv x m, .int .i64 n] ([]) (fun w => seesM w x m) (fun v A' => ∃ x' m' r0 r1, MS.tick m n = (m', r0, r1) ∧ m'.ok (3 * S + 3) (T + 7 * S + 10) ∧ (0 ≤ r0 ∧ r0 ≤ 1000000000) ∧ (0 ≤ r1 ∧ r1 ≤ 9) ∧ v = .tuple #[mv x' m', .int .i64 r0, .int .i64 r1] ∧ A' = mr x' m') := by
  refine Ct.intro Tryz.func38 rfl Tryz.ntmps38 (Nat.le_of_ble_eq_true rfl) fun w0 hpre => ?_
  have hs_x_a0 : Sees w0 _ _ _ _ := hpre.1
  have hs_x_a1 : Sees w0 _ _ _ _ := hpre.2.1
  have hs_x_a2 : Sees w0 _ _ _ _ := hpre.2.2
  refine JC.seq ?_
  refine JC.region ?_
  refine JL.op rfl (JO.box (cs := [.slice x.a0 m.s.length x.c0, .slice x.a1 m.r.length x.c1, .slice x.a2 m.w.length x.c2]) rfl rfl) ?_
  rintro _ _ ⟨b_1, rfl, rfl⟩
  refine JL.op rfl (JO.alloc (z := .agg #[.slice none 0 0, .slice none 0 0, .slice none 0 0]) (cs := [.slice none 0 0, .slice none 0 0, .slice none 0 0]) Tryz.zeroValue32 rfl) ?_
  rintro _ _ ⟨b_2, rfl, rfl⟩
  refine JL.pure rfl (PO.assign (v := .int .i64 0) rfl) ?_
  refine JL.pure rfl (PO.assign (v := .int .i64 0) rfl) ?_
  refine JL.nil ?_
  refine JQ.seq ?_
  refine JC.seq ?_
  refine JC.region ?_
  refine JL.ld rfl (LO.loadK 1 (vs := [.slice x.a0 m.s.length x.c0, .slice x.a1 m.r.length x.c1, .slice x.a2 m.w.length x.c2]) rfl rfl Tryz.isAgg32 Tryz.sizeOf32 rfl rfl) ?_
  refine JL.op rfl (JO.call [] Tryz.call47 rfl (N_clone x m hk (by omega) (by omega)) rfl (fun w hw => ⟨hw.seeOut_ hs_x_a0 (fun _ _ => List.not_mem_nil), hw.seeOut_ hs_x_a1 (fun _ _ => List.not_mem_nil), hw.seeOut_ hs_x_a2 (fun _ _ => List.not_mem_nil)⟩)) ?_
  rintro _ _ ⟨_, ⟨x_5, m_6, rfl, k_4, rfl, rfl⟩, rfl⟩
  refine JL.op rfl (JO.store 4 (vs := [.slice x_5.a0 m.s.length x_5.c0, .slice x_5.a1 m.r.length x_5.c1, .slice x_5.a2 m.w.length x_5.c2]) (cs' := [.slice x_5.a0 m.s.length x_5.c0, .slice x_5.a1 m.r.length x_5.c1, .slice x_5.a2 m.w.length x_5.c2]) rfl rfl rfl rfl Tryz.sizeOf32 rfl rfl (Nat.le_of_ble_eq_true rfl) rfl) ?_
  rintro _ _ rfl
  refine JL.nil ?_
  refine JQ.seq ?_
  refine JC.seq ?_
  refine JC.region ?_
  refine JL.pure rfl (PO.move (v := .int .i64 n) rfl) ?_
  refine JL.op rfl (JO.call [4, 0, 0, 0] Tryz.call72 rfl (N_tick b_1 x_5 m k_4 (by omega) (by omega) n (by omega)) rfl (fun _ _ => trivial)) ?_
  rintro _ _ ⟨_, ⟨x_9, m_10, n_11, n_13, e_7, k_8, f_12, f_14, rfl, rfl⟩, rfl⟩
  refine JL.pure rfl (PO.move (v := .tuple #[.int .i64 n_11, .int .i64 n_13]) rfl) ?_
  refine JL.pure rfl (PO.extract (v := .int .i64 n_11) rfl rfl) ?_
  refine JL.pure rfl (PO.extract (v := .int .i64 n_13) rfl rfl) ?_
  refine JL.pure rfl (PO.assign (v := .int .i64 n_11) rfl) ?_
  refine JL.pure rfl (PO.assign (v := .int .i64 n_13) rfl) ?_
  refine JL.nil ?_
  refine JQ.seq ?_
  refine JC.seq ?_
  refine JC.region ?_
  refine JL.ld rfl (LO.loadK 0 (vs := [.slice x_9.a0 m_10.s.length x_9.c0, .slice x_9.a1 m_10.r.length x_9.c1, .slice x_9.a2 m_10.w.length x_9.c2]) rfl rfl Tryz.isAgg32 Tryz.sizeOf32 rfl rfl) ?_
  refine JL.pure rfl (PO.move (v := .int .i64 n_11) rfl) ?_
  refine JL.pure rfl (PO.move (v := .int .i64 n_13) rfl) ?_
  refine JL.op rfl (JO.store 4 (vs := [.slice x_9.a0 m_10.s.length x_9.c0, .slice x_9.a1 m_10.r.length x_9.c1, .slice x_9.a2 m_10.w.length x_9.c2]) (cs' := [.slice x_9.a0 m_10.s.length x_9.c0, .slice x_9.a1 m_10.r.length x_9.c1, .slice x_9.a2 m_10.w.length x_9.c2]) rfl rfl rfl rfl Tryz.sizeOf32 rfl rfl (Nat.le_of_ble_eq_true rfl) rfl) ?_
  rintro _ _ rfl
  refine JL.pure rfl (PO.assign (v := .int .i64 n_11) rfl) ?_
  refine JL.pure rfl (PO.assign (v := .int .i64 n_13) rfl) ?_
  refine JL.nil ?_
  refine JQ.seq ?_
  refine JC.ret ?_
  refine JQ.perm (pick_perm [1, 1, 1] (A := [rC x_9.a0 x_9.c0 m_10.s, rS x_9.a1 x_9.c1 m_10.r, rS x_9.a2 x_9.c2 m_10.w]) (F := [mb b_1 x_9 m_10, mb b_2 x_9 m_10]) rfl).symm ?_
  refine Done.three (.inl rfl) rfl (RV.cell1 (LO.loadK 4 (vs := [.slice x_9.a0 m_10.s.length x_9.c0, .slice x_9.a1 m_10.r.length x_9.c1, .slice x_9.a2 m_10.w.length x_9.c2]) rfl rfl Tryz.isAgg32 Tryz.sizeOf32 rfl rfl) ⟨_, rfl⟩) (RV.tmp (v := .int .i64 n_11) rfl) (RV.tmp (v := .int .i64 n_13) rfl) (List.sublist_append_left [rC x_9.a0 x_9.c0 m_10.s, rS x_9.a1 x_9.c1 m_10.r, rS x_9.a2 x_9.c2 m_10.w] [mb b_1 x_9 m_10, mb b_2 x_9 m_10]) ?_
  exact ⟨x_9, m_10, n_11, n_13, (by simp only [if_true, e_7, if_true, if_false, Bool.false_eq_true, Bool.not_true, Bool.not_false]; (repeat (first | rw [if_pos (by omega)] | rw [if_neg (by omega)])); all_goals (first | rfl | simp only [if_true, if_false, Bool.false_eq_true, Bool.not_true, Bool.not_false, e_7])), (k_8.mono (by omega) (by omega)), (by first | omega | (simp only [List.length_append, List.length_cons, List.length_nil, List.length_take, List.length_drop]; omega)), (by first | omega | (simp only [List.length_append, List.length_cons, List.length_nil, List.length_take, List.length_drop]; omega)), rfl, rfl⟩

theorem Q_tick (x : MA) (m : MS) {S T : Nat} (hk : m.ok S T) (hS : S ≤ 3000000) (hT : T ≤ 3000000) (n : Int) (hn : -9223372036854775808 ≤ n ∧ n ≤ 9223372036854775807) :
    Ct Tryz.prog 37 [mv x m, .int .i64 n] ([]) (fun w => seesM w x m) (fun v A' => ∃ x' m' r0 r1, MS.tick m n = (m', r0, r1) ∧ m'.ok (3 * S + 3) (T + 7 * S + 10) ∧ (0 ≤ r0 ∧ r0 ≤ 1000000000) ∧ (0 ≤ r1 ∧ r1 ≤ 9) ∧ v = .tuple #[mv x' m', .int .i64 r0, .int .i64 r1] ∧ A' = mr x' m') := by
  refine Ct.intro Tryz.func37 rfl Tryz.ntmps37 (Nat.le_of_ble_eq_true rfl) fun w0 hpre => ?_
  have hs_x_a0 : Sees w0 _ _ _ _ := hpre.1
  have hs_x_a1 : Sees w0 _ _ _ _ := hpre.2.1
  have hs_x_a2 : Sees w0 _ _ _ _ := hpre.2.2
  refine JC.seq ?_
  refine JC.region ?_
  refine JL.op rfl (JO.box (cs := [.slice x.a0 m.s.length x.c0, .slice x.a1 m.r.length x.c1, .slice x.a2 m.w.length x.c2]) rfl rfl) ?_
  rintro _ _ ⟨b_1, rfl, rfl⟩
  refine JL.op rfl (JO.alloc (z := .agg #[.slice none 0 0, .slice none 0 0, .slice none 0 0]) (cs := [.slice none 0 0, .slice none 0 0, .slice none 0 0]) Tryz.zeroValue32 rfl) ?_
  rintro _ _ ⟨b_2, rfl, rfl⟩
  refine JL.pure rfl (PO.assign (v := .int .i64 0) rfl) ?_
  refine JL.pure rfl (PO.assign (v := .int .i64 0) rfl) ?_
  refine JL.nil ?_
  refine JQ.seq ?_
  refine JC.seq ?_
  refine JC.region ?_
  refine JL.ld rfl (LO.loadK 1 (vs := [.slice x.a0 m.s.length x.c0, .slice x.a1 m.r.length x.c1, .slice x.a2 m.w.length x.c2]) rfl rfl Tryz.isAgg32 Tryz.sizeOf32 rfl rfl) ?_
  refine JL.op rfl (JO.call [] Tryz.call44 rfl (N_copy x m hk (by omega) (by omega)) rfl (fun w hw => ⟨hw.seeOut_ hs_x_a0 (fun _ _ => List.not_mem_nil), hw.seeOut_ hs_x_a1 (fun _ _ => List.not_mem_nil), hw.seeOut_ hs_x_a2 (fun _ _ => List.not_mem_nil)⟩)) ?_
  rintro _ _ ⟨_, ⟨x_5, m_6, rfl, k_4, rfl, rfl⟩, rfl⟩
  refine JL.pure rfl (PO.move (v := .int .i64 n) rfl) ?_
  refine JL.op rfl (JO.call [0, 0, 0] Tryz.call71 rfl (M_tick x_5 m k_4 (by omega) (by omega) n (by omega)) rfl (fun _ _ => trivial)) ?_
  rintro _ _ ⟨_, ⟨x_9, m_10, n_11, n_13, e_7, k_8, f_12, f_14, rfl, rfl⟩, rfl⟩
  refine JL.pure rfl (PO.extract (v := mv x_9 m_10) rfl rfl) ?_
  refine JL.pure rfl (PO.extract (v := .int .i64 n_11) rfl rfl) ?_
  refine JL.pure rfl (PO.extract (v := .int .i64 n_13) rfl rfl) ?_
  refine JL.op rfl (JO.store 3 (vs := [.slice x_9.a0 m_10.s.length x_9.c0, .slice x_9.a1 m_10.r.length x_9.c1, .slice x_9.a2 m_10.w.length x_9.c2]) (cs' := [.slice x_9.a0 m_10.s.length x_9.c0, .slice x_9.a1 m_10.r.length x_9.c1, .slice x_9.a2 m_10.w.length x_9.c2]) rfl rfl rfl rfl Tryz.sizeOf32 rfl rfl (Nat.le_of_ble_eq_true rfl) rfl) ?_
  rintro _ _ rfl
  refine JL.pure rfl (PO.assign (v := .int .i64 n_11) rfl) ?_
  refine JL.pure rfl (PO.assign (v := .int .i64 n_13) rfl) ?_
  refine JL.nil ?_
  refine JQ.seq ?_
  refine JC.ret ?_
  refine Done.three (.inl rfl) rfl (RV.cell1 (LO.loadK 3 (vs := [.slice x_9.a0 m_10.s.length x_9.c0, .slice x_9.a1 m_10.r.length x_9.c1, .slice x_9.a2 m_10.w.length x_9.c2]) rfl rfl Tryz.isAgg32 Tryz.sizeOf32 rfl rfl) ⟨_, rfl⟩) (RV.tmp (v := .int .i64 n_11) rfl) (RV.tmp (v := .int .i64 n_13) rfl) (List.sublist_append_left [rC x_9.a0 x_9.c0 m_10.s, rS x_9.a1 x_9.c1 m_10.r, rS x_9.a2 x_9.c2 m_10.w] [mb b_2 x_9 m_10, mb b_1 x m]) ?_
  exact ⟨x_9, m_10, n_11, n_13, (by simp only [if_true, e_7, if_true, if_false, Bool.false_eq_true, Bool.not_true, Bool.not_false]; (repeat (first | rw [if_pos (by omega)] | rw [if_neg (by omega)])); all_goals (first | rfl | simp only [if_true, if_false, Bool.false_eq_true, Bool.not_true, Bool.not_false, e_7])), (k_8.mono (by omega) (by omega)), (by first | omega | (simp only [List.length_append, List.length_cons, List.length_nil, List.length_take, List.length_drop]; omega)), (by first | omega | (simp only [List.length_append, List.length_cons, List.length_nil, List.length_take, List.length_drop]; omega)), rfl, rfl⟩

end Go.Proofs.YtdjecfpmjjjplaaGreatDoor
