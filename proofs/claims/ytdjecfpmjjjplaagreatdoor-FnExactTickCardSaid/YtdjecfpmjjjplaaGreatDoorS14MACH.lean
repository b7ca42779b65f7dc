/-
  Calls on a machine, in place and in the reference (part 14).
-/
import Derived.Test.YtdjecfpmjjjplaaGreatDoorS14MACHp1
set_option linter.unusedSimpArgs false
set_option linter.unusedVariables false
set_option linter.unnecessarySimpa false
namespace Go.Proofs.YtdjecfpmjjjplaaGreatDoor
open Go Go.RowKit
attribute [local irreducible] JL JC JQ JO LO PO JA JX Ct

theorem N_send (p : Nat) (x : MA) (m : MS) {S T : Nat} (hk : m.ok S T) (hS : S ≤ 50000000) (hT : T ≤ 50000000) (to_ : Int) (n : Int) (hto_ : -9223372036854775808 ≤ to_ ∧ to_ ≤ 9223372036854775807) (hn : -9223372036854775808 ≤ n ∧ n ≤ 9223372036854775807) :
    Ct Tryz.prog 62 [.pointer (some ⟨p, 0, none⟩), .int .i64 to_, .int .i64 n] (mb p x m :: mr x m) (fun _ => True) (fun v A' => ∃ x' m' r0, MS.send m to_ n = (m', r0) ∧ m'.ok (S + 2) (T + 5) ∧ (0 ≤ r0 ∧ r0 ≤ 9) ∧ v = .int .i64 r0 ∧ A' = mb p x' m' :: mr x' m') := by
  refine Ct.intro Tryz.func62 rfl Tryz.ntmps62 (Nat.le_of_ble_eq_true rfl) fun w0 hpre => ?_
  refine JC.seq ?_
  refine JC.region ?_
  refine JL.pure rfl (PO.assign (v := .int .i64 0) rfl) ?_
  refine JL.nil ?_
  refine JQ.seq ?_
  refine JC.seq ?_
  refine JC.seq ?_
  refine JC.region ?_
  refine JL.pure rfl (PO.move (v := .pointer (some ⟨p, 0, none⟩)) rfl) ?_
  refine JL.pure rfl (PO.move (v := .int .i64 to_) rfl) ?_
  refine JL.op rfl (JO.call [0, 0, 0, 0] Tryz.call100 rfl (N_state p x m hk (by omega) (by omega) to_ (by omega)) rfl (fun _ _ => trivial)) ?_
  rintro _ _ ⟨_, ⟨x_3, m_4, n_5, e_1, k_2, f_6, rfl, rfl⟩, rfl⟩
  refine JL.pure rfl (PO.neqI rfl rfl) ?_
  refine JL.nil ?_
  refine JQ.seq ?_
  by_cases h_7 : n_5 = 1
  · skip
    refine JC.condF (congrArg Value.bool (congrArg Bool.not (decide_eq_true h_7))) ?_
    refine JC.skip ?_
    refine JQ.seq ?_
    refine JC.seq ?_
    refine JC.seq ?_
    refine JC.region ?_
    refine JL.pure rfl (PO.move (v := .int .i64 n) rfl) ?_
    refine JL.op rfl (JO.call [] Tryz.call101 rfl (C_within n 1 31) rfl (fun _ _ => trivial)) ?_
    rintro _ _ ⟨_, ⟨rfl, rfl⟩, rfl⟩
    refine JL.pure rfl (PO.not rfl) ?_
    refine JL.nil ?_
    refine JQ.seq ?_
    rcases Bool.eq_false_or_eq_true (decide (1 ≤ n) && decide (n ≤ 31)) with h_8 | h_8
    · skip
      have h_8d := h_8
      simp only [Bool.and_eq_true, Bool.and_eq_false_iff, decide_eq_true_eq, decide_eq_false_iff_not] at h_8d
      refine JC.condF (congrArg Value.bool (congrArg Bool.not h_8)) ?_
      refine JC.skip ?_
      refine JQ.seq ?_
      refine JC.seq ?_
      refine JC.region ?_
      refine JL.pure rfl (PO.move (v := .pointer (some ⟨p, 0, none⟩)) rfl) ?_
      refine JL.pure rfl (PO.move (v := .int .i64 to_) rfl) ?_
      refine JL.op rfl (JO.call [] Tryz.call88 rfl (N_signalKey to_ [47, 116] (by omega) (show List.length ([47, 116] : Str) ≤ 2 by decide) (by omega)) rfl (fun _ _ => trivial)) ?_
      rintro _ _ ⟨_, ⟨u_11, e_9, f_12, rfl, rfl⟩, rfl⟩
      refine JL.op rfl (JO.call [0, 0, 0, 0] Tryz.call87 rfl (N_num p x_3 m_4 k_2 (by omega) (by omega) u_11) rfl (fun _ _ => trivial)) ?_
      rintro _ _ ⟨_, ⟨x_15, m_16, n_17, e_13, k_14, f_18, rfl, rfl⟩, rfl⟩
      refine JL.pure rfl (PO.assign (v := .int .i64 n_17) rfl) ?_
      refine JL.nil ?_
      refine JQ.seq ?_
      refine JC.seq ?_
      refine JC.region ?_
      refine JL.pure rfl (PO.move (v := .pointer (some ⟨p, 0, none⟩)) rfl) ?_
      refine JL.pure rfl (PO.move (v := .int .i64 to_) rfl) ?_
      refine JL.op rfl (JO.call [] Tryz.call88 rfl (N_signalKey to_ [47, 104] (by omega) (show List.length ([47, 104] : Str) ≤ 2 by decide) (by omega)) rfl (fun _ _ => trivial)) ?_
      rintro _ _ ⟨_, ⟨u_21, e_19, f_22, rfl, rfl⟩, rfl⟩
      refine JL.op rfl (JO.call [0, 0, 0, 0] Tryz.call87 rfl (N_num p x_15 m_16 k_14 (by omega) (by omega) u_21) rfl (fun _ _ => trivial)) ?_
      rintro _ _ ⟨_, ⟨x_25, m_26, n_27, e_23, k_24, f_28, rfl, rfl⟩, rfl⟩
      refine JL.pure rfl (PO.assign (v := .int .i64 n_27) rfl) ?_
      refine JL.nil ?_
      refine JQ.seq ?_
      refine JC.seq ?_
      refine JC.block ?_
      refine JC.seq ?_
      refine JC.region ?_
      refine JL.pure rfl (PO.move (v := .int .i64 n_17) rfl) ?_
      refine JL.pure rfl (PO.move (v := .int .i64 n_27) rfl) ?_
      refine JL.pure rfl (PO.sub (c := n_17 - n_27) rfl rfl (wr (by omega))) ?_
      refine JL.pure rfl (PO.geq rfl rfl) ?_
      refine JL.pure rfl (PO.assign (v := .bool (decide (4 ≤ (n_17 - n_27)))) rfl) ?_
      refine JL.nil ?_
      refine JQ.seq ?_
      by_cases h_29 : 4 ≤ (n_17 - n_27)
      · skip
        refine JC.condT (congrArg Value.bool (decide_eq_true h_29)) ?_
        refine JC.seq ?_
        refine JC.region ?_
        refine JL.pure rfl (PO.assign (v := .int .i64 5) rfl) ?_
        refine JL.nil ?_
        refine JQ.seq ?_
        refine JC.ret ?_
        refine JQ.blockRet ?_
        refine JQ.thenRet ?_
        refine Done.one (.inl rfl) rfl (RV.tmp (v := .int .i64 5) rfl) (List.Sublist.refl _) ?_
        exact ⟨x_25, m_26, 5, (by simp only [MS.send, e_1, h_7, h_8, e_9, e_13, e_19, e_23, h_29, if_true, if_false, Bool.false_eq_true, Bool.not_true, Bool.not_false]; (repeat (first | rw [if_pos (by omega)] | rw [if_neg (by omega)])); all_goals (first | rfl | simp only [if_true, if_false, Bool.false_eq_true, Bool.not_true, Bool.not_false, e_1, h_7, h_8, e_9, e_13, e_19, e_23, h_29])), (k_24.mono (by omega) (by omega)), (by first | omega | (simp only [List.length_append, List.length_cons, List.length_nil, List.length_take, List.length_drop]; omega)), rfl, rfl⟩
      · skip
        refine JC.condF (congrArg Value.bool (decide_eq_false h_29)) ?_
        refine JC.seq ?_
        refine JC.region ?_
        refine JL.pure rfl (PO.move (v := .int .i64 n_17) rfl) ?_
        refine JL.pure rfl (PO.geq rfl rfl) ?_
        refine JL.pure rfl (PO.assign (v := .bool (decide (999 ≤ n_17))) rfl) ?_
        refine JL.nil ?_
        refine JQ.seq ?_
        by_cases h_30 : 999 ≤ n_17
        · skip
          refine JC.condT (congrArg Value.bool (decide_eq_true h_30)) ?_
          refine JC.seq ?_
          refine JC.region ?_
          refine JL.pure rfl (PO.assign (v := .int .i64 3) rfl) ?_
          refine JL.nil ?_
          refine JQ.seq ?_
          refine JC.ret ?_
          refine JQ.blockRet ?_
          refine JQ.thenRet ?_
          refine Done.one (.inl rfl) rfl (RV.tmp (v := .int .i64 3) rfl) (List.Sublist.refl _) ?_
          exact ⟨x_25, m_26, 3, (by simp only [MS.send, e_1, h_7, h_8, e_9, e_13, e_19, e_23, h_29, h_30, if_true, if_false, Bool.false_eq_true, Bool.not_true, Bool.not_false]; (repeat (first | rw [if_pos (by omega)] | rw [if_neg (by omega)])); all_goals (first | rfl | simp only [if_true, if_false, Bool.false_eq_true, Bool.not_true, Bool.not_false, e_1, h_7, h_8, e_9, e_13, e_19, e_23, h_29, h_30])), (k_24.mono (by omega) (by omega)), (by first | omega | (simp only [List.length_append, List.length_cons, List.length_nil, List.length_take, List.length_drop]; omega)), rfl, rfl⟩
        · skip
          refine JC.condF (congrArg Value.bool (decide_eq_false h_30)) ?_
          refine JC.skip ?_
          refine JQ.blockN ?_
          refine JQ.seq ?_
          refine JC.seq ?_
          refine JC.region ?_
          refine JL.pure rfl (PO.move (v := .pointer (some ⟨p, 0, none⟩)) rfl) ?_
          refine JL.pure rfl (PO.move (v := .int .i64 to_) rfl) ?_
          refine JL.op rfl (JO.call [] Tryz.call88 rfl (N_signalKey to_ [47, 116] (by omega) (show List.length ([47, 116] : Str) ≤ 2 by decide) (by omega)) rfl (fun _ _ => trivial)) ?_
          rintro _ _ ⟨_, ⟨u_33, e_31, f_34, rfl, rfl⟩, rfl⟩
          have hqe_31 := e_9.symm.trans e_31
          subst hqe_31
          refine JL.pure rfl (PO.move (v := .int .i64 n_17) rfl) ?_
          refine JL.pure rfl (PO.add (c := n_17 + 1) rfl rfl (wr (by omega))) ?_
          refine JL.op rfl (JO.call [0, 0, 0, 0] Tryz.call91 rfl (N_setNum p x_25 m_26 k_24 (by omega) (by omega) u_11 (n_17 + 1) (by omega) (by omega)) rfl (fun _ _ => trivial)) ?_
          rintro _ _ ⟨_, ⟨x_37, m_38, e_35, k_36, rfl, rfl⟩, rfl⟩
          refine JL.nil ?_
          refine JQ.seq ?_
          refine JC.seq ?_
          refine JC.region ?_
          refine JL.pure rfl (PO.move (v := .pointer (some ⟨p, 0, none⟩)) rfl) ?_
          refine JL.pure rfl (PO.move (v := .int .i64 to_) rfl) ?_
          refine JL.op rfl (JO.call [] Tryz.call88 rfl (N_signalKey to_ [47, 113, 47] (by omega) (show List.length ([47, 113, 47] : Str) ≤ 3 by decide) (by omega)) rfl (fun _ _ => trivial)) ?_
          rintro _ _ ⟨_, ⟨u_41, e_39, f_42, rfl, rfl⟩, rfl⟩
          refine JL.pure rfl (PO.move (v := .int .i64 n_17) rfl) ?_
          refine JL.pure rfl (PO.add (c := n_17 + 1) rfl rfl (wr (by omega))) ?_
          refine JL.op rfl (JO.call [] Tryz.call89 rfl (N_keyNum u_41 (n_17 + 1) [] (Nat.le_refl _) (by omega) (show List.length ([] : Str) ≤ 0 by decide) (by omega)) rfl (fun _ _ => trivial)) ?_
          rintro _ _ ⟨_, ⟨u_45, e_43, f_46, rfl, rfl⟩, rfl⟩
          refine JL.pure rfl (PO.move (v := .int .i64 n) rfl) ?_
          refine JL.op rfl (JO.call [0, 0, 0, 0] Tryz.call91 rfl (N_setNum p x_37 m_38 k_36 (by omega) (by omega) u_45 n (by omega) (by omega)) rfl (fun _ _ => trivial)) ?_
          rintro _ _ ⟨_, ⟨x_49, m_50, e_47, k_48, rfl, rfl⟩, rfl⟩
          refine JL.nil ?_
          refine JQ.seq ?_
          refine JC.seq ?_
          refine JC.region ?_
          refine JL.pure rfl (PO.assign (v := .int .i64 0) rfl) ?_
          refine JL.nil ?_
          refine JQ.seq ?_
          refine JC.ret ?_
          refine Done.one (.inl rfl) rfl (RV.tmp (v := .int .i64 0) rfl) (List.Sublist.refl _) ?_
          exact ⟨x_49, m_50, 0, (by simp only [MS.send, e_1, h_7, h_8, e_9, e_13, e_19, e_23, h_29, h_30, e_35, e_39, e_43, e_47, if_true, if_false, Bool.false_eq_true, Bool.not_true, Bool.not_false]; (repeat (first | rw [if_pos (by omega)] | rw [if_neg (by omega)])); all_goals (first | rfl | simp only [if_true, if_false, Bool.false_eq_true, Bool.not_true, Bool.not_false, e_1, h_7, h_8, e_9, e_13, e_19, e_23, h_29, h_30, e_35, e_39, e_43, e_47])), (k_48.mono (by omega) (by omega)), (by first | omega | (simp only [List.length_append, List.length_cons, List.length_nil, List.length_take, List.length_drop]; omega)), rfl, rfl⟩
    · skip
      have h_8d := h_8
      simp only [Bool.and_eq_true, Bool.and_eq_false_iff, decide_eq_true_eq, decide_eq_false_iff_not] at h_8d
      refine JC.condT (congrArg Value.bool (congrArg Bool.not h_8)) ?_
      refine JC.seq ?_
      refine JC.region ?_
      refine JL.pure rfl (PO.assign (v := .int .i64 4) rfl) ?_
      refine JL.nil ?_
      refine JQ.seq ?_
      refine JC.ret ?_
      refine JQ.thenRet ?_
      refine Done.one (.inl rfl) rfl (RV.tmp (v := .int .i64 4) rfl) (List.Sublist.refl _) ?_
      exact ⟨x_3, m_4, 4, (by simp only [MS.send, e_1, h_7, h_8, if_true, if_false, Bool.false_eq_true, Bool.not_true, Bool.not_false]; (repeat (first | rw [if_pos (by omega)] | rw [if_neg (by omega)])); all_goals (first | rfl | simp only [if_true, if_false, Bool.false_eq_true, Bool.not_true, Bool.not_false, e_1, h_7, h_8])), (k_2.mono (by omega) (by omega)), (by first | omega | (simp only [List.length_append, List.length_cons, List.length_nil, List.length_take, List.length_drop]; omega)), rfl, rfl⟩
  · skip
    refine JC.condT (congrArg Value.bool (congrArg Bool.not (decide_eq_false h_7))) ?_
    refine JC.seq ?_
    refine JC.region ?_
    refine JL.pure rfl (PO.assign (v := .int .i64 2) rfl) ?_
    refine JL.nil ?_
    refine JQ.seq ?_
    refine JC.ret ?_
    refine JQ.thenRet ?_
    refine Done.one (.inl rfl) rfl (RV.tmp (v := .int .i64 2) rfl) (List.Sublist.refl _) ?_
    exact ⟨x_3, m_4, 2, (by simp only [MS.send, e_1, h_7, if_true, if_false, Bool.false_eq_true, Bool.not_true, Bool.not_false]; (repeat (first | rw [if_pos (by omega)] | rw [if_neg (by omega)])); all_goals (first | rfl | simp only [if_true, if_false, Bool.false_eq_true, Bool.not_true, Bool.not_false, e_1, h_7])), (k_2.mono (by omega) (by omega)), (by first | omega | (simp only [List.length_append, List.length_cons, List.length_nil, List.length_take, List.length_drop]; omega)), rfl, rfl⟩

theorem M_send (x : MA) (m : MS) {S T : Nat} (hk : m.ok S T) (hS : S ≤ 50000000) (hT : T ≤ 50000000) (to_ : Int) (n : Int) (hto_ : -9223372036854775808 ≤ to_ ∧ to_ ≤ 9223372036854775807) (hn : -9223372036854775808 ≤ n ∧ n ≤ 9223372036854775807) :
    Ct Tryz.prog 61 [mv x m, .int .i64 to_, .int .i64 n] (mr x m) (fun _ => True) (fun v A' => ∃ x' m' r0, MS.send m to_ n = (m', r0) ∧ m'.ok (S + 2) (T + 5) ∧ (0 ≤ r0 ∧ r0 ≤ 9) ∧ v = .tuple #[mv x' m', .int .i64 r0] ∧ A' = mr x' m') := by
  refine Ct.intro Tryz.func61 rfl Tryz.ntmps61 (Nat.le_of_ble_eq_true rfl) fun w0 hpre => ?_
  refine JC.seq ?_
  refine JC.region ?_
  refine JL.op rfl (JO.box (cs := [.slice x.a0 m.s.length x.c0, .slice x.a1 m.r.length x.c1, .slice x.a2 m.w.length x.c2]) rfl rfl) ?_
  rintro _ _ ⟨b_1, rfl, rfl⟩
  refine JL.op rfl (JO.alloc (z := .agg #[.slice none 0 0, .slice none 0 0, .slice none 0 0]) (cs := [.slice none 0 0, .slice none 0 0, .slice none 0 0]) Tryz.zeroValue32 rfl) ?_
  rintro _ _ ⟨b_2, rfl, rfl⟩
  refine JL.pure rfl (PO.assign (v := .int .i64 0) rfl) ?_
  refine JL.nil ?_
  refine JQ.seq ?_
  refine JC.seq ?_
  refine JC.region ?_
  refine JL.ld rfl (LO.loadK 1 (vs := [.slice x.a0 m.s.length x.c0, .slice x.a1 m.r.length x.c1, .slice x.a2 m.w.length x.c2]) rfl rfl Tryz.isAgg32 Tryz.sizeOf32 rfl rfl) ?_
  refine JL.pure rfl (PO.move (v := .int .i64 to_) rfl) ?_
  refine JL.op rfl (JO.call [2, 2, 2] Tryz.call97 rfl (M_state x m hk (by omega) (by omega) to_ (by omega)) rfl (fun _ _ => trivial)) ?_
  rintro _ _ ⟨_, ⟨x_5, m_6, n_7, e_3, k_4, f_8, rfl, rfl⟩, rfl⟩
  refine JL.pure rfl (PO.move (v := .tuple #[mv x_5 m_6, .int .i64 n_7]) rfl) ?_
  refine JL.pure rfl (PO.extract (v := mv x_5 m_6) rfl rfl) ?_
  refine JL.pure rfl (PO.extract (v := .int .i64 n_7) rfl rfl) ?_
  refine JL.op rfl (JO.store 4 (vs := [.slice x_5.a0 m_6.s.length x_5.c0, .slice x_5.a1 m_6.r.length x_5.c1, .slice x_5.a2 m_6.w.length x_5.c2]) (cs' := [.slice x_5.a0 m_6.s.length x_5.c0, .slice x_5.a1 m_6.r.length x_5.c1, .slice x_5.a2 m_6.w.length x_5.c2]) rfl rfl rfl rfl Tryz.sizeOf32 rfl rfl (Nat.le_of_ble_eq_true rfl) rfl) ?_
  rintro _ _ rfl
  refine JL.pure rfl (PO.assign (v := .int .i64 n_7) rfl) ?_
  refine JL.nil ?_
  refine JQ.seq ?_
  refine JC.seq ?_
  refine JC.seq ?_
  refine JC.region ?_
  refine JL.pure rfl (PO.move (v := .int .i64 n_7) rfl) ?_
  refine JL.pure rfl (PO.neqI rfl rfl) ?_
  refine JL.nil ?_
  refine JQ.seq ?_
  by_cases h_9 : n_7 = 1
  · skip
    refine JC.condF (congrArg Value.bool (congrArg Bool.not (decide_eq_true h_9))) ?_
    refine JC.skip ?_
    refine JQ.seq ?_
    refine JC.seq ?_
    refine JC.seq ?_
    refine JC.region ?_
    refine JL.pure rfl (PO.move (v := .int .i64 n) rfl) ?_
    refine JL.op rfl (JO.call [] Tryz.call98 rfl (C_l01In n 1 31) rfl (fun _ _ => trivial)) ?_
    rintro _ _ ⟨_, ⟨rfl, rfl⟩, rfl⟩
    refine JL.pure rfl (PO.not rfl) ?_
    refine JL.nil ?_
    refine JQ.seq ?_
    rcases Bool.eq_false_or_eq_true (decide (1 ≤ n) && decide (n ≤ 31)) with h_10 | h_10
    · skip
      have h_10d := h_10
      simp only [Bool.and_eq_true, Bool.and_eq_false_iff, decide_eq_true_eq, decide_eq_false_iff_not] at h_10d
      refine JC.condF (congrArg Value.bool (congrArg Bool.not h_10)) ?_
      refine JC.skip ?_
      refine JQ.seq ?_
      refine JC.seq ?_
      refine JC.regionA [] 8 mixed (by simp) ?_
      refine JA.take 1 rfl (by kernel_rfl) (NP.th NP.body) (by kernel_rfl) (by kernel_rfl) (by kernel_rfl) rfl (LO.pure (PO.move (v := .int .i64 to_) rfl)) ?_
      refine JA.two (i := 0) (j := 2) (by kernel_rfl) ?_ ?_
      · skip
        refine JX.op rfl rfl (JO.ofLO (LO.loadK 4 (vs := [.slice x_5.a0 m_6.s.length x_5.c0, .slice x_5.a1 m_6.r.length x_5.c1, .slice x_5.a2 m_6.w.length x_5.c2]) rfl rfl Tryz.isAgg32 Tryz.sizeOf32 rfl rfl)) ?_
        rintro _ _ ⟨rfl, rfl⟩
        refine ⟨(fun _ h => by cases h), ?_⟩
        refine JA.one (i := 2) (by kernel_rfl) ?_
        refine JX.op rfl rfl (JO.call [] Tryz.call78 rfl (N_l10Key to_ [47, 116] (by omega) (show List.length ([47, 116] : Str) ≤ 2 by decide) (by omega)) rfl (fun _ _ => trivial)) ?_
        rintro _ _ ⟨_, ⟨u_21, e_19, f_22, rfl, rfl⟩, rfl⟩
        refine ⟨(fun _ h => by cases h), ?_⟩
        refine JA.one (i := 3) (by kernel_rfl) ?_
        refine JX.op rfl rfl (JO.call [0, 0, 0] Tryz.call77 rfl (N_sNumAt x_5 m_6 k_4 (by omega) (by omega) u_21) rfl (fun _ _ => trivial)) ?_
        rintro _ _ ⟨_, ⟨x_31, m_32, n_33, e_29, k_30, f_34, rfl, rfl⟩, rfl⟩
        refine ⟨(fun _ h => by cases h), ?_⟩
        refine JA.take 4 rfl (by kernel_rfl) (NP.th NP.body) (by kernel_rfl) (by kernel_rfl) (by kernel_rfl) rfl (LO.pure (PO.move (v := .tuple #[mv x_31 m_32, .int .i64 n_33]) rfl)) ?_
        refine JA.take 5 rfl (by kernel_rfl) (NP.th NP.body) (by kernel_rfl) (by kernel_rfl) (by kernel_rfl) rfl (LO.pure (PO.extract (v := mv x_31 m_32) rfl rfl)) ?_
        refine JA.take 6 rfl (by kernel_rfl) (NP.th NP.body) (by kernel_rfl) (by kernel_rfl) (by kernel_rfl) rfl (LO.pure (PO.extract (v := .int .i64 n_33) rfl rfl)) ?_
        refine JA.one (i := 7) (by kernel_rfl) ?_
        refine JX.op rfl rfl (JO.store 4 (vs := [.slice x_31.a0 m_32.s.length x_31.c0, .slice x_31.a1 m_32.r.length x_31.c1, .slice x_31.a2 m_32.w.length x_31.c2]) (cs' := [.slice x_31.a0 m_32.s.length x_31.c0, .slice x_31.a1 m_32.r.length x_31.c1, .slice x_31.a2 m_32.w.length x_31.c2]) rfl rfl rfl rfl Tryz.sizeOf32 rfl rfl (Nat.le_of_ble_eq_true rfl) rfl) ?_
        rintro _ _ rfl
        refine ⟨(fun _ h => by cases h), ?_⟩
        refine JA.take 8 rfl (by kernel_rfl) (NP.th NP.body) (by kernel_rfl) (by kernel_rfl) (by kernel_rfl) rfl (LO.pure (PO.assign (v := .int .i64 n_33) rfl)) ?_
        refine JA.done (by kernel_rfl) ?_
        refine JQ.seq ?_
        refine JC.seq ?_
        refine JC.regionA [] 8 mixed (by simp) ?_
        refine JA.take 1 rfl (by kernel_rfl) (NP.th NP.body) (by kernel_rfl) (by kernel_rfl) (by kernel_rfl) rfl (LO.pure (PO.move (v := .int .i64 to_) rfl)) ?_
        refine JA.two (i := 0) (j := 2) (by kernel_rfl) ?_ ?_
        · skip
          refine JX.op rfl rfl (JO.ofLO (LO.loadK 4 (vs := [.slice x_31.a0 m_32.s.length x_31.c0, .slice x_31.a1 m_32.r.length x_31.c1, .slice x_31.a2 m_32.w.length x_31.c2]) rfl rfl Tryz.isAgg32 Tryz.sizeOf32 rfl rfl)) ?_
          rintro _ _ ⟨rfl, rfl⟩
          refine ⟨(fun _ h => by cases h), ?_⟩
          refine JA.one (i := 2) (by kernel_rfl) ?_
          refine JX.op rfl rfl (JO.call [] Tryz.call78 rfl (N_l10Key to_ [47, 104] (by omega) (show List.length ([47, 104] : Str) ≤ 2 by decide) (by omega)) rfl (fun _ _ => trivial)) ?_
          rintro _ _ ⟨_, ⟨u_45, e_43, f_46, rfl, rfl⟩, rfl⟩
          refine ⟨(fun _ h => by cases h), ?_⟩
          refine JA.one (i := 3) (by kernel_rfl) ?_
          refine JX.op rfl rfl (JO.call [0, 0, 0] Tryz.call77 rfl (N_sNumAt x_31 m_32 k_30 (by omega) (by omega) u_45) rfl (fun _ _ => trivial)) ?_
          rintro _ _ ⟨_, ⟨x_55, m_56, n_57, e_53, k_54, f_58, rfl, rfl⟩, rfl⟩
          refine ⟨(fun _ h => by cases h), ?_⟩
          refine JA.take 4 rfl (by kernel_rfl) (NP.th NP.body) (by kernel_rfl) (by kernel_rfl) (by kernel_rfl) rfl (LO.pure (PO.move (v := .tuple #[mv x_55 m_56, .int .i64 n_57]) rfl)) ?_
          refine JA.take 5 rfl (by kernel_rfl) (NP.th NP.body) (by kernel_rfl) (by kernel_rfl) (by kernel_rfl) rfl (LO.pure (PO.extract (v := mv x_55 m_56) rfl rfl)) ?_
          refine JA.take 6 rfl (by kernel_rfl) (NP.th NP.body) (by kernel_rfl) (by kernel_rfl) (by kernel_rfl) rfl (LO.pure (PO.extract (v := .int .i64 n_57) rfl rfl)) ?_
          refine JA.one (i := 7) (by kernel_rfl) ?_
          refine JX.op rfl rfl (JO.store 4 (vs := [.slice x_55.a0 m_56.s.length x_55.c0, .slice x_55.a1 m_56.r.length x_55.c1, .slice x_55.a2 m_56.w.length x_55.c2]) (cs' := [.slice x_55.a0 m_56.s.length x_55.c0, .slice x_55.a1 m_56.r.length x_55.c1, .slice x_55.a2 m_56.w.length x_55.c2]) rfl rfl rfl rfl Tryz.sizeOf32 rfl rfl (Nat.le_of_ble_eq_true rfl) rfl) ?_
          rintro _ _ rfl
          refine ⟨(fun _ h => by cases h), ?_⟩
          refine JA.take 8 rfl (by kernel_rfl) (NP.th NP.body) (by kernel_rfl) (by kernel_rfl) (by kernel_rfl) rfl (LO.pure (PO.assign (v := .int .i64 n_57) rfl)) ?_
          refine JA.done (by kernel_rfl) ?_
          refine JQ.seq ?_
          refine JC.seq ?_
          refine JC.seq ?_
          refine JC.region ?_
          refine JL.pure rfl (PO.move (v := .int .i64 n_33) rfl) ?_
          refine JL.pure rfl (PO.move (v := .int .i64 n_57) rfl) ?_
          refine JL.pure rfl (PO.sub (c := n_33 - n_57) rfl rfl (wr (by omega))) ?_
          refine JL.pure rfl (PO.geq rfl rfl) ?_
          refine JL.nil ?_
          refine JQ.seq ?_
          by_cases h_59 : 4 ≤ (n_33 - n_57)
          · skip
            refine JC.condT (congrArg Value.bool (decide_eq_true h_59)) ?_
            refine JC.seq ?_
            refine JC.region ?_
            refine JL.ld rfl (LO.loadK 4 (vs := [.slice x_55.a0 m_56.s.length x_55.c0, .slice x_55.a1 m_56.r.length x_55.c1, .slice x_55.a2 m_56.w.length x_55.c2]) rfl rfl Tryz.isAgg32 Tryz.sizeOf32 rfl rfl) ?_
            refine JL.op rfl (JO.store 3 (vs := [.slice x_55.a0 m_56.s.length x_55.c0, .slice x_55.a1 m_56.r.length x_55.c1, .slice x_55.a2 m_56.w.length x_55.c2]) (cs' := [.slice x_55.a0 m_56.s.length x_55.c0, .slice x_55.a1 m_56.r.length x_55.c1, .slice x_55.a2 m_56.w.length x_55.c2]) rfl rfl rfl rfl Tryz.sizeOf32 rfl rfl (Nat.le_of_ble_eq_true rfl) rfl) ?_
            rintro _ _ rfl
            refine JL.pure rfl (PO.assign (v := .int .i64 5) rfl) ?_
            refine JL.nil ?_
            refine JQ.seq ?_
            refine JC.ret ?_
            refine JQ.thenRet ?_
            refine Done.two (.inl rfl) rfl (RV.cell1 (LO.loadK 3 (vs := [.slice x_55.a0 m_56.s.length x_55.c0, .slice x_55.a1 m_56.r.length x_55.c1, .slice x_55.a2 m_56.w.length x_55.c2]) rfl rfl Tryz.isAgg32 Tryz.sizeOf32 rfl rfl) ⟨_, rfl⟩) (RV.tmp (v := .int .i64 5) rfl) (List.sublist_append_left [rC x_55.a0 x_55.c0 m_56.s, rS x_55.a1 x_55.c1 m_56.r, rS x_55.a2 x_55.c2 m_56.w] [mb b_2 x_55 m_56, mb b_1 x_55 m_56]) ?_
            exact ⟨x_55, m_56, 5, (by simp only [MS.send, e_3, h_9, h_10, e_19, e_29, e_43, e_53, h_59, if_true, if_false, Bool.false_eq_true, Bool.not_true, Bool.not_false]; (repeat (first | rw [if_pos (by omega)] | rw [if_neg (by omega)])); all_goals (first | rfl | simp only [if_true, if_false, Bool.false_eq_true, Bool.not_true, Bool.not_false, e_3, h_9, h_10, e_19, e_29, e_43, e_53, h_59])), (k_54.mono (by omega) (by omega)), (by first | omega | (simp only [List.length_append, List.length_cons, List.length_nil, List.length_take, List.length_drop]; omega)), rfl, rfl⟩
          · skip
            refine JC.condF (congrArg Value.bool (decide_eq_false h_59)) ?_
            refine JC.skip ?_
            refine JQ.seq ?_
            refine JC.seq ?_
            refine JC.seq ?_
            refine JC.region ?_
            refine JL.pure rfl (PO.move (v := .int .i64 n_33) rfl) ?_
            refine JL.pure rfl (PO.geq rfl rfl) ?_
            refine JL.nil ?_
            refine JQ.seq ?_
            by_cases h_60 : 999 ≤ n_33
            · skip
              refine JC.condT (congrArg Value.bool (decide_eq_true h_60)) ?_
              refine JC.seq ?_
              refine JC.region ?_
              refine JL.ld rfl (LO.loadK 4 (vs := [.slice x_55.a0 m_56.s.length x_55.c0, .slice x_55.a1 m_56.r.length x_55.c1, .slice x_55.a2 m_56.w.length x_55.c2]) rfl rfl Tryz.isAgg32 Tryz.sizeOf32 rfl rfl) ?_
              refine JL.op rfl (JO.store 3 (vs := [.slice x_55.a0 m_56.s.length x_55.c0, .slice x_55.a1 m_56.r.length x_55.c1, .slice x_55.a2 m_56.w.length x_55.c2]) (cs' := [.slice x_55.a0 m_56.s.length x_55.c0, .slice x_55.a1 m_56.r.length x_55.c1, .slice x_55.a2 m_56.w.length x_55.c2]) rfl rfl rfl rfl Tryz.sizeOf32 rfl rfl (Nat.le_of_ble_eq_true rfl) rfl) ?_
              rintro _ _ rfl
              refine JL.pure rfl (PO.assign (v := .int .i64 3) rfl) ?_
              refine JL.nil ?_
              refine JQ.seq ?_
              refine JC.ret ?_
              refine JQ.thenRet ?_
              refine Done.two (.inl rfl) rfl (RV.cell1 (LO.loadK 3 (vs := [.slice x_55.a0 m_56.s.length x_55.c0, .slice x_55.a1 m_56.r.length x_55.c1, .slice x_55.a2 m_56.w.length x_55.c2]) rfl rfl Tryz.isAgg32 Tryz.sizeOf32 rfl rfl) ⟨_, rfl⟩) (RV.tmp (v := .int .i64 3) rfl) (List.sublist_append_left [rC x_55.a0 x_55.c0 m_56.s, rS x_55.a1 x_55.c1 m_56.r, rS x_55.a2 x_55.c2 m_56.w] [mb b_2 x_55 m_56, mb b_1 x_55 m_56]) ?_
              exact ⟨x_55, m_56, 3, (by simp only [MS.send, e_3, h_9, h_10, e_19, e_29, e_43, e_53, h_59, h_60, if_true, if_false, Bool.false_eq_true, Bool.not_true, Bool.not_false]; (repeat (first | rw [if_pos (by omega)] | rw [if_neg (by omega)])); all_goals (first | rfl | simp only [if_true, if_false, Bool.false_eq_true, Bool.not_true, Bool.not_false, e_3, h_9, h_10, e_19, e_29, e_43, e_53, h_59, h_60])), (k_54.mono (by omega) (by omega)), (by first | omega | (simp only [List.length_append, List.length_cons, List.length_nil, List.length_take, List.length_drop]; omega)), rfl, rfl⟩
            · skip
              refine JC.condF (congrArg Value.bool (decide_eq_false h_60)) ?_
              refine JC.skip ?_
              refine JQ.seq ?_
              refine JC.seq ?_
              refine JC.regionA [mb b_1 x_55 m_56] 6 mixed (by simp) ?_
              refine JA.take 0 rfl (by kernel_rfl) (NP.th NP.body) (by kernel_rfl) (by kernel_rfl) (by kernel_rfl) rfl (LO.loadK 0 (vs := [.slice x_55.a0 m_56.s.length x_55.c0, .slice x_55.a1 m_56.r.length x_55.c1, .slice x_55.a2 m_56.w.length x_55.c2]) rfl rfl Tryz.isAgg32 Tryz.sizeOf32 rfl rfl) ?_
              refine JA.take 1 rfl (by kernel_rfl) (NP.th NP.body) (by kernel_rfl) (by kernel_rfl) (by kernel_rfl) rfl (LO.pure (PO.move (v := .int .i64 to_) rfl)) ?_
              refine JA.take 3 rfl (by kernel_rfl) (NP.th NP.body) (by kernel_rfl) (by kernel_rfl) (by kernel_rfl) rfl (LO.pure (PO.move (v := .int .i64 n_33) rfl)) ?_
              refine JA.take 4 rfl (by kernel_rfl) (NP.th NP.body) (by kernel_rfl) (by kernel_rfl) (by kernel_rfl) rfl (LO.pure (PO.add (c := n_33 + 1) rfl rfl (wr (by omega)))) ?_
              refine JA.one (i := 2) (by kernel_rfl) ?_
              refine JX.op rfl rfl (JO.call [] Tryz.call78 rfl (N_l10Key to_ [47, 116] (by omega) (show List.length ([47, 116] : Str) ≤ 2 by decide) (by omega)) rfl (fun _ _ => trivial)) ?_
              rintro _ _ ⟨_, ⟨u_75, e_73, f_76, rfl, rfl⟩, rfl⟩
              have hqe_73 := e_19.symm.trans e_73
              subst hqe_73
              refine ⟨(by simp), ?_⟩
              refine JA.one (i := 5) (by kernel_rfl) ?_
              refine JX.op rfl rfl (JO.call [0, 0, 0] Tryz.call81 rfl (N_sSetNum x_55 m_56 k_54 (by omega) (by omega) u_21 (n_33 + 1) (by omega) (by omega)) rfl (fun _ _ => trivial)) ?_
              rintro _ _ ⟨_, ⟨x_83, m_84, e_81, k_82, rfl, rfl⟩, rfl⟩
              refine ⟨(by simp), ?_⟩
              refine JA.one (i := 6) (by kernel_rfl) ?_
              refine JX.last rfl rfl rfl (by kernel_rfl) (JO.store 4 (vs := [.slice x_83.a0 m_84.s.length x_83.c0, .slice x_83.a1 m_84.r.length x_83.c1, .slice x_83.a2 m_84.w.length x_83.c2]) (cs' := [.slice x_83.a0 m_84.s.length x_83.c0, .slice x_83.a1 m_84.r.length x_83.c1, .slice x_83.a2 m_84.w.length x_83.c2]) rfl rfl rfl rfl Tryz.sizeOf32 rfl rfl (Nat.le_of_ble_eq_true rfl) rfl) ?_
              rintro _ _ rfl
              refine JQ.seq ?_
              refine JC.seq ?_
              refine JC.regionA [mb b_1 x_83 m_84] 8 mixed (by simp) ?_
              refine JA.take 0 rfl (by kernel_rfl) (NP.th NP.body) (by kernel_rfl) (by kernel_rfl) (by kernel_rfl) rfl (LO.loadK 0 (vs := [.slice x_83.a0 m_84.s.length x_83.c0, .slice x_83.a1 m_84.r.length x_83.c1, .slice x_83.a2 m_84.w.length x_83.c2]) rfl rfl Tryz.isAgg32 Tryz.sizeOf32 rfl rfl) ?_
              refine JA.take 1 rfl (by kernel_rfl) (NP.th NP.body) (by kernel_rfl) (by kernel_rfl) (by kernel_rfl) rfl (LO.pure (PO.move (v := .int .i64 to_) rfl)) ?_
              refine JA.take 2 rfl (by kernel_rfl) (NP.th NP.body) (by kernel_rfl) (by kernel_rfl) (by kernel_rfl) rfl (LO.pure (PO.move (v := .int .i64 n_33) rfl)) ?_
              refine JA.take 3 rfl (by kernel_rfl) (NP.th NP.body) (by kernel_rfl) (by kernel_rfl) (by kernel_rfl) rfl (LO.pure (PO.add (c := n_33 + 1) rfl rfl (wr (by omega)))) ?_
              refine JA.take 5 rfl (by kernel_rfl) (NP.th NP.body) (by kernel_rfl) (by kernel_rfl) (by kernel_rfl) rfl (LO.pure (PO.move (v := .int .i64 n) rfl)) ?_
              refine JA.one (i := 4) (by kernel_rfl) ?_
              refine JX.op rfl rfl (JO.call [] Tryz.call79 rfl (N_l10Signal to_ (n_33 + 1) (by omega) (by omega)) rfl (fun _ _ => trivial)) ?_
              rintro _ _ ⟨_, ⟨u_95, e_93, f_96, rfl, rfl⟩, rfl⟩
              refine ⟨(by simp), ?_⟩
              refine JA.one (i := 6) (by kernel_rfl) ?_
              refine JX.op rfl rfl (JO.call [0, 0, 0] Tryz.call81 rfl (N_sSetNum x_83 m_84 k_82 (by omega) (by omega) u_95 n (by omega) (by omega)) rfl (fun _ _ => trivial)) ?_
              rintro _ _ ⟨_, ⟨x_103, m_104, e_101, k_102, rfl, rfl⟩, rfl⟩
              refine ⟨(by simp), ?_⟩
              refine JA.one (i := 7) (by kernel_rfl) ?_
              refine JX.op rfl rfl (JO.store 3 (vs := [.slice x_103.a0 m_104.s.length x_103.c0, .slice x_103.a1 m_104.r.length x_103.c1, .slice x_103.a2 m_104.w.length x_103.c2]) (cs' := [.slice x_103.a0 m_104.s.length x_103.c0, .slice x_103.a1 m_104.r.length x_103.c1, .slice x_103.a2 m_104.w.length x_103.c2]) rfl rfl rfl rfl Tryz.sizeOf32 rfl rfl (Nat.le_of_ble_eq_true rfl) rfl) ?_
              rintro _ _ rfl
              refine ⟨(by simp), ?_⟩
              refine JA.take 8 rfl (by kernel_rfl) (NP.th NP.body) (by kernel_rfl) (by kernel_rfl) (by kernel_rfl) rfl (LO.pure (PO.assign (v := .int .i64 0) rfl)) ?_
              refine JA.done (by kernel_rfl) ?_
              refine JQ.seq ?_
              refine JC.ret ?_
              refine Done.two (.inl rfl) rfl (RV.cell1 (LO.loadK 3 (vs := [.slice x_103.a0 m_104.s.length x_103.c0, .slice x_103.a1 m_104.r.length x_103.c1, .slice x_103.a2 m_104.w.length x_103.c2]) rfl rfl Tryz.isAgg32 Tryz.sizeOf32 rfl rfl) ⟨_, rfl⟩) (RV.tmp (v := .int .i64 0) rfl) (List.sublist_append_left [rC x_103.a0 x_103.c0 m_104.s, rS x_103.a1 x_103.c1 m_104.r, rS x_103.a2 x_103.c2 m_104.w] [mb b_2 x_103 m_104, mb b_1 x_83 m_84]) ?_
              exact ⟨x_103, m_104, 0, (by simp only [MS.send, e_3, h_9, h_10, e_19, e_29, e_43, e_53, h_59, h_60, e_81, e_93, e_101, if_true, if_false, Bool.false_eq_true, Bool.not_true, Bool.not_false]; (repeat (first | rw [if_pos (by omega)] | rw [if_neg (by omega)])); all_goals (first | rfl | simp only [if_true, if_false, Bool.false_eq_true, Bool.not_true, Bool.not_false, e_3, h_9, h_10, e_19, e_29, e_43, e_53, h_59, h_60, e_81, e_93, e_101])), (k_102.mono (by omega) (by omega)), (by first | omega | (simp only [List.length_append, List.length_cons, List.length_nil, List.length_take, List.length_drop]; omega)), rfl, rfl⟩
        · skip
          refine JX.op rfl rfl (JO.call [] Tryz.call78 rfl (N_l10Key to_ [47, 104] (by omega) (show List.length ([47, 104] : Str) ≤ 2 by decide) (by omega)) rfl (fun _ _ => trivial)) ?_
          rintro _ _ ⟨_, ⟨u_107, e_105, f_108, rfl, rfl⟩, rfl⟩
          refine ⟨(fun _ h => by cases h), ?_⟩
          refine JA.one (i := 0) (by kernel_rfl) ?_
          refine JX.op rfl rfl (JO.ofLO (LO.loadK 4 (vs := [.slice x_31.a0 m_32.s.length x_31.c0, .slice x_31.a1 m_32.r.length x_31.c1, .slice x_31.a2 m_32.w.length x_31.c2]) rfl rfl Tryz.isAgg32 Tryz.sizeOf32 rfl rfl)) ?_
          rintro _ _ ⟨rfl, rfl⟩
          refine ⟨(fun _ h => by cases h), ?_⟩
          refine JA.one (i := 3) (by kernel_rfl) ?_
          refine JX.op rfl rfl (JO.call [0, 0, 0] Tryz.call77 rfl (N_sNumAt x_31 m_32 k_30 (by omega) (by omega) u_107) rfl (fun _ _ => trivial)) ?_
          rintro _ _ ⟨_, ⟨x_117, m_118, n_119, e_115, k_116, f_120, rfl, rfl⟩, rfl⟩
          refine ⟨(fun _ h => by cases h), ?_⟩
          refine JA.take 4 rfl (by kernel_rfl) (NP.th NP.body) (by kernel_rfl) (by kernel_rfl) (by kernel_rfl) rfl (LO.pure (PO.move (v := .tuple #[mv x_117 m_118, .int .i64 n_119]) rfl)) ?_
          refine JA.take 5 rfl (by kernel_rfl) (NP.th NP.body) (by kernel_rfl) (by kernel_rfl) (by kernel_rfl) rfl (LO.pure (PO.extract (v := mv x_117 m_118) rfl rfl)) ?_
          refine JA.take 6 rfl (by kernel_rfl) (NP.th NP.body) (by kernel_rfl) (by kernel_rfl) (by kernel_rfl) rfl (LO.pure (PO.extract (v := .int .i64 n_119) rfl rfl)) ?_
          refine JA.one (i := 7) (by kernel_rfl) ?_
          refine JX.op rfl rfl (JO.store 4 (vs := [.slice x_117.a0 m_118.s.length x_117.c0, .slice x_117.a1 m_118.r.length x_117.c1, .slice x_117.a2 m_118.w.length x_117.c2]) (cs' := [.slice x_117.a0 m_118.s.length x_117.c0, .slice x_117.a1 m_118.r.length x_117.c1, .slice x_117.a2 m_118.w.length x_117.c2]) rfl rfl rfl rfl Tryz.sizeOf32 rfl rfl (Nat.le_of_ble_eq_true rfl) rfl) ?_
          rintro _ _ rfl
          refine ⟨(fun _ h => by cases h), ?_⟩
          refine JA.take 8 rfl (by kernel_rfl) (NP.th NP.body) (by kernel_rfl) (by kernel_rfl) (by kernel_rfl) rfl (LO.pure (PO.assign (v := .int .i64 n_119) rfl)) ?_
          refine JA.done (by kernel_rfl) ?_
          refine JQ.seq ?_
          refine JC.seq ?_
          refine JC.seq ?_
          refine JC.region ?_
          refine JL.pure rfl (PO.move (v := .int .i64 n_33) rfl) ?_
          refine JL.pure rfl (PO.move (v := .int .i64 n_119) rfl) ?_
          refine JL.pure rfl (PO.sub (c := n_33 - n_119) rfl rfl (wr (by omega))) ?_
          refine JL.pure rfl (PO.geq rfl rfl) ?_
          refine JL.nil ?_
          refine JQ.seq ?_
          by_cases h_121 : 4 ≤ (n_33 - n_119)
          · skip
            refine JC.condT (congrArg Value.bool (decide_eq_true h_121)) ?_
            refine JC.seq ?_
            refine JC.region ?_
            refine JL.ld rfl (LO.loadK 4 (vs := [.slice x_117.a0 m_118.s.length x_117.c0, .slice x_117.a1 m_118.r.length x_117.c1, .slice x_117.a2 m_118.w.length x_117.c2]) rfl rfl Tryz.isAgg32 Tryz.sizeOf32 rfl rfl) ?_
            refine JL.op rfl (JO.store 3 (vs := [.slice x_117.a0 m_118.s.length x_117.c0, .slice x_117.a1 m_118.r.length x_117.c1, .slice x_117.a2 m_118.w.length x_117.c2]) (cs' := [.slice x_117.a0 m_118.s.length x_117.c0, .slice x_117.a1 m_118.r.length x_117.c1, .slice x_117.a2 m_118.w.length x_117.c2]) rfl rfl rfl rfl Tryz.sizeOf32 rfl rfl (Nat.le_of_ble_eq_true rfl) rfl) ?_
            rintro _ _ rfl
            refine JL.pure rfl (PO.assign (v := .int .i64 5) rfl) ?_
            refine JL.nil ?_
            refine JQ.seq ?_
            refine JC.ret ?_
            refine JQ.thenRet ?_
            refine Done.two (.inl rfl) rfl (RV.cell1 (LO.loadK 3 (vs := [.slice x_117.a0 m_118.s.length x_117.c0, .slice x_117.a1 m_118.r.length x_117.c1, .slice x_117.a2 m_118.w.length x_117.c2]) rfl rfl Tryz.isAgg32 Tryz.sizeOf32 rfl rfl) ⟨_, rfl⟩) (RV.tmp (v := .int .i64 5) rfl) (List.sublist_append_left [rC x_117.a0 x_117.c0 m_118.s, rS x_117.a1 x_117.c1 m_118.r, rS x_117.a2 x_117.c2 m_118.w] [mb b_2 x_117 m_118, mb b_1 x_117 m_118]) ?_
            exact ⟨x_117, m_118, 5, (by simp only [MS.send, e_3, h_9, h_10, e_19, e_29, e_105, e_115, h_121, if_true, if_false, Bool.false_eq_true, Bool.not_true, Bool.not_false]; (repeat (first | rw [if_pos (by omega)] | rw [if_neg (by omega)])); all_goals (first | rfl | simp only [if_true, if_false, Bool.false_eq_true, Bool.not_true, Bool.not_false, e_3, h_9, h_10, e_19, e_29, e_105, e_115, h_121])), (k_116.mono (by omega) (by omega)), (by first | omega | (simp only [List.length_append, List.length_cons, List.length_nil, List.length_take, List.length_drop]; omega)), rfl, rfl⟩
          · skip
            refine JC.condF (congrArg Value.bool (decide_eq_false h_121)) ?_
            refine JC.skip ?_
            refine JQ.seq ?_
            refine JC.seq ?_
            refine JC.seq ?_
            refine JC.region ?_
            refine JL.pure rfl (PO.move (v := .int .i64 n_33) rfl) ?_
            refine JL.pure rfl (PO.geq rfl rfl) ?_
            refine JL.nil ?_
            refine JQ.seq ?_
            by_cases h_122 : 999 ≤ n_33
            · skip
              refine JC.condT (congrArg Value.bool (decide_eq_true h_122)) ?_
              refine JC.seq ?_
              refine JC.region ?_
              refine JL.ld rfl (LO.loadK 4 (vs := [.slice x_117.a0 m_118.s.length x_117.c0, .slice x_117.a1 m_118.r.length x_117.c1, .slice x_117.a2 m_118.w.length x_117.c2]) rfl rfl Tryz.isAgg32 Tryz.sizeOf32 rfl rfl) ?_
              refine JL.op rfl (JO.store 3 (vs := [.slice x_117.a0 m_118.s.length x_117.c0, .slice x_117.a1 m_118.r.length x_117.c1, .slice x_117.a2 m_118.w.length x_117.c2]) (cs' := [.slice x_117.a0 m_118.s.length x_117.c0, .slice x_117.a1 m_118.r.length x_117.c1, .slice x_117.a2 m_118.w.length x_117.c2]) rfl rfl rfl rfl Tryz.sizeOf32 rfl rfl (Nat.le_of_ble_eq_true rfl) rfl) ?_
              rintro _ _ rfl
              refine JL.pure rfl (PO.assign (v := .int .i64 3) rfl) ?_
              refine JL.nil ?_
              refine JQ.seq ?_
              refine JC.ret ?_
              refine JQ.thenRet ?_
              refine Done.two (.inl rfl) rfl (RV.cell1 (LO.loadK 3 (vs := [.slice x_117.a0 m_118.s.length x_117.c0, .slice x_117.a1 m_118.r.length x_117.c1, .slice x_117.a2 m_118.w.length x_117.c2]) rfl rfl Tryz.isAgg32 Tryz.sizeOf32 rfl rfl) ⟨_, rfl⟩) (RV.tmp (v := .int .i64 3) rfl) (List.sublist_append_left [rC x_117.a0 x_117.c0 m_118.s, rS x_117.a1 x_117.c1 m_118.r, rS x_117.a2 x_117.c2 m_118.w] [mb b_2 x_117 m_118, mb b_1 x_117 m_118]) ?_
              exact ⟨x_117, m_118, 3, (by simp only [MS.send, e_3, h_9, h_10, e_19, e_29, e_105, e_115, h_121, h_122, if_true, if_false, Bool.false_eq_true, Bool.not_true, Bool.not_false]; (repeat (first | rw [if_pos (by omega)] | rw [if_neg (by omega)])); all_goals (first | rfl | simp only [if_true, if_false, Bool.false_eq_true, Bool.not_true, Bool.not_false, e_3, h_9, h_10, e_19, e_29, e_105, e_115, h_121, h_122])), (k_116.mono (by omega) (by omega)), (by first | omega | (simp only [List.length_append, List.length_cons, List.length_nil, List.length_take, List.length_drop]; omega)), rfl, rfl⟩
            · skip
              refine JC.condF (congrArg Value.bool (decide_eq_false h_122)) ?_
              refine JC.skip ?_
              refine JQ.seq ?_
              refine JC.seq ?_
              refine JC.regionA [mb b_1 x_117 m_118] 6 mixed (by simp) ?_
              refine JA.take 0 rfl (by kernel_rfl) (NP.th NP.body) (by kernel_rfl) (by kernel_rfl) (by kernel_rfl) rfl (LO.loadK 0 (vs := [.slice x_117.a0 m_118.s.length x_117.c0, .slice x_117.a1 m_118.r.length x_117.c1, .slice x_117.a2 m_118.w.length x_117.c2]) rfl rfl Tryz.isAgg32 Tryz.sizeOf32 rfl rfl) ?_
              refine JA.take 1 rfl (by kernel_rfl) (NP.th NP.body) (by kernel_rfl) (by kernel_rfl) (by kernel_rfl) rfl (LO.pure (PO.move (v := .int .i64 to_) rfl)) ?_
              refine JA.take 3 rfl (by kernel_rfl) (NP.th NP.body) (by kernel_rfl) (by kernel_rfl) (by kernel_rfl) rfl (LO.pure (PO.move (v := .int .i64 n_33) rfl)) ?_
              refine JA.take 4 rfl (by kernel_rfl) (NP.th NP.body) (by kernel_rfl) (by kernel_rfl) (by kernel_rfl) rfl (LO.pure (PO.add (c := n_33 + 1) rfl rfl (wr (by omega)))) ?_
              refine JA.one (i := 2) (by kernel_rfl) ?_
              refine JX.op rfl rfl (JO.call [] Tryz.call78 rfl (N_l10Key to_ [47, 116] (by omega) (show List.length ([47, 116] : Str) ≤ 2 by decide) (by omega)) rfl (fun _ _ => trivial)) ?_
              rintro _ _ ⟨_, ⟨u_137, e_135, f_138, rfl, rfl⟩, rfl⟩
              have hqe_135 := e_19.symm.trans e_135
              subst hqe_135
              refine ⟨(by simp), ?_⟩
              refine JA.one (i := 5) (by kernel_rfl) ?_
              refine JX.op rfl rfl (JO.call [0, 0, 0] Tryz.call81 rfl (N_sSetNum x_117 m_118 k_116 (by omega) (by omega) u_21 (n_33 + 1) (by omega) (by omega)) rfl (fun _ _ => trivial)) ?_
              rintro _ _ ⟨_, ⟨x_145, m_146, e_143, k_144, rfl, rfl⟩, rfl⟩
              refine ⟨(by simp), ?_⟩
              refine JA.one (i := 6) (by kernel_rfl) ?_
              refine JX.last rfl rfl rfl (by kernel_rfl) (JO.store 4 (vs := [.slice x_145.a0 m_146.s.length x_145.c0, .slice x_145.a1 m_146.r.length x_145.c1, .slice x_145.a2 m_146.w.length x_145.c2]) (cs' := [.slice x_145.a0 m_146.s.length x_145.c0, .slice x_145.a1 m_146.r.length x_145.c1, .slice x_145.a2 m_146.w.length x_145.c2]) rfl rfl rfl rfl Tryz.sizeOf32 rfl rfl (Nat.le_of_ble_eq_true rfl) rfl) ?_
              rintro _ _ rfl
              refine JQ.seq ?_
              refine JC.seq ?_
              refine JC.regionA [mb b_1 x_145 m_146] 8 mixed (by simp) ?_
              refine JA.take 0 rfl (by kernel_rfl) (NP.th NP.body) (by kernel_rfl) (by kernel_rfl) (by kernel_rfl) rfl (LO.loadK 0 (vs := [.slice x_145.a0 m_146.s.length x_145.c0, .slice x_145.a1 m_146.r.length x_145.c1, .slice x_145.a2 m_146.w.length x_145.c2]) rfl rfl Tryz.isAgg32 Tryz.sizeOf32 rfl rfl) ?_
              refine JA.take 1 rfl (by kernel_rfl) (NP.th NP.body) (by kernel_rfl) (by kernel_rfl) (by kernel_rfl) rfl (LO.pure (PO.move (v := .int .i64 to_) rfl)) ?_
              refine JA.take 2 rfl (by kernel_rfl) (NP.th NP.body) (by kernel_rfl) (by kernel_rfl) (by kernel_rfl) rfl (LO.pure (PO.move (v := .int .i64 n_33) rfl)) ?_
              refine JA.take 3 rfl (by kernel_rfl) (NP.th NP.body) (by kernel_rfl) (by kernel_rfl) (by kernel_rfl) rfl (LO.pure (PO.add (c := n_33 + 1) rfl rfl (wr (by omega)))) ?_
              refine JA.take 5 rfl (by kernel_rfl) (NP.th NP.body) (by kernel_rfl) (by kernel_rfl) (by kernel_rfl) rfl (LO.pure (PO.move (v := .int .i64 n) rfl)) ?_
              refine JA.one (i := 4) (by kernel_rfl) ?_
              refine JX.op rfl rfl (JO.call [] Tryz.call79 rfl (N_l10Signal to_ (n_33 + 1) (by omega) (by omega)) rfl (fun _ _ => trivial)) ?_
              rintro _ _ ⟨_, ⟨u_157, e_155, f_158, rfl, rfl⟩, rfl⟩
              refine ⟨(by simp), ?_⟩
              refine JA.one (i := 6) (by kernel_rfl) ?_
              refine JX.op rfl rfl (JO.call [0, 0, 0] Tryz.call81 rfl (N_sSetNum x_145 m_146 k_144 (by omega) (by omega) u_157 n (by omega) (by omega)) rfl (fun _ _ => trivial)) ?_
              rintro _ _ ⟨_, ⟨x_165, m_166, e_163, k_164, rfl, rfl⟩, rfl⟩
              refine ⟨(by simp), ?_⟩
              refine JA.one (i := 7) (by kernel_rfl) ?_
              refine JX.op rfl rfl (JO.store 3 (vs := [.slice x_165.a0 m_166.s.length x_165.c0, .slice x_165.a1 m_166.r.length x_165.c1, .slice x_165.a2 m_166.w.length x_165.c2]) (cs' := [.slice x_165.a0 m_166.s.length x_165.c0, .slice x_165.a1 m_166.r.length x_165.c1, .slice x_165.a2 m_166.w.length x_165.c2]) rfl rfl rfl rfl Tryz.sizeOf32 rfl rfl (Nat.le_of_ble_eq_true rfl) rfl) ?_
              rintro _ _ rfl
              refine ⟨(by simp), ?_⟩
              refine JA.take 8 rfl (by kernel_rfl) (NP.th NP.body) (by kernel_rfl) (by kernel_rfl) (by kernel_rfl) rfl (LO.pure (PO.assign (v := .int .i64 0) rfl)) ?_
              refine JA.done (by kernel_rfl) ?_
              refine JQ.seq ?_
              refine JC.ret ?_
              refine Done.two (.inl rfl) rfl (RV.cell1 (LO.loadK 3 (vs := [.slice x_165.a0 m_166.s.length x_165.c0, .slice x_165.a1 m_166.r.length x_165.c1, .slice x_165.a2 m_166.w.length x_165.c2]) rfl rfl Tryz.isAgg32 Tryz.sizeOf32 rfl rfl) ⟨_, rfl⟩) (RV.tmp (v := .int .i64 0) rfl) (List.sublist_append_left [rC x_165.a0 x_165.c0 m_166.s, rS x_165.a1 x_165.c1 m_166.r, rS x_165.a2 x_165.c2 m_166.w] [mb b_2 x_165 m_166, mb b_1 x_145 m_146]) ?_
              exact ⟨x_165, m_166, 0, (by simp only [MS.send, e_3, h_9, h_10, e_19, e_29, e_105, e_115, h_121, h_122, e_143, e_155, e_163, if_true, if_false, Bool.false_eq_true, Bool.not_true, Bool.not_false]; (repeat (first | rw [if_pos (by omega)] | rw [if_neg (by omega)])); all_goals (first | rfl | simp only [if_true, if_false, Bool.false_eq_true, Bool.not_true, Bool.not_false, e_3, h_9, h_10, e_19, e_29, e_105, e_115, h_121, h_122, e_143, e_155, e_163])), (k_164.mono (by omega) (by omega)), (by first | omega | (simp only [List.length_append, List.length_cons, List.length_nil, List.length_take, List.length_drop]; omega)), rfl, rfl⟩
      · skip
        refine JX.op rfl rfl (JO.call [] Tryz.call78 rfl (N_l10Key to_ [47, 116] (by omega) (show List.length ([47, 116] : Str) ≤ 2 by decide) (by omega)) rfl (fun _ _ => trivial)) ?_
        rintro _ _ ⟨_, ⟨u_169, e_167, f_170, rfl, rfl⟩, rfl⟩
        refine ⟨(fun _ h => by cases h), ?_⟩
        refine JA.one (i := 0) (by kernel_rfl) ?_
        refine JX.op rfl rfl (JO.ofLO (LO.loadK 4 (vs := [.slice x_5.a0 m_6.s.length x_5.c0, .slice x_5.a1 m_6.r.length x_5.c1, .slice x_5.a2 m_6.w.length x_5.c2]) rfl rfl Tryz.isAgg32 Tryz.sizeOf32 rfl rfl)) ?_
        rintro _ _ ⟨rfl, rfl⟩
        refine ⟨(fun _ h => by cases h), ?_⟩
        refine JA.one (i := 3) (by kernel_rfl) ?_
        refine JX.op rfl rfl (JO.call [0, 0, 0] Tryz.call77 rfl (N_sNumAt x_5 m_6 k_4 (by omega) (by omega) u_169) rfl (fun _ _ => trivial)) ?_
        rintro _ _ ⟨_, ⟨x_179, m_180, n_181, e_177, k_178, f_182, rfl, rfl⟩, rfl⟩
        refine ⟨(fun _ h => by cases h), ?_⟩
        refine JA.take 4 rfl (by kernel_rfl) (NP.th NP.body) (by kernel_rfl) (by kernel_rfl) (by kernel_rfl) rfl (LO.pure (PO.move (v := .tuple #[mv x_179 m_180, .int .i64 n_181]) rfl)) ?_
        refine JA.take 5 rfl (by kernel_rfl) (NP.th NP.body) (by kernel_rfl) (by kernel_rfl) (by kernel_rfl) rfl (LO.pure (PO.extract (v := mv x_179 m_180) rfl rfl)) ?_
        refine JA.take 6 rfl (by kernel_rfl) (NP.th NP.body) (by kernel_rfl) (by kernel_rfl) (by kernel_rfl) rfl (LO.pure (PO.extract (v := .int .i64 n_181) rfl rfl)) ?_
        refine JA.one (i := 7) (by kernel_rfl) ?_
        refine JX.op rfl rfl (JO.store 4 (vs := [.slice x_179.a0 m_180.s.length x_179.c0, .slice x_179.a1 m_180.r.length x_179.c1, .slice x_179.a2 m_180.w.length x_179.c2]) (cs' := [.slice x_179.a0 m_180.s.length x_179.c0, .slice x_179.a1 m_180.r.length x_179.c1, .slice x_179.a2 m_180.w.length x_179.c2]) rfl rfl rfl rfl Tryz.sizeOf32 rfl rfl (Nat.le_of_ble_eq_true rfl) rfl) ?_
        rintro _ _ rfl
        refine ⟨(fun _ h => by cases h), ?_⟩
        refine JA.take 8 rfl (by kernel_rfl) (NP.th NP.body) (by kernel_rfl) (by kernel_rfl) (by kernel_rfl) rfl (LO.pure (PO.assign (v := .int .i64 n_181) rfl)) ?_
        refine JA.done (by kernel_rfl) ?_
        refine JQ.seq ?_
        refine JC.seq ?_
        refine JC.regionA [] 8 mixed (by simp) ?_
        refine JA.take 1 rfl (by kernel_rfl) (NP.th NP.body) (by kernel_rfl) (by kernel_rfl) (by kernel_rfl) rfl (LO.pure (PO.move (v := .int .i64 to_) rfl)) ?_
        refine JA.two (i := 0) (j := 2) (by kernel_rfl) ?_ ?_
        · skip
          refine JX.op rfl rfl (JO.ofLO (LO.loadK 4 (vs := [.slice x_179.a0 m_180.s.length x_179.c0, .slice x_179.a1 m_180.r.length x_179.c1, .slice x_179.a2 m_180.w.length x_179.c2]) rfl rfl Tryz.isAgg32 Tryz.sizeOf32 rfl rfl)) ?_
          rintro _ _ ⟨rfl, rfl⟩
          refine ⟨(fun _ h => by cases h), ?_⟩
          refine JA.one (i := 2) (by kernel_rfl) ?_
          refine JX.op rfl rfl (JO.call [] Tryz.call78 rfl (N_l10Key to_ [47, 104] (by omega) (show List.length ([47, 104] : Str) ≤ 2 by decide) (by omega)) rfl (fun _ _ => trivial)) ?_
          rintro _ _ ⟨_, ⟨u_193, e_191, f_194, rfl, rfl⟩, rfl⟩
          refine ⟨(fun _ h => by cases h), ?_⟩
          refine JA.one (i := 3) (by kernel_rfl) ?_
          refine JX.op rfl rfl (JO.call [0, 0, 0] Tryz.call77 rfl (N_sNumAt x_179 m_180 k_178 (by omega) (by omega) u_193) rfl (fun _ _ => trivial)) ?_
          rintro _ _ ⟨_, ⟨x_203, m_204, n_205, e_201, k_202, f_206, rfl, rfl⟩, rfl⟩
          refine ⟨(fun _ h => by cases h), ?_⟩
          refine JA.take 4 rfl (by kernel_rfl) (NP.th NP.body) (by kernel_rfl) (by kernel_rfl) (by kernel_rfl) rfl (LO.pure (PO.move (v := .tuple #[mv x_203 m_204, .int .i64 n_205]) rfl)) ?_
          refine JA.take 5 rfl (by kernel_rfl) (NP.th NP.body) (by kernel_rfl) (by kernel_rfl) (by kernel_rfl) rfl (LO.pure (PO.extract (v := mv x_203 m_204) rfl rfl)) ?_
          refine JA.take 6 rfl (by kernel_rfl) (NP.th NP.body) (by kernel_rfl) (by kernel_rfl) (by kernel_rfl) rfl (LO.pure (PO.extract (v := .int .i64 n_205) rfl rfl)) ?_
          refine JA.one (i := 7) (by kernel_rfl) ?_
          refine JX.op rfl rfl (JO.store 4 (vs := [.slice x_203.a0 m_204.s.length x_203.c0, .slice x_203.a1 m_204.r.length x_203.c1, .slice x_203.a2 m_204.w.length x_203.c2]) (cs' := [.slice x_203.a0 m_204.s.length x_203.c0, .slice x_203.a1 m_204.r.length x_203.c1, .slice x_203.a2 m_204.w.length x_203.c2]) rfl rfl rfl rfl Tryz.sizeOf32 rfl rfl (Nat.le_of_ble_eq_true rfl) rfl) ?_
          rintro _ _ rfl
          refine ⟨(fun _ h => by cases h), ?_⟩
          refine JA.take 8 rfl (by kernel_rfl) (NP.th NP.body) (by kernel_rfl) (by kernel_rfl) (by kernel_rfl) rfl (LO.pure (PO.assign (v := .int .i64 n_205) rfl)) ?_
          refine JA.done (by kernel_rfl) ?_
          refine JQ.seq ?_
          refine JC.seq ?_
          refine JC.seq ?_
          refine JC.region ?_
          refine JL.pure rfl (PO.move (v := .int .i64 n_181) rfl) ?_
          refine JL.pure rfl (PO.move (v := .int .i64 n_205) rfl) ?_
          refine JL.pure rfl (PO.sub (c := n_181 - n_205) rfl rfl (wr (by omega))) ?_
          refine JL.pure rfl (PO.geq rfl rfl) ?_
          refine JL.nil ?_
          refine JQ.seq ?_
          by_cases h_207 : 4 ≤ (n_181 - n_205)
          · skip
            refine JC.condT (congrArg Value.bool (decide_eq_true h_207)) ?_
            refine JC.seq ?_
            refine JC.region ?_
            refine JL.ld rfl (LO.loadK 4 (vs := [.slice x_203.a0 m_204.s.length x_203.c0, .slice x_203.a1 m_204.r.length x_203.c1, .slice x_203.a2 m_204.w.length x_203.c2]) rfl rfl Tryz.isAgg32 Tryz.sizeOf32 rfl rfl) ?_
            refine JL.op rfl (JO.store 3 (vs := [.slice x_203.a0 m_204.s.length x_203.c0, .slice x_203.a1 m_204.r.length x_203.c1, .slice x_203.a2 m_204.w.length x_203.c2]) (cs' := [.slice x_203.a0 m_204.s.length x_203.c0, .slice x_203.a1 m_204.r.length x_203.c1, .slice x_203.a2 m_204.w.length x_203.c2]) rfl rfl rfl rfl Tryz.sizeOf32 rfl rfl (Nat.le_of_ble_eq_true rfl) rfl) ?_
            rintro _ _ rfl
            refine JL.pure rfl (PO.assign (v := .int .i64 5) rfl) ?_
            refine JL.nil ?_
            refine JQ.seq ?_
            refine JC.ret ?_
            refine JQ.thenRet ?_
            refine Done.two (.inl rfl) rfl (RV.cell1 (LO.loadK 3 (vs := [.slice x_203.a0 m_204.s.length x_203.c0, .slice x_203.a1 m_204.r.length x_203.c1, .slice x_203.a2 m_204.w.length x_203.c2]) rfl rfl Tryz.isAgg32 Tryz.sizeOf32 rfl rfl) ⟨_, rfl⟩) (RV.tmp (v := .int .i64 5) rfl) (List.sublist_append_left [rC x_203.a0 x_203.c0 m_204.s, rS x_203.a1 x_203.c1 m_204.r, rS x_203.a2 x_203.c2 m_204.w] [mb b_2 x_203 m_204, mb b_1 x_203 m_204]) ?_
            exact ⟨x_203, m_204, 5, (by simp only [MS.send, e_3, h_9, h_10, e_167, e_177, e_191, e_201, h_207, if_true, if_false, Bool.false_eq_true, Bool.not_true, Bool.not_false]; (repeat (first | rw [if_pos (by omega)] | rw [if_neg (by omega)])); all_goals (first | rfl | simp only [if_true, if_false, Bool.false_eq_true, Bool.not_true, Bool.not_false, e_3, h_9, h_10, e_167, e_177, e_191, e_201, h_207])), (k_202.mono (by omega) (by omega)), (by first | omega | (simp only [List.length_append, List.length_cons, List.length_nil, List.length_take, List.length_drop]; omega)), rfl, rfl⟩
          · skip
            refine JC.condF (congrArg Value.bool (decide_eq_false h_207)) ?_
            refine JC.skip ?_
            refine JQ.seq ?_
            refine JC.seq ?_
            refine JC.seq ?_
            refine JC.region ?_
            refine JL.pure rfl (PO.move (v := .int .i64 n_181) rfl) ?_
            refine JL.pure rfl (PO.geq rfl rfl) ?_
            refine JL.nil ?_
            refine JQ.seq ?_
            by_cases h_208 : 999 ≤ n_181
            · skip
              refine JC.condT (congrArg Value.bool (decide_eq_true h_208)) ?_
              refine JC.seq ?_
              refine JC.region ?_
              refine JL.ld rfl (LO.loadK 4 (vs := [.slice x_203.a0 m_204.s.length x_203.c0, .slice x_203.a1 m_204.r.length x_203.c1, .slice x_203.a2 m_204.w.length x_203.c2]) rfl rfl Tryz.isAgg32 Tryz.sizeOf32 rfl rfl) ?_
              refine JL.op rfl (JO.store 3 (vs := [.slice x_203.a0 m_204.s.length x_203.c0, .slice x_203.a1 m_204.r.length x_203.c1, .slice x_203.a2 m_204.w.length x_203.c2]) (cs' := [.slice x_203.a0 m_204.s.length x_203.c0, .slice x_203.a1 m_204.r.length x_203.c1, .slice x_203.a2 m_204.w.length x_203.c2]) rfl rfl rfl rfl Tryz.sizeOf32 rfl rfl (Nat.le_of_ble_eq_true rfl) rfl) ?_
              rintro _ _ rfl
              refine JL.pure rfl (PO.assign (v := .int .i64 3) rfl) ?_
              refine JL.nil ?_
              refine JQ.seq ?_
              refine JC.ret ?_
              refine JQ.thenRet ?_
              refine Done.two (.inl rfl) rfl (RV.cell1 (LO.loadK 3 (vs := [.slice x_203.a0 m_204.s.length x_203.c0, .slice x_203.a1 m_204.r.length x_203.c1, .slice x_203.a2 m_204.w.length x_203.c2]) rfl rfl Tryz.isAgg32 Tryz.sizeOf32 rfl rfl) ⟨_, rfl⟩) (RV.tmp (v := .int .i64 3) rfl) (List.sublist_append_left [rC x_203.a0 x_203.c0 m_204.s, rS x_203.a1 x_203.c1 m_204.r, rS x_203.a2 x_203.c2 m_204.w] [mb b_2 x_203 m_204, mb b_1 x_203 m_204]) ?_
              exact ⟨x_203, m_204, 3, (by simp only [MS.send, e_3, h_9, h_10, e_167, e_177, e_191, e_201, h_207, h_208, if_true, if_false, Bool.false_eq_true, Bool.not_true, Bool.not_false]; (repeat (first | rw [if_pos (by omega)] | rw [if_neg (by omega)])); all_goals (first | rfl | simp only [if_true, if_false, Bool.false_eq_true, Bool.not_true, Bool.not_false, e_3, h_9, h_10, e_167, e_177, e_191, e_201, h_207, h_208])), (k_202.mono (by omega) (by omega)), (by first | omega | (simp only [List.length_append, List.length_cons, List.length_nil, List.length_take, List.length_drop]; omega)), rfl, rfl⟩
            · skip
              refine JC.condF (congrArg Value.bool (decide_eq_false h_208)) ?_
              refine JC.skip ?_
              refine JQ.seq ?_
              refine JC.seq ?_
              refine JC.regionA [mb b_1 x_203 m_204] 6 mixed (by simp) ?_
              refine JA.take 0 rfl (by kernel_rfl) (NP.th NP.body) (by kernel_rfl) (by kernel_rfl) (by kernel_rfl) rfl (LO.loadK 0 (vs := [.slice x_203.a0 m_204.s.length x_203.c0, .slice x_203.a1 m_204.r.length x_203.c1, .slice x_203.a2 m_204.w.length x_203.c2]) rfl rfl Tryz.isAgg32 Tryz.sizeOf32 rfl rfl) ?_
              refine JA.take 1 rfl (by kernel_rfl) (NP.th NP.body) (by kernel_rfl) (by kernel_rfl) (by kernel_rfl) rfl (LO.pure (PO.move (v := .int .i64 to_) rfl)) ?_
              refine JA.take 3 rfl (by kernel_rfl) (NP.th NP.body) (by kernel_rfl) (by kernel_rfl) (by kernel_rfl) rfl (LO.pure (PO.move (v := .int .i64 n_181) rfl)) ?_
              refine JA.take 4 rfl (by kernel_rfl) (NP.th NP.body) (by kernel_rfl) (by kernel_rfl) (by kernel_rfl) rfl (LO.pure (PO.add (c := n_181 + 1) rfl rfl (wr (by omega)))) ?_
              refine JA.one (i := 2) (by kernel_rfl) ?_
              refine JX.op rfl rfl (JO.call [] Tryz.call78 rfl (N_l10Key to_ [47, 116] (by omega) (show List.length ([47, 116] : Str) ≤ 2 by decide) (by omega)) rfl (fun _ _ => trivial)) ?_
              rintro _ _ ⟨_, ⟨u_223, e_221, f_224, rfl, rfl⟩, rfl⟩
              have hqe_221 := e_167.symm.trans e_221
              subst hqe_221
              refine ⟨(by simp), ?_⟩
              refine JA.one (i := 5) (by kernel_rfl) ?_
              refine JX.op rfl rfl (JO.call [0, 0, 0] Tryz.call81 rfl (N_sSetNum x_203 m_204 k_202 (by omega) (by omega) u_169 (n_181 + 1) (by omega) (by omega)) rfl (fun _ _ => trivial)) ?_
              rintro _ _ ⟨_, ⟨x_231, m_232, e_229, k_230, rfl, rfl⟩, rfl⟩
              refine ⟨(by simp), ?_⟩
              refine JA.one (i := 6) (by kernel_rfl) ?_
              refine JX.last rfl rfl rfl (by kernel_rfl) (JO.store 4 (vs := [.slice x_231.a0 m_232.s.length x_231.c0, .slice x_231.a1 m_232.r.length x_231.c1, .slice x_231.a2 m_232.w.length x_231.c2]) (cs' := [.slice x_231.a0 m_232.s.length x_231.c0, .slice x_231.a1 m_232.r.length x_231.c1, .slice x_231.a2 m_232.w.length x_231.c2]) rfl rfl rfl rfl Tryz.sizeOf32 rfl rfl (Nat.le_of_ble_eq_true rfl) rfl) ?_
              rintro _ _ rfl
              refine JQ.seq ?_
              refine JC.seq ?_
              refine JC.regionA [mb b_1 x_231 m_232] 8 mixed (by simp) ?_
              refine JA.take 0 rfl (by kernel_rfl) (NP.th NP.body) (by kernel_rfl) (by kernel_rfl) (by kernel_rfl) rfl (LO.loadK 0 (vs := [.slice x_231.a0 m_232.s.length x_231.c0, .slice x_231.a1 m_232.r.length x_231.c1, .slice x_231.a2 m_232.w.length x_231.c2]) rfl rfl Tryz.isAgg32 Tryz.sizeOf32 rfl rfl) ?_
              refine JA.take 1 rfl (by kernel_rfl) (NP.th NP.body) (by kernel_rfl) (by kernel_rfl) (by kernel_rfl) rfl (LO.pure (PO.move (v := .int .i64 to_) rfl)) ?_
              refine JA.take 2 rfl (by kernel_rfl) (NP.th NP.body) (by kernel_rfl) (by kernel_rfl) (by kernel_rfl) rfl (LO.pure (PO.move (v := .int .i64 n_181) rfl)) ?_
              refine JA.take 3 rfl (by kernel_rfl) (NP.th NP.body) (by kernel_rfl) (by kernel_rfl) (by kernel_rfl) rfl (LO.pure (PO.add (c := n_181 + 1) rfl rfl (wr (by omega)))) ?_
              refine JA.take 5 rfl (by kernel_rfl) (NP.th NP.body) (by kernel_rfl) (by kernel_rfl) (by kernel_rfl) rfl (LO.pure (PO.move (v := .int .i64 n) rfl)) ?_
              refine JA.one (i := 4) (by kernel_rfl) ?_
              refine JX.op rfl rfl (JO.call [] Tryz.call79 rfl (N_l10Signal to_ (n_181 + 1) (by omega) (by omega)) rfl (fun _ _ => trivial)) ?_
              rintro _ _ ⟨_, ⟨u_243, e_241, f_244, rfl, rfl⟩, rfl⟩
              refine ⟨(by simp), ?_⟩
              refine JA.one (i := 6) (by kernel_rfl) ?_
              refine JX.op rfl rfl (JO.call [0, 0, 0] Tryz.call81 rfl (N_sSetNum x_231 m_232 k_230 (by omega) (by omega) u_243 n (by omega) (by omega)) rfl (fun _ _ => trivial)) ?_
              rintro _ _ ⟨_, ⟨x_251, m_252, e_249, k_250, rfl, rfl⟩, rfl⟩
              refine ⟨(by simp), ?_⟩
              refine JA.one (i := 7) (by kernel_rfl) ?_
              refine JX.op rfl rfl (JO.store 3 (vs := [.slice x_251.a0 m_252.s.length x_251.c0, .slice x_251.a1 m_252.r.length x_251.c1, .slice x_251.a2 m_252.w.length x_251.c2]) (cs' := [.slice x_251.a0 m_252.s.length x_251.c0, .slice x_251.a1 m_252.r.length x_251.c1, .slice x_251.a2 m_252.w.length x_251.c2]) rfl rfl rfl rfl Tryz.sizeOf32 rfl rfl (Nat.le_of_ble_eq_true rfl) rfl) ?_
              rintro _ _ rfl
              refine ⟨(by simp), ?_⟩
              refine JA.take 8 rfl (by kernel_rfl) (NP.th NP.body) (by kernel_rfl) (by kernel_rfl) (by kernel_rfl) rfl (LO.pure (PO.assign (v := .int .i64 0) rfl)) ?_
              refine JA.done (by kernel_rfl) ?_
              refine JQ.seq ?_
              refine JC.ret ?_
              refine Done.two (.inl rfl) rfl (RV.cell1 (LO.loadK 3 (vs := [.slice x_251.a0 m_252.s.length x_251.c0, .slice x_251.a1 m_252.r.length x_251.c1, .slice x_251.a2 m_252.w.length x_251.c2]) rfl rfl Tryz.isAgg32 Tryz.sizeOf32 rfl rfl) ⟨_, rfl⟩) (RV.tmp (v := .int .i64 0) rfl) (List.sublist_append_left [rC x_251.a0 x_251.c0 m_252.s, rS x_251.a1 x_251.c1 m_252.r, rS x_251.a2 x_251.c2 m_252.w] [mb b_2 x_251 m_252, mb b_1 x_231 m_232]) ?_
              exact ⟨x_251, m_252, 0, (by simp only [MS.send, e_3, h_9, h_10, e_167, e_177, e_191, e_201, h_207, h_208, e_229, e_241, e_249, if_true, if_false, Bool.false_eq_true, Bool.not_true, Bool.not_false]; (repeat (first | rw [if_pos (by omega)] | rw [if_neg (by omega)])); all_goals (first | rfl | simp only [if_true, if_false, Bool.false_eq_true, Bool.not_true, Bool.not_false, e_3, h_9, h_10, e_167, e_177, e_191, e_201, h_207, h_208, e_229, e_241, e_249])), (k_250.mono (by omega) (by omega)), (by first | omega | (simp only [List.length_append, List.length_cons, List.length_nil, List.length_take, List.length_drop]; omega)), rfl, rfl⟩
        · skip
          refine JX.op rfl rfl (JO.call [] Tryz.call78 rfl (N_l10Key to_ [47, 104] (by omega) (show List.length ([47, 104] : Str) ≤ 2 by decide) (by omega)) rfl (fun _ _ => trivial)) ?_
          rintro _ _ ⟨_, ⟨u_255, e_253, f_256, rfl, rfl⟩, rfl⟩
          refine ⟨(fun _ h => by cases h), ?_⟩
          refine JA.one (i := 0) (by kernel_rfl) ?_
          refine JX.op rfl rfl (JO.ofLO (LO.loadK 4 (vs := [.slice x_179.a0 m_180.s.length x_179.c0, .slice x_179.a1 m_180.r.length x_179.c1, .slice x_179.a2 m_180.w.length x_179.c2]) rfl rfl Tryz.isAgg32 Tryz.sizeOf32 rfl rfl)) ?_
          rintro _ _ ⟨rfl, rfl⟩
          refine ⟨(fun _ h => by cases h), ?_⟩
          refine JA.one (i := 3) (by kernel_rfl) ?_
          refine JX.op rfl rfl (JO.call [0, 0, 0] Tryz.call77 rfl (N_sNumAt x_179 m_180 k_178 (by omega) (by omega) u_255) rfl (fun _ _ => trivial)) ?_
          rintro _ _ ⟨_, ⟨x_265, m_266, n_267, e_263, k_264, f_268, rfl, rfl⟩, rfl⟩
          refine ⟨(fun _ h => by cases h), ?_⟩
          refine JA.take 4 rfl (by kernel_rfl) (NP.th NP.body) (by kernel_rfl) (by kernel_rfl) (by kernel_rfl) rfl (LO.pure (PO.move (v := .tuple #[mv x_265 m_266, .int .i64 n_267]) rfl)) ?_
          refine JA.take 5 rfl (by kernel_rfl) (NP.th NP.body) (by kernel_rfl) (by kernel_rfl) (by kernel_rfl) rfl (LO.pure (PO.extract (v := mv x_265 m_266) rfl rfl)) ?_
          refine JA.take 6 rfl (by kernel_rfl) (NP.th NP.body) (by kernel_rfl) (by kernel_rfl) (by kernel_rfl) rfl (LO.pure (PO.extract (v := .int .i64 n_267) rfl rfl)) ?_
          refine JA.one (i := 7) (by kernel_rfl) ?_
          refine JX.op rfl rfl (JO.store 4 (vs := [.slice x_265.a0 m_266.s.length x_265.c0, .slice x_265.a1 m_266.r.length x_265.c1, .slice x_265.a2 m_266.w.length x_265.c2]) (cs' := [.slice x_265.a0 m_266.s.length x_265.c0, .slice x_265.a1 m_266.r.length x_265.c1, .slice x_265.a2 m_266.w.length x_265.c2]) rfl rfl rfl rfl Tryz.sizeOf32 rfl rfl (Nat.le_of_ble_eq_true rfl) rfl) ?_
          rintro _ _ rfl
          refine ⟨(fun _ h => by cases h), ?_⟩
          refine JA.take 8 rfl (by kernel_rfl) (NP.th NP.body) (by kernel_rfl) (by kernel_rfl) (by kernel_rfl) rfl (LO.pure (PO.assign (v := .int .i64 n_267) rfl)) ?_
          refine JA.done (by kernel_rfl) ?_
          refine JQ.seq ?_
          refine JC.seq ?_
          refine JC.seq ?_
          refine JC.region ?_
          refine JL.pure rfl (PO.move (v := .int .i64 n_181) rfl) ?_
          refine JL.pure rfl (PO.move (v := .int .i64 n_267) rfl) ?_
          refine JL.pure rfl (PO.sub (c := n_181 - n_267) rfl rfl (wr (by omega))) ?_
          refine JL.pure rfl (PO.geq rfl rfl) ?_
          refine JL.nil ?_
          refine JQ.seq ?_
          by_cases h_269 : 4 ≤ (n_181 - n_267)
          · skip
            refine JC.condT (congrArg Value.bool (decide_eq_true h_269)) ?_
            refine JC.seq ?_
            refine JC.region ?_
            refine JL.ld rfl (LO.loadK 4 (vs := [.slice x_265.a0 m_266.s.length x_265.c0, .slice x_265.a1 m_266.r.length x_265.c1, .slice x_265.a2 m_266.w.length x_265.c2]) rfl rfl Tryz.isAgg32 Tryz.sizeOf32 rfl rfl) ?_
            refine JL.op rfl (JO.store 3 (vs := [.slice x_265.a0 m_266.s.length x_265.c0, .slice x_265.a1 m_266.r.length x_265.c1, .slice x_265.a2 m_266.w.length x_265.c2]) (cs' := [.slice x_265.a0 m_266.s.length x_265.c0, .slice x_265.a1 m_266.r.length x_265.c1, .slice x_265.a2 m_266.w.length x_265.c2]) rfl rfl rfl rfl Tryz.sizeOf32 rfl rfl (Nat.le_of_ble_eq_true rfl) rfl) ?_
            rintro _ _ rfl
            refine JL.pure rfl (PO.assign (v := .int .i64 5) rfl) ?_
            refine JL.nil ?_
            refine JQ.seq ?_
            refine JC.ret ?_
            refine JQ.thenRet ?_
            refine Done.two (.inl rfl) rfl (RV.cell1 (LO.loadK 3 (vs := [.slice x_265.a0 m_266.s.length x_265.c0, .slice x_265.a1 m_266.r.length x_265.c1, .slice x_265.a2 m_266.w.length x_265.c2]) rfl rfl Tryz.isAgg32 Tryz.sizeOf32 rfl rfl) ⟨_, rfl⟩) (RV.tmp (v := .int .i64 5) rfl) (List.sublist_append_left [rC x_265.a0 x_265.c0 m_266.s, rS x_265.a1 x_265.c1 m_266.r, rS x_265.a2 x_265.c2 m_266.w] [mb b_2 x_265 m_266, mb b_1 x_265 m_266]) ?_
            exact ⟨x_265, m_266, 5, (by simp only [MS.send, e_3, h_9, h_10, e_167, e_177, e_253, e_263, h_269, if_true, if_false, Bool.false_eq_true, Bool.not_true, Bool.not_false]; (repeat (first | rw [if_pos (by omega)] | rw [if_neg (by omega)])); all_goals (first | rfl | simp only [if_true, if_false, Bool.false_eq_true, Bool.not_true, Bool.not_false, e_3, h_9, h_10, e_167, e_177, e_253, e_263, h_269])), (k_264.mono (by omega) (by omega)), (by first | omega | (simp only [List.length_append, List.length_cons, List.length_nil, List.length_take, List.length_drop]; omega)), rfl, rfl⟩
          · skip
            refine JC.condF (congrArg Value.bool (decide_eq_false h_269)) ?_
            refine JC.skip ?_
            refine JQ.seq ?_
            refine JC.seq ?_
            refine JC.seq ?_
            refine JC.region ?_
            refine JL.pure rfl (PO.move (v := .int .i64 n_181) rfl) ?_
            refine JL.pure rfl (PO.geq rfl rfl) ?_
            refine JL.nil ?_
            refine JQ.seq ?_
            by_cases h_270 : 999 ≤ n_181
            · skip
              refine JC.condT (congrArg Value.bool (decide_eq_true h_270)) ?_
              refine JC.seq ?_
              refine JC.region ?_
              refine JL.ld rfl (LO.loadK 4 (vs := [.slice x_265.a0 m_266.s.length x_265.c0, .slice x_265.a1 m_266.r.length x_265.c1, .slice x_265.a2 m_266.w.length x_265.c2]) rfl rfl Tryz.isAgg32 Tryz.sizeOf32 rfl rfl) ?_
              refine JL.op rfl (JO.store 3 (vs := [.slice x_265.a0 m_266.s.length x_265.c0, .slice x_265.a1 m_266.r.length x_265.c1, .slice x_265.a2 m_266.w.length x_265.c2]) (cs' := [.slice x_265.a0 m_266.s.length x_265.c0, .slice x_265.a1 m_266.r.length x_265.c1, .slice x_265.a2 m_266.w.length x_265.c2]) rfl rfl rfl rfl Tryz.sizeOf32 rfl rfl (Nat.le_of_ble_eq_true rfl) rfl) ?_
              rintro _ _ rfl
              refine JL.pure rfl (PO.assign (v := .int .i64 3) rfl) ?_
              refine JL.nil ?_
              refine JQ.seq ?_
              refine JC.ret ?_
              refine JQ.thenRet ?_
              refine Done.two (.inl rfl) rfl (RV.cell1 (LO.loadK 3 (vs := [.slice x_265.a0 m_266.s.length x_265.c0, .slice x_265.a1 m_266.r.length x_265.c1, .slice x_265.a2 m_266.w.length x_265.c2]) rfl rfl Tryz.isAgg32 Tryz.sizeOf32 rfl rfl) ⟨_, rfl⟩) (RV.tmp (v := .int .i64 3) rfl) (List.sublist_append_left [rC x_265.a0 x_265.c0 m_266.s, rS x_265.a1 x_265.c1 m_266.r, rS x_265.a2 x_265.c2 m_266.w] [mb b_2 x_265 m_266, mb b_1 x_265 m_266]) ?_
              exact ⟨x_265, m_266, 3, (by simp only [MS.send, e_3, h_9, h_10, e_167, e_177, e_253, e_263, h_269, h_270, if_true, if_false, Bool.false_eq_true, Bool.not_true, Bool.not_false]; (repeat (first | rw [if_pos (by omega)] | rw [if_neg (by omega)])); all_goals (first | rfl | simp only [if_true, if_false, Bool.false_eq_true, Bool.not_true, Bool.not_false, e_3, h_9, h_10, e_167, e_177, e_253, e_263, h_269, h_270])), (k_264.mono (by omega) (by omega)), (by first | omega | (simp only [List.length_append, List.length_cons, List.length_nil, List.length_take, List.length_drop]; omega)), rfl, rfl⟩
            · skip
              refine JC.condF (congrArg Value.bool (decide_eq_false h_270)) ?_
              refine JC.skip ?_
              refine JQ.seq ?_
              refine JC.seq ?_
              refine JC.regionA [mb b_1 x_265 m_266] 6 mixed (by simp) ?_
              refine JA.take 0 rfl (by kernel_rfl) (NP.th NP.body) (by kernel_rfl) (by kernel_rfl) (by kernel_rfl) rfl (LO.loadK 0 (vs := [.slice x_265.a0 m_266.s.length x_265.c0, .slice x_265.a1 m_266.r.length x_265.c1, .slice x_265.a2 m_266.w.length x_265.c2]) rfl rfl Tryz.isAgg32 Tryz.sizeOf32 rfl rfl) ?_
              refine JA.take 1 rfl (by kernel_rfl) (NP.th NP.body) (by kernel_rfl) (by kernel_rfl) (by kernel_rfl) rfl (LO.pure (PO.move (v := .int .i64 to_) rfl)) ?_
              refine JA.take 3 rfl (by kernel_rfl) (NP.th NP.body) (by kernel_rfl) (by kernel_rfl) (by kernel_rfl) rfl (LO.pure (PO.move (v := .int .i64 n_181) rfl)) ?_
              refine JA.take 4 rfl (by kernel_rfl) (NP.th NP.body) (by kernel_rfl) (by kernel_rfl) (by kernel_rfl) rfl (LO.pure (PO.add (c := n_181 + 1) rfl rfl (wr (by omega)))) ?_
              refine JA.one (i := 2) (by kernel_rfl) ?_
              refine JX.op rfl rfl (JO.call [] Tryz.call78 rfl (N_l10Key to_ [47, 116] (by omega) (show List.length ([47, 116] : Str) ≤ 2 by decide) (by omega)) rfl (fun _ _ => trivial)) ?_
              rintro _ _ ⟨_, ⟨u_285, e_283, f_286, rfl, rfl⟩, rfl⟩
              have hqe_283 := e_167.symm.trans e_283
              subst hqe_283
              refine ⟨(by simp), ?_⟩
              refine JA.one (i := 5) (by kernel_rfl) ?_
              refine JX.op rfl rfl (JO.call [0, 0, 0] Tryz.call81 rfl (N_sSetNum x_265 m_266 k_264 (by omega) (by omega) u_169 (n_181 + 1) (by omega) (by omega)) rfl (fun _ _ => trivial)) ?_
              rintro _ _ ⟨_, ⟨x_293, m_294, e_291, k_292, rfl, rfl⟩, rfl⟩
              refine ⟨(by simp), ?_⟩
              refine JA.one (i := 6) (by kernel_rfl) ?_
              refine JX.last rfl rfl rfl (by kernel_rfl) (JO.store 4 (vs := [.slice x_293.a0 m_294.s.length x_293.c0, .slice x_293.a1 m_294.r.length x_293.c1, .slice x_293.a2 m_294.w.length x_293.c2]) (cs' := [.slice x_293.a0 m_294.s.length x_293.c0, .slice x_293.a1 m_294.r.length x_293.c1, .slice x_293.a2 m_294.w.length x_293.c2]) rfl rfl rfl rfl Tryz.sizeOf32 rfl rfl (Nat.le_of_ble_eq_true rfl) rfl) ?_
              rintro _ _ rfl
              refine JQ.seq ?_
              refine JC.seq ?_
              refine JC.regionA [mb b_1 x_293 m_294] 8 mixed (by simp) ?_
              refine JA.take 0 rfl (by kernel_rfl) (NP.th NP.body) (by kernel_rfl) (by kernel_rfl) (by kernel_rfl) rfl (LO.loadK 0 (vs := [.slice x_293.a0 m_294.s.length x_293.c0, .slice x_293.a1 m_294.r.length x_293.c1, .slice x_293.a2 m_294.w.length x_293.c2]) rfl rfl Tryz.isAgg32 Tryz.sizeOf32 rfl rfl) ?_
              refine JA.take 1 rfl (by kernel_rfl) (NP.th NP.body) (by kernel_rfl) (by kernel_rfl) (by kernel_rfl) rfl (LO.pure (PO.move (v := .int .i64 to_) rfl)) ?_
              refine JA.take 2 rfl (by kernel_rfl) (NP.th NP.body) (by kernel_rfl) (by kernel_rfl) (by kernel_rfl) rfl (LO.pure (PO.move (v := .int .i64 n_181) rfl)) ?_
              refine JA.take 3 rfl (by kernel_rfl) (NP.th NP.body) (by kernel_rfl) (by kernel_rfl) (by kernel_rfl) rfl (LO.pure (PO.add (c := n_181 + 1) rfl rfl (wr (by omega)))) ?_
              refine JA.take 5 rfl (by kernel_rfl) (NP.th NP.body) (by kernel_rfl) (by kernel_rfl) (by kernel_rfl) rfl (LO.pure (PO.move (v := .int .i64 n) rfl)) ?_
              refine JA.one (i := 4) (by kernel_rfl) ?_
              refine JX.op rfl rfl (JO.call [] Tryz.call79 rfl (N_l10Signal to_ (n_181 + 1) (by omega) (by omega)) rfl (fun _ _ => trivial)) ?_
              rintro _ _ ⟨_, ⟨u_305, e_303, f_306, rfl, rfl⟩, rfl⟩
              refine ⟨(by simp), ?_⟩
              refine JA.one (i := 6) (by kernel_rfl) ?_
              refine JX.op rfl rfl (JO.call [0, 0, 0] Tryz.call81 rfl (N_sSetNum x_293 m_294 k_292 (by omega) (by omega) u_305 n (by omega) (by omega)) rfl (fun _ _ => trivial)) ?_
              rintro _ _ ⟨_, ⟨x_313, m_314, e_311, k_312, rfl, rfl⟩, rfl⟩
              refine ⟨(by simp), ?_⟩
              refine JA.one (i := 7) (by kernel_rfl) ?_
              refine JX.op rfl rfl (JO.store 3 (vs := [.slice x_313.a0 m_314.s.length x_313.c0, .slice x_313.a1 m_314.r.length x_313.c1, .slice x_313.a2 m_314.w.length x_313.c2]) (cs' := [.slice x_313.a0 m_314.s.length x_313.c0, .slice x_313.a1 m_314.r.length x_313.c1, .slice x_313.a2 m_314.w.length x_313.c2]) rfl rfl rfl rfl Tryz.sizeOf32 rfl rfl (Nat.le_of_ble_eq_true rfl) rfl) ?_
              rintro _ _ rfl
              refine ⟨(by simp), ?_⟩
              refine JA.take 8 rfl (by kernel_rfl) (NP.th NP.body) (by kernel_rfl) (by kernel_rfl) (by kernel_rfl) rfl (LO.pure (PO.assign (v := .int .i64 0) rfl)) ?_
              refine JA.done (by kernel_rfl) ?_
              refine JQ.seq ?_
              refine JC.ret ?_
              refine Done.two (.inl rfl) rfl (RV.cell1 (LO.loadK 3 (vs := [.slice x_313.a0 m_314.s.length x_313.c0, .slice x_313.a1 m_314.r.length x_313.c1, .slice x_313.a2 m_314.w.length x_313.c2]) rfl rfl Tryz.isAgg32 Tryz.sizeOf32 rfl rfl) ⟨_, rfl⟩) (RV.tmp (v := .int .i64 0) rfl) (List.sublist_append_left [rC x_313.a0 x_313.c0 m_314.s, rS x_313.a1 x_313.c1 m_314.r, rS x_313.a2 x_313.c2 m_314.w] [mb b_2 x_313 m_314, mb b_1 x_293 m_294]) ?_
              exact ⟨x_313, m_314, 0, (by simp only [MS.send, e_3, h_9, h_10, e_167, e_177, e_253, e_263, h_269, h_270, e_291, e_303, e_311, if_true, if_false, Bool.false_eq_true, Bool.not_true, Bool.not_false]; (repeat (first | rw [if_pos (by omega)] | rw [if_neg (by omega)])); all_goals (first | rfl | simp only [if_true, if_false, Bool.false_eq_true, Bool.not_true, Bool.not_false, e_3, h_9, h_10, e_167, e_177, e_253, e_263, h_269, h_270, e_291, e_303, e_311])), (k_312.mono (by omega) (by omega)), (by first | omega | (simp only [List.length_append, List.length_cons, List.length_nil, List.length_take, List.length_drop]; omega)), rfl, rfl⟩
    · skip
      have h_10d := h_10
      simp only [Bool.and_eq_true, Bool.and_eq_false_iff, decide_eq_true_eq, decide_eq_false_iff_not] at h_10d
      refine JC.condT (congrArg Value.bool (congrArg Bool.not h_10)) ?_
      refine JC.seq ?_
      refine JC.region ?_
      refine JL.ld rfl (LO.loadK 4 (vs := [.slice x_5.a0 m_6.s.length x_5.c0, .slice x_5.a1 m_6.r.length x_5.c1, .slice x_5.a2 m_6.w.length x_5.c2]) rfl rfl Tryz.isAgg32 Tryz.sizeOf32 rfl rfl) ?_
      refine JL.op rfl (JO.store 3 (vs := [.slice x_5.a0 m_6.s.length x_5.c0, .slice x_5.a1 m_6.r.length x_5.c1, .slice x_5.a2 m_6.w.length x_5.c2]) (cs' := [.slice x_5.a0 m_6.s.length x_5.c0, .slice x_5.a1 m_6.r.length x_5.c1, .slice x_5.a2 m_6.w.length x_5.c2]) rfl rfl rfl rfl Tryz.sizeOf32 rfl rfl (Nat.le_of_ble_eq_true rfl) rfl) ?_
      rintro _ _ rfl
      refine JL.pure rfl (PO.assign (v := .int .i64 4) rfl) ?_
      refine JL.nil ?_
      refine JQ.seq ?_
      refine JC.ret ?_
      refine JQ.thenRet ?_
      refine Done.two (.inl rfl) rfl (RV.cell1 (LO.loadK 3 (vs := [.slice x_5.a0 m_6.s.length x_5.c0, .slice x_5.a1 m_6.r.length x_5.c1, .slice x_5.a2 m_6.w.length x_5.c2]) rfl rfl Tryz.isAgg32 Tryz.sizeOf32 rfl rfl) ⟨_, rfl⟩) (RV.tmp (v := .int .i64 4) rfl) (List.sublist_append_left [rC x_5.a0 x_5.c0 m_6.s, rS x_5.a1 x_5.c1 m_6.r, rS x_5.a2 x_5.c2 m_6.w] [mb b_2 x_5 m_6, mb b_1 x_5 m_6]) ?_
      exact ⟨x_5, m_6, 4, (by simp only [MS.send, e_3, h_9, h_10, if_true, if_false, Bool.false_eq_true, Bool.not_true, Bool.not_false]; (repeat (first | rw [if_pos (by omega)] | rw [if_neg (by omega)])); all_goals (first | rfl | simp only [if_true, if_false, Bool.false_eq_true, Bool.not_true, Bool.not_false, e_3, h_9, h_10])), (k_4.mono (by omega) (by omega)), (by first | omega | (simp only [List.length_append, List.length_cons, List.length_nil, List.length_take, List.length_drop]; omega)), rfl, rfl⟩
  · skip
    refine JC.condT (congrArg Value.bool (congrArg Bool.not (decide_eq_false h_9))) ?_
    refine JC.seq ?_
    refine JC.region ?_
    refine JL.ld rfl (LO.loadK 4 (vs := [.slice x_5.a0 m_6.s.length x_5.c0, .slice x_5.a1 m_6.r.length x_5.c1, .slice x_5.a2 m_6.w.length x_5.c2]) rfl rfl Tryz.isAgg32 Tryz.sizeOf32 rfl rfl) ?_
    refine JL.op rfl (JO.store 3 (vs := [.slice x_5.a0 m_6.s.length x_5.c0, .slice x_5.a1 m_6.r.length x_5.c1, .slice x_5.a2 m_6.w.length x_5.c2]) (cs' := [.slice x_5.a0 m_6.s.length x_5.c0, .slice x_5.a1 m_6.r.length x_5.c1, .slice x_5.a2 m_6.w.length x_5.c2]) rfl rfl rfl rfl Tryz.sizeOf32 rfl rfl (Nat.le_of_ble_eq_true rfl) rfl) ?_
    rintro _ _ rfl
    refine JL.pure rfl (PO.assign (v := .int .i64 2) rfl) ?_
    refine JL.nil ?_
    refine JQ.seq ?_
    refine JC.ret ?_
    refine JQ.thenRet ?_
    refine Done.two (.inl rfl) rfl (RV.cell1 (LO.loadK 3 (vs := [.slice x_5.a0 m_6.s.length x_5.c0, .slice x_5.a1 m_6.r.length x_5.c1, .slice x_5.a2 m_6.w.length x_5.c2]) rfl rfl Tryz.isAgg32 Tryz.sizeOf32 rfl rfl) ⟨_, rfl⟩) (RV.tmp (v := .int .i64 2) rfl) (List.sublist_append_left [rC x_5.a0 x_5.c0 m_6.s, rS x_5.a1 x_5.c1 m_6.r, rS x_5.a2 x_5.c2 m_6.w] [mb b_2 x_5 m_6, mb b_1 x_5 m_6]) ?_
    exact ⟨x_5, m_6, 2, (by simp only [MS.send, e_3, h_9, if_true, if_false, Bool.false_eq_true, Bool.not_true, Bool.not_false]; (repeat (first | rw [if_pos (by omega)] | rw [if_neg (by omega)])); all_goals (first | rfl | simp only [if_true, if_false, Bool.false_eq_true, Bool.not_true, Bool.not_false, e_3, h_9])), (k_4.mono (by omega) (by omega)), (by first | omega | (simp only [List.length_append, List.length_cons, List.length_nil, List.length_take, List.length_drop]; omega)), rfl, rfl⟩

end Go.Proofs.YtdjecfpmjjjplaaGreatDoor
