/-
  Calls on a machine, in place and in the reference (part 14).
-/
import Derived.Test.YtdjecfpmjjjplaaGreatDoorS13KEYS
import Derived.Test.YtdjecfpmjjjplaaGreatDoorDatD
set_option linter.unusedSimpArgs false
set_option linter.unusedVariables false
set_option linter.unnecessarySimpa false
namespace Go.Proofs.YtdjecfpmjjjplaaGreatDoor
open Go Go.RowKit
attribute [local irreducible] JL JC JQ JO LO PO JA JX Ct

theorem N_takeSignal (p : Nat) (x : MA) (m : MS) {S T : Nat} (hk : m.ok S T) (hS : S ≤ 50000000) (hT : T ≤ 50000000) (id : Int) (hid : -9223372036854775808 ≤ id ∧ id ≤ 9223372036854775807) :
    Ct Tryz.prog 48 [.pointer (some ⟨p, 0, none⟩), .int .i64 id] (mb p x m :: mr x m) (fun _ => True) (fun v A' => ∃ x' m' r0 r1, MS.takeSignal m id = (m', r0, r1) ∧ m'.ok (S + 1) (T + 5) ∧ (0 ≤ r0 ∧ r0 ≤ 999) ∧ (0 ≤ r1 ∧ r1 ≤ 9) ∧ v = .tuple #[.int .i64 r0, .int .i64 r1] ∧ A' = mb p x' m' :: mr x' m') := by
  refine Ct.intro Tryz.func48 rfl Tryz.ntmps48 (Nat.le_of_ble_eq_true rfl) fun w0 hpre => ?_
  refine JC.seq ?_
  refine JC.region ?_
  refine JL.pure rfl (PO.assign (v := .int .i64 0) rfl) ?_
  refine JL.pure rfl (PO.assign (v := .int .i64 0) rfl) ?_
  refine JL.nil ?_
  refine JQ.seq ?_
  refine JC.seq ?_
  refine JC.region ?_
  refine JL.pure rfl (PO.move (v := .pointer (some ⟨p, 0, none⟩)) rfl) ?_
  refine JL.pure rfl (PO.move (v := .int .i64 id) rfl) ?_
  refine JL.op rfl (JO.call [] Tryz.call88 rfl (N_signalKey id [47, 104] (by omega) (show List.length ([47, 104] : Str) ≤ 2 by decide) (by omega)) rfl (fun _ _ => trivial)) ?_
  rintro _ _ ⟨_, ⟨u_3, e_1, f_4, rfl, rfl⟩, rfl⟩
  refine JL.op rfl (JO.call [0, 0, 0, 0] Tryz.call87 rfl (N_num p x m hk (by omega) (by omega) u_3) rfl (fun _ _ => trivial)) ?_
  rintro _ _ ⟨_, ⟨x_7, m_8, n_9, e_5, k_6, f_10, rfl, rfl⟩, rfl⟩
  refine JL.pure rfl (PO.assign (v := .int .i64 n_9) rfl) ?_
  refine JL.nil ?_
  refine JQ.seq ?_
  refine JC.seq ?_
  refine JC.seq ?_
  refine JC.region ?_
  refine JL.pure rfl (PO.move (v := .pointer (some ⟨p, 0, none⟩)) rfl) ?_
  refine JL.pure rfl (PO.move (v := .int .i64 id) rfl) ?_
  refine JL.op rfl (JO.call [] Tryz.call88 rfl (N_signalKey id [47, 116] (by omega) (show List.length ([47, 116] : Str) ≤ 2 by decide) (by omega)) rfl (fun _ _ => trivial)) ?_
  rintro _ _ ⟨_, ⟨u_13, e_11, f_14, rfl, rfl⟩, rfl⟩
  refine JL.op rfl (JO.call [0, 0, 0, 0] Tryz.call87 rfl (N_num p x_7 m_8 k_6 (by omega) (by omega) u_13) rfl (fun _ _ => trivial)) ?_
  rintro _ _ ⟨_, ⟨x_17, m_18, n_19, e_15, k_16, f_20, rfl, rfl⟩, rfl⟩
  refine JL.pure rfl (PO.move (v := .int .i64 n_9) rfl) ?_
  refine JL.pure rfl (PO.eqlI rfl rfl) ?_
  refine JL.nil ?_
  refine JQ.seq ?_
  by_cases h_21 : n_19 = n_9
  · skip
    refine JC.condT (congrArg Value.bool (decide_eq_true h_21)) ?_
    refine JC.seq ?_
    refine JC.region ?_
    refine JL.pure rfl (PO.assign (v := .int .i64 0) rfl) ?_
    refine JL.pure rfl (PO.assign (v := .int .i64 5) rfl) ?_
    refine JL.nil ?_
    refine JQ.seq ?_
    refine JC.ret ?_
    refine JQ.thenRet ?_
    refine Done.two (.inl rfl) rfl (RV.tmp (v := .int .i64 0) rfl) (RV.tmp (v := .int .i64 5) rfl) (List.Sublist.refl _) ?_
    exact ⟨x_17, m_18, 0, 5, (by simp only [MS.takeSignal, e_1, e_5, e_11, e_15, h_21, if_true, if_false, Bool.false_eq_true, Bool.not_true, Bool.not_false]; (repeat (first | rw [if_pos (by omega)] | rw [if_neg (by omega)])); all_goals (first | rfl | simp only [if_true, if_false, Bool.false_eq_true, Bool.not_true, Bool.not_false, e_1, e_5, e_11, e_15, h_21])), (k_16.mono (by omega) (by omega)), (by first | omega | (simp only [List.length_append, List.length_cons, List.length_nil, List.length_take, List.length_drop]; omega)), (by first | omega | (simp only [List.length_append, List.length_cons, List.length_nil, List.length_take, List.length_drop]; omega)), rfl, rfl⟩
  · skip
    refine JC.condF (congrArg Value.bool (decide_eq_false h_21)) ?_
    refine JC.skip ?_
    refine JQ.seq ?_
    refine JC.seq ?_
    refine JC.region ?_
    refine JL.pure rfl (PO.move (v := .int .i64 id) rfl) ?_
    refine JL.op rfl (JO.call [] Tryz.call88 rfl (N_signalKey id [47, 113, 47] (by omega) (show List.length ([47, 113, 47] : Str) ≤ 3 by decide) (by omega)) rfl (fun _ _ => trivial)) ?_
    rintro _ _ ⟨_, ⟨u_24, e_22, f_25, rfl, rfl⟩, rfl⟩
    refine JL.pure rfl (PO.move (v := .int .i64 n_9) rfl) ?_
    refine JL.pure rfl (PO.add (c := n_9 + 1) rfl rfl (wr (by omega))) ?_
    refine JL.op rfl (JO.call [] Tryz.call89 rfl (N_keyNum u_24 (n_9 + 1) [] (Nat.le_refl _) (by omega) (show List.length ([] : Str) ≤ 0 by decide) (by omega)) rfl (fun _ _ => trivial)) ?_
    rintro _ _ ⟨_, ⟨u_28, e_26, f_29, rfl, rfl⟩, rfl⟩
    refine JL.pure rfl (PO.assign (v := str u_28) rfl) ?_
    refine JL.nil ?_
    refine JQ.seq ?_
    refine JC.seq ?_
    refine JC.region ?_
    refine JL.pure rfl (PO.move (v := .pointer (some ⟨p, 0, none⟩)) rfl) ?_
    refine JL.pure rfl (PO.move (v := str u_28) rfl) ?_
    refine JL.op rfl (JO.call [0, 0, 0, 0] Tryz.call87 rfl (N_num p x_17 m_18 k_16 (by omega) (by omega) u_28) rfl (fun _ _ => trivial)) ?_
    rintro _ _ ⟨_, ⟨x_32, m_33, n_34, e_30, k_31, f_35, rfl, rfl⟩, rfl⟩
    refine JL.pure rfl (PO.assign (v := .int .i64 n_34) rfl) ?_
    refine JL.nil ?_
    refine JQ.seq ?_
    refine JC.seq ?_
    refine JC.region ?_
    refine JL.pure rfl (PO.move (v := .pointer (some ⟨p, 0, none⟩)) rfl) ?_
    refine JL.pure rfl (PO.move (v := str u_28) rfl) ?_
    refine JL.op rfl (JO.call [0, 0, 0, 0] Tryz.call90 rfl (N_layNil p x_32 m_33 k_31 (by omega) (by omega) u_28 (by omega)) rfl (fun _ _ => trivial)) ?_
    rintro _ _ ⟨_, ⟨x_38, m_39, e_36, k_37, rfl, rfl⟩, rfl⟩
    refine JL.nil ?_
    refine JQ.seq ?_
    refine JC.seq ?_
    refine JC.region ?_
    refine JL.pure rfl (PO.move (v := .pointer (some ⟨p, 0, none⟩)) rfl) ?_
    refine JL.pure rfl (PO.move (v := .int .i64 id) rfl) ?_
    refine JL.op rfl (JO.call [] Tryz.call88 rfl (N_signalKey id [47, 104] (by omega) (show List.length ([47, 104] : Str) ≤ 2 by decide) (by omega)) rfl (fun _ _ => trivial)) ?_
    rintro _ _ ⟨_, ⟨u_42, e_40, f_43, rfl, rfl⟩, rfl⟩
    have hqe_40 := e_1.symm.trans e_40
    subst hqe_40
    refine JL.pure rfl (PO.move (v := .int .i64 n_9) rfl) ?_
    refine JL.pure rfl (PO.add (c := n_9 + 1) rfl rfl (wr (by omega))) ?_
    refine JL.op rfl (JO.call [0, 0, 0, 0] Tryz.call91 rfl (N_setNum p x_38 m_39 k_37 (by omega) (by omega) u_3 (n_9 + 1) (by omega) (by omega)) rfl (fun _ _ => trivial)) ?_
    rintro _ _ ⟨_, ⟨x_46, m_47, e_44, k_45, rfl, rfl⟩, rfl⟩
    refine JL.nil ?_
    refine JQ.seq ?_
    refine JC.seq ?_
    refine JC.region ?_
    refine JL.pure rfl (PO.move (v := .int .i64 n_34) rfl) ?_
    refine JL.pure rfl (PO.assign (v := .int .i64 n_34) rfl) ?_
    refine JL.pure rfl (PO.assign (v := .int .i64 0) rfl) ?_
    refine JL.nil ?_
    refine JQ.seq ?_
    refine JC.ret ?_
    refine Done.two (.inl rfl) rfl (RV.tmp (v := .int .i64 n_34) rfl) (RV.tmp (v := .int .i64 0) rfl) (List.Sublist.refl _) ?_
    exact ⟨x_46, m_47, n_34, 0, (by simp only [MS.takeSignal, e_1, e_5, e_11, e_15, h_21, e_22, e_26, e_30, e_36, e_44, if_true, if_false, Bool.false_eq_true, Bool.not_true, Bool.not_false]; (repeat (first | rw [if_pos (by omega)] | rw [if_neg (by omega)])); all_goals (first | rfl | simp only [if_true, if_false, Bool.false_eq_true, Bool.not_true, Bool.not_false, e_1, e_5, e_11, e_15, h_21, e_22, e_26, e_30, e_36, e_44])), (k_45.mono (by omega) (by omega)), (by first | omega | (simp only [List.length_append, List.length_cons, List.length_nil, List.length_take, List.length_drop]; omega)), (by first | omega | (simp only [List.length_append, List.length_cons, List.length_nil, List.length_take, List.length_drop]; omega)), rfl, rfl⟩

theorem M_takeSignal (x : MA) (m : MS) {S T : Nat} (hk : m.ok S T) (hS : S ≤ 50000000) (hT : T ≤ 50000000) (id : Int) (hid : -9223372036854775808 ≤ id ∧ id ≤ 9223372036854775807) :
    Ct Tryz.prog 43 [mv x m, .int .i64 id] (mr x m) (fun _ => True) (fun v A' => ∃ x' m' r0 r1, MS.takeSignal m id = (m', r0, r1) ∧ m'.ok (S + 1) (T + 5) ∧ (0 ≤ r0 ∧ r0 ≤ 999) ∧ (0 ≤ r1 ∧ r1 ≤ 9) ∧ v = .tuple #[mv x' m', .int .i64 r0, .int .i64 r1] ∧ A' = mr x' m') := by
  refine Ct.intro Tryz.func43 rfl Tryz.ntmps43 (Nat.le_of_ble_eq_true rfl) fun w0 hpre => ?_
  refine JC.seq ?_
  refine JC.region ?_
  refine JL.op rfl (JO.box (cs := [.slice x.a0 m.s.length x.c0, .slice x.a1 m.r.length x.c1, .slice x.a2 m.w.length x.c2]) rfl rfl) ?_
  rintro _ _ ⟨b_1, rfl, rfl⟩
  refine JL.op rfl (JO.alloc (z := .agg #[.slice none 0 0, .slice none 0 0, .slice none 0 0]) (cs := [.slice none 0 0, .slice none 0 0, .slice none 0 0]) Tryz.zeroValue32 rfl) ?_
  rintro _ _ ⟨b_2, rfl, rfl⟩
  refine JL.pure rfl (PO.assign (v := .int .i64 0) rfl) ?_
  refine JL.pure rfl (PO.assign (v := .int .i64 0) rfl) ?_
  refine JL.nil ?_
  refine JQ.seq ?_
  refine JC.seq ?_
  refine JC.regionA [] 8 mixed (by simp) ?_
  refine JA.take 1 rfl (by kernel_rfl) (NP.th NP.body) (by kernel_rfl) (by kernel_rfl) (by kernel_rfl) rfl (LO.pure (PO.move (v := .int .i64 id) rfl)) ?_
  refine JA.two (i := 0) (j := 2) (by kernel_rfl) ?_ ?_
  · skip
    refine JX.op rfl rfl (JO.ofLO (LO.loadK 1 (vs := [.slice x.a0 m.s.length x.c0, .slice x.a1 m.r.length x.c1, .slice x.a2 m.w.length x.c2]) rfl rfl Tryz.isAgg32 Tryz.sizeOf32 rfl rfl)) ?_
    rintro _ _ ⟨rfl, rfl⟩
    refine ⟨(fun _ h => by cases h), ?_⟩
    refine JA.one (i := 2) (by kernel_rfl) ?_
    refine JX.op rfl rfl (JO.call [] Tryz.call78 rfl (N_l10Key id [47, 104] (by omega) (show List.length ([47, 104] : Str) ≤ 2 by decide) (by omega)) rfl (fun _ _ => trivial)) ?_
    rintro _ _ ⟨_, ⟨u_13, e_11, f_14, rfl, rfl⟩, rfl⟩
    refine ⟨(fun _ h => by cases h), ?_⟩
    refine JA.one (i := 3) (by kernel_rfl) ?_
    refine JX.op rfl rfl (JO.call [2, 2, 2] Tryz.call77 rfl (N_sNumAt x m hk (by omega) (by omega) u_13) rfl (fun _ _ => trivial)) ?_
    rintro _ _ ⟨_, ⟨x_23, m_24, n_25, e_21, k_22, f_26, rfl, rfl⟩, rfl⟩
    refine ⟨(fun _ h => by cases h), ?_⟩
    refine JA.take 4 rfl (by kernel_rfl) (NP.th NP.body) (by kernel_rfl) (by kernel_rfl) (by kernel_rfl) rfl (LO.pure (PO.move (v := .tuple #[mv x_23 m_24, .int .i64 n_25]) rfl)) ?_
    refine JA.take 5 rfl (by kernel_rfl) (NP.th NP.body) (by kernel_rfl) (by kernel_rfl) (by kernel_rfl) rfl (LO.pure (PO.extract (v := mv x_23 m_24) rfl rfl)) ?_
    refine JA.take 6 rfl (by kernel_rfl) (NP.th NP.body) (by kernel_rfl) (by kernel_rfl) (by kernel_rfl) rfl (LO.pure (PO.extract (v := .int .i64 n_25) rfl rfl)) ?_
    refine JA.one (i := 7) (by kernel_rfl) ?_
    refine JX.op rfl rfl (JO.store 4 (vs := [.slice x_23.a0 m_24.s.length x_23.c0, .slice x_23.a1 m_24.r.length x_23.c1, .slice x_23.a2 m_24.w.length x_23.c2]) (cs' := [.slice x_23.a0 m_24.s.length x_23.c0, .slice x_23.a1 m_24.r.length x_23.c1, .slice x_23.a2 m_24.w.length x_23.c2]) rfl rfl rfl rfl Tryz.sizeOf32 rfl rfl (Nat.le_of_ble_eq_true rfl) rfl) ?_
    rintro _ _ rfl
    refine ⟨(fun _ h => by cases h), ?_⟩
    refine JA.take 8 rfl (by kernel_rfl) (NP.th NP.body) (by kernel_rfl) (by kernel_rfl) (by kernel_rfl) rfl (LO.pure (PO.assign (v := .int .i64 n_25) rfl)) ?_
    refine JA.done (by kernel_rfl) ?_
    refine JQ.seq ?_
    refine JC.seq ?_
    refine JC.regionA [] 8 mixed (by simp) ?_
    refine JA.take 1 rfl (by kernel_rfl) (NP.th NP.body) (by kernel_rfl) (by kernel_rfl) (by kernel_rfl) rfl (LO.pure (PO.move (v := .int .i64 id) rfl)) ?_
    refine JA.two (i := 0) (j := 2) (by kernel_rfl) ?_ ?_
    · skip
      refine JX.op rfl rfl (JO.ofLO (LO.loadK 4 (vs := [.slice x_23.a0 m_24.s.length x_23.c0, .slice x_23.a1 m_24.r.length x_23.c1, .slice x_23.a2 m_24.w.length x_23.c2]) rfl rfl Tryz.isAgg32 Tryz.sizeOf32 rfl rfl)) ?_
      rintro _ _ ⟨rfl, rfl⟩
      refine ⟨(fun _ h => by cases h), ?_⟩
      refine JA.one (i := 2) (by kernel_rfl) ?_
      refine JX.op rfl rfl (JO.call [] Tryz.call78 rfl (N_l10Key id [47, 116] (by omega) (show List.length ([47, 116] : Str) ≤ 2 by decide) (by omega)) rfl (fun _ _ => trivial)) ?_
      rintro _ _ ⟨_, ⟨u_37, e_35, f_38, rfl, rfl⟩, rfl⟩
      refine ⟨(fun _ h => by cases h), ?_⟩
      refine JA.one (i := 3) (by kernel_rfl) ?_
      refine JX.op rfl rfl (JO.call [0, 0, 0] Tryz.call77 rfl (N_sNumAt x_23 m_24 k_22 (by omega) (by omega) u_37) rfl (fun _ _ => trivial)) ?_
      rintro _ _ ⟨_, ⟨x_47, m_48, n_49, e_45, k_46, f_50, rfl, rfl⟩, rfl⟩
      refine ⟨(fun _ h => by cases h), ?_⟩
      refine JA.take 4 rfl (by kernel_rfl) (NP.th NP.body) (by kernel_rfl) (by kernel_rfl) (by kernel_rfl) rfl (LO.pure (PO.move (v := .tuple #[mv x_47 m_48, .int .i64 n_49]) rfl)) ?_
      refine JA.take 5 rfl (by kernel_rfl) (NP.th NP.body) (by kernel_rfl) (by kernel_rfl) (by kernel_rfl) rfl (LO.pure (PO.extract (v := mv x_47 m_48) rfl rfl)) ?_
      refine JA.take 6 rfl (by kernel_rfl) (NP.th NP.body) (by kernel_rfl) (by kernel_rfl) (by kernel_rfl) rfl (LO.pure (PO.extract (v := .int .i64 n_49) rfl rfl)) ?_
      refine JA.one (i := 7) (by kernel_rfl) ?_
      refine JX.op rfl rfl (JO.store 4 (vs := [.slice x_47.a0 m_48.s.length x_47.c0, .slice x_47.a1 m_48.r.length x_47.c1, .slice x_47.a2 m_48.w.length x_47.c2]) (cs' := [.slice x_47.a0 m_48.s.length x_47.c0, .slice x_47.a1 m_48.r.length x_47.c1, .slice x_47.a2 m_48.w.length x_47.c2]) rfl rfl rfl rfl Tryz.sizeOf32 rfl rfl (Nat.le_of_ble_eq_true rfl) rfl) ?_
      rintro _ _ rfl
      refine ⟨(fun _ h => by cases h), ?_⟩
      refine JA.take 8 rfl (by kernel_rfl) (NP.th NP.body) (by kernel_rfl) (by kernel_rfl) (by kernel_rfl) rfl (LO.pure (PO.assign (v := .int .i64 n_49) rfl)) ?_
      refine JA.done (by kernel_rfl) ?_
      refine JQ.seq ?_
      refine JC.seq ?_
      refine JC.seq ?_
      refine JC.region ?_
      refine JL.pure rfl (PO.move (v := .int .i64 n_25) rfl) ?_
      refine JL.pure rfl (PO.move (v := .int .i64 n_49) rfl) ?_
      refine JL.pure rfl (PO.eqlI rfl rfl) ?_
      refine JL.nil ?_
      refine JQ.seq ?_
      by_cases h_51 : n_25 = n_49
      · skip
        refine JC.condT (congrArg Value.bool (decide_eq_true h_51)) ?_
        refine JC.seq ?_
        refine JC.region ?_
        refine JL.ld rfl (LO.loadK 4 (vs := [.slice x_47.a0 m_48.s.length x_47.c0, .slice x_47.a1 m_48.r.length x_47.c1, .slice x_47.a2 m_48.w.length x_47.c2]) rfl rfl Tryz.isAgg32 Tryz.sizeOf32 rfl rfl) ?_
        refine JL.op rfl (JO.store 3 (vs := [.slice x_47.a0 m_48.s.length x_47.c0, .slice x_47.a1 m_48.r.length x_47.c1, .slice x_47.a2 m_48.w.length x_47.c2]) (cs' := [.slice x_47.a0 m_48.s.length x_47.c0, .slice x_47.a1 m_48.r.length x_47.c1, .slice x_47.a2 m_48.w.length x_47.c2]) rfl rfl rfl rfl Tryz.sizeOf32 rfl rfl (Nat.le_of_ble_eq_true rfl) rfl) ?_
        rintro _ _ rfl
        refine JL.pure rfl (PO.assign (v := .int .i64 0) rfl) ?_
        refine JL.pure rfl (PO.assign (v := .int .i64 5) rfl) ?_
        refine JL.nil ?_
        refine JQ.seq ?_
        refine JC.ret ?_
        refine JQ.thenRet ?_
        refine Done.three (.inl rfl) rfl (RV.cell1 (LO.loadK 3 (vs := [.slice x_47.a0 m_48.s.length x_47.c0, .slice x_47.a1 m_48.r.length x_47.c1, .slice x_47.a2 m_48.w.length x_47.c2]) rfl rfl Tryz.isAgg32 Tryz.sizeOf32 rfl rfl) ⟨_, rfl⟩) (RV.tmp (v := .int .i64 0) rfl) (RV.tmp (v := .int .i64 5) rfl) (List.sublist_append_left [rC x_47.a0 x_47.c0 m_48.s, rS x_47.a1 x_47.c1 m_48.r, rS x_47.a2 x_47.c2 m_48.w] [mb b_2 x_47 m_48, mb b_1 x_47 m_48]) ?_
        exact ⟨x_47, m_48, 0, 5, (by simp only [MS.takeSignal, e_11, e_21, e_35, e_45, h_51, if_true, if_false, Bool.false_eq_true, Bool.not_true, Bool.not_false]; (repeat (first | rw [if_pos (by omega)] | rw [if_neg (by omega)])); all_goals (first | rfl | simp only [if_true, if_false, Bool.false_eq_true, Bool.not_true, Bool.not_false, e_11, e_21, e_35, e_45, h_51])), (k_46.mono (by omega) (by omega)), (by first | omega | (simp only [List.length_append, List.length_cons, List.length_nil, List.length_take, List.length_drop]; omega)), (by first | omega | (simp only [List.length_append, List.length_cons, List.length_nil, List.length_take, List.length_drop]; omega)), rfl, rfl⟩
      · skip
        refine JC.condF (congrArg Value.bool (decide_eq_false h_51)) ?_
        refine JC.skip ?_
        refine JQ.seq ?_
        refine JC.seq ?_
        refine JC.regionA [] 10 mixed (by simp) ?_
        refine JA.take 1 rfl (by kernel_rfl) (NP.th NP.body) (by kernel_rfl) (by kernel_rfl) (by kernel_rfl) rfl (LO.pure (PO.move (v := .int .i64 id) rfl)) ?_
        refine JA.take 2 rfl (by kernel_rfl) (NP.th NP.body) (by kernel_rfl) (by kernel_rfl) (by kernel_rfl) rfl (LO.pure (PO.move (v := .int .i64 n_25) rfl)) ?_
        refine JA.take 3 rfl (by kernel_rfl) (NP.th NP.body) (by kernel_rfl) (by kernel_rfl) (by kernel_rfl) rfl (LO.pure (PO.add (c := n_25 + 1) rfl rfl (wr (by omega)))) ?_
        refine JA.two (i := 0) (j := 4) (by kernel_rfl) ?_ ?_
        · skip
          refine JX.op rfl rfl (JO.ofLO (LO.loadK 4 (vs := [.slice x_47.a0 m_48.s.length x_47.c0, .slice x_47.a1 m_48.r.length x_47.c1, .slice x_47.a2 m_48.w.length x_47.c2]) rfl rfl Tryz.isAgg32 Tryz.sizeOf32 rfl rfl)) ?_
          rintro _ _ ⟨rfl, rfl⟩
          refine ⟨(fun _ h => by cases h), ?_⟩
          refine JA.one (i := 4) (by kernel_rfl) ?_
          refine JX.op rfl rfl (JO.call [] Tryz.call79 rfl (N_l10Signal id (n_25 + 1) (by omega) (by omega)) rfl (fun _ _ => trivial)) ?_
          rintro _ _ ⟨_, ⟨u_62, e_60, f_63, rfl, rfl⟩, rfl⟩
          refine ⟨(fun _ h => by cases h), ?_⟩
          refine JA.one (i := 5) (by kernel_rfl) ?_
          refine JX.op rfl rfl (JO.call [0, 0, 0] Tryz.call77 rfl (N_sNumAt x_47 m_48 k_46 (by omega) (by omega) u_62) rfl (fun _ _ => trivial)) ?_
          rintro _ _ ⟨_, ⟨x_72, m_73, n_74, e_70, k_71, f_75, rfl, rfl⟩, rfl⟩
          refine ⟨(fun _ h => by cases h), ?_⟩
          refine JA.take 6 rfl (by kernel_rfl) (NP.th NP.body) (by kernel_rfl) (by kernel_rfl) (by kernel_rfl) rfl (LO.pure (PO.move (v := .tuple #[mv x_72 m_73, .int .i64 n_74]) rfl)) ?_
          refine JA.take 7 rfl (by kernel_rfl) (NP.th NP.body) (by kernel_rfl) (by kernel_rfl) (by kernel_rfl) rfl (LO.pure (PO.extract (v := mv x_72 m_73) rfl rfl)) ?_
          refine JA.take 8 rfl (by kernel_rfl) (NP.th NP.body) (by kernel_rfl) (by kernel_rfl) (by kernel_rfl) rfl (LO.pure (PO.extract (v := .int .i64 n_74) rfl rfl)) ?_
          refine JA.one (i := 9) (by kernel_rfl) ?_
          refine JX.op rfl rfl (JO.store 4 (vs := [.slice x_72.a0 m_73.s.length x_72.c0, .slice x_72.a1 m_73.r.length x_72.c1, .slice x_72.a2 m_73.w.length x_72.c2]) (cs' := [.slice x_72.a0 m_73.s.length x_72.c0, .slice x_72.a1 m_73.r.length x_72.c1, .slice x_72.a2 m_73.w.length x_72.c2]) rfl rfl rfl rfl Tryz.sizeOf32 rfl rfl (Nat.le_of_ble_eq_true rfl) rfl) ?_
          rintro _ _ rfl
          refine ⟨(fun _ h => by cases h), ?_⟩
          refine JA.take 10 rfl (by kernel_rfl) (NP.th NP.body) (by kernel_rfl) (by kernel_rfl) (by kernel_rfl) rfl (LO.pure (PO.assign (v := .int .i64 n_74) rfl)) ?_
          refine JA.done (by kernel_rfl) ?_
          refine JQ.seq ?_
          refine JC.seq ?_
          refine JC.regionA [mb b_1 x_72 m_73] 6 mixed (by simp) ?_
          refine JA.take 0 rfl (by kernel_rfl) (NP.th NP.body) (by kernel_rfl) (by kernel_rfl) (by kernel_rfl) rfl (LO.loadK 0 (vs := [.slice x_72.a0 m_73.s.length x_72.c0, .slice x_72.a1 m_73.r.length x_72.c1, .slice x_72.a2 m_73.w.length x_72.c2]) rfl rfl Tryz.isAgg32 Tryz.sizeOf32 rfl rfl) ?_
          refine JA.take 1 rfl (by kernel_rfl) (NP.th NP.body) (by kernel_rfl) (by kernel_rfl) (by kernel_rfl) rfl (LO.pure (PO.move (v := .int .i64 id) rfl)) ?_
          refine JA.take 2 rfl (by kernel_rfl) (NP.th NP.body) (by kernel_rfl) (by kernel_rfl) (by kernel_rfl) rfl (LO.pure (PO.move (v := .int .i64 n_25) rfl)) ?_
          refine JA.take 3 rfl (by kernel_rfl) (NP.th NP.body) (by kernel_rfl) (by kernel_rfl) (by kernel_rfl) rfl (LO.pure (PO.add (c := n_25 + 1) rfl rfl (wr (by omega)))) ?_
          refine JA.one (i := 4) (by kernel_rfl) ?_
          refine JX.op rfl rfl (JO.call [] Tryz.call79 rfl (N_l10Signal id (n_25 + 1) (by omega) (by omega)) rfl (fun _ _ => trivial)) ?_
          rintro _ _ ⟨_, ⟨u_82, e_80, f_83, rfl, rfl⟩, rfl⟩
          have hqe_80 := e_60.symm.trans e_80
          subst hqe_80
          refine ⟨(by simp), ?_⟩
          refine JA.one (i := 5) (by kernel_rfl) ?_
          refine JX.op rfl rfl (JO.call [0, 0, 0] Tryz.call80 rfl (N_sLayNil x_72 m_73 k_71 (by omega) (by omega) u_62 (by omega)) rfl (fun _ _ => trivial)) ?_
          rintro _ _ ⟨_, ⟨x_90, m_91, e_88, k_89, rfl, rfl⟩, rfl⟩
          refine ⟨(by simp), ?_⟩
          refine JA.one (i := 6) (by kernel_rfl) ?_
          refine JX.last rfl rfl rfl (by kernel_rfl) (JO.store 4 (vs := [.slice x_90.a0 m_91.s.length x_90.c0, .slice x_90.a1 m_91.r.length x_90.c1, .slice x_90.a2 m_91.w.length x_90.c2]) (cs' := [.slice x_90.a0 m_91.s.length x_90.c0, .slice x_90.a1 m_91.r.length x_90.c1, .slice x_90.a2 m_91.w.length x_90.c2]) rfl rfl rfl rfl Tryz.sizeOf32 rfl rfl (Nat.le_of_ble_eq_true rfl) rfl) ?_
          rintro _ _ rfl
          refine JQ.seq ?_
          refine JC.seq ?_
          refine JC.regionA [mb b_1 x_90 m_91] 9 mixed (by simp) ?_
          refine JA.take 0 rfl (by kernel_rfl) (NP.th NP.body) (by kernel_rfl) (by kernel_rfl) (by kernel_rfl) rfl (LO.loadK 0 (vs := [.slice x_90.a0 m_91.s.length x_90.c0, .slice x_90.a1 m_91.r.length x_90.c1, .slice x_90.a2 m_91.w.length x_90.c2]) rfl rfl Tryz.isAgg32 Tryz.sizeOf32 rfl rfl) ?_
          refine JA.take 1 rfl (by kernel_rfl) (NP.th NP.body) (by kernel_rfl) (by kernel_rfl) (by kernel_rfl) rfl (LO.pure (PO.move (v := .int .i64 id) rfl)) ?_
          refine JA.take 3 rfl (by kernel_rfl) (NP.th NP.body) (by kernel_rfl) (by kernel_rfl) (by kernel_rfl) rfl (LO.pure (PO.move (v := .int .i64 n_25) rfl)) ?_
          refine JA.take 4 rfl (by kernel_rfl) (NP.th NP.body) (by kernel_rfl) (by kernel_rfl) (by kernel_rfl) rfl (LO.pure (PO.add (c := n_25 + 1) rfl rfl (wr (by omega)))) ?_
          refine JA.take 6 rfl (by kernel_rfl) (NP.th NP.body) (by kernel_rfl) (by kernel_rfl) (by kernel_rfl) rfl (LO.pure (PO.move (v := .int .i64 n_74) rfl)) ?_
          refine JA.one (i := 2) (by kernel_rfl) ?_
          refine JX.op rfl rfl (JO.call [] Tryz.call78 rfl (N_l10Key id [47, 104] (by omega) (show List.length ([47, 104] : Str) ≤ 2 by decide) (by omega)) rfl (fun _ _ => trivial)) ?_
          rintro _ _ ⟨_, ⟨u_110, e_108, f_111, rfl, rfl⟩, rfl⟩
          have hqe_108 := e_11.symm.trans e_108
          subst hqe_108
          refine ⟨(by simp), ?_⟩
          refine JA.one (i := 5) (by kernel_rfl) ?_
          refine JX.op rfl rfl (JO.call [0, 0, 0] Tryz.call81 rfl (N_sSetNum x_90 m_91 k_89 (by omega) (by omega) u_13 (n_25 + 1) (by omega) (by omega)) rfl (fun _ _ => trivial)) ?_
          rintro _ _ ⟨_, ⟨x_118, m_119, e_116, k_117, rfl, rfl⟩, rfl⟩
          refine ⟨(by simp), ?_⟩
          refine JA.one (i := 7) (by kernel_rfl) ?_
          refine JX.op rfl rfl (JO.store 3 (vs := [.slice x_118.a0 m_119.s.length x_118.c0, .slice x_118.a1 m_119.r.length x_118.c1, .slice x_118.a2 m_119.w.length x_118.c2]) (cs' := [.slice x_118.a0 m_119.s.length x_118.c0, .slice x_118.a1 m_119.r.length x_118.c1, .slice x_118.a2 m_119.w.length x_118.c2]) rfl rfl rfl rfl Tryz.sizeOf32 rfl rfl (Nat.le_of_ble_eq_true rfl) rfl) ?_
          rintro _ _ rfl
          refine ⟨(by simp), ?_⟩
          refine JA.take 8 rfl (by kernel_rfl) (NP.th NP.body) (by kernel_rfl) (by kernel_rfl) (by kernel_rfl) rfl (LO.pure (PO.assign (v := .int .i64 n_74) rfl)) ?_
          refine JA.take 9 rfl (by kernel_rfl) (NP.th NP.body) (by kernel_rfl) (by kernel_rfl) (by kernel_rfl) rfl (LO.pure (PO.assign (v := .int .i64 0) rfl)) ?_
          refine JA.done (by kernel_rfl) ?_
          refine JQ.seq ?_
          refine JC.ret ?_
          refine Done.three (.inl rfl) rfl (RV.cell1 (LO.loadK 3 (vs := [.slice x_118.a0 m_119.s.length x_118.c0, .slice x_118.a1 m_119.r.length x_118.c1, .slice x_118.a2 m_119.w.length x_118.c2]) rfl rfl Tryz.isAgg32 Tryz.sizeOf32 rfl rfl) ⟨_, rfl⟩) (RV.tmp (v := .int .i64 n_74) rfl) (RV.tmp (v := .int .i64 0) rfl) (List.sublist_append_left [rC x_118.a0 x_118.c0 m_119.s, rS x_118.a1 x_118.c1 m_119.r, rS x_118.a2 x_118.c2 m_119.w] [mb b_2 x_118 m_119, mb b_1 x_90 m_91]) ?_
          exact ⟨x_118, m_119, n_74, 0, (by simp only [MS.takeSignal, e_11, e_21, e_35, e_45, h_51, e_60, e_70, e_88, e_116, if_true, if_false, Bool.false_eq_true, Bool.not_true, Bool.not_false]; (repeat (first | rw [if_pos (by omega)] | rw [if_neg (by omega)])); all_goals (first | rfl | simp only [if_true, if_false, Bool.false_eq_true, Bool.not_true, Bool.not_false, e_11, e_21, e_35, e_45, h_51, e_60, e_70, e_88, e_116])), (k_117.mono (by omega) (by omega)), (by first | omega | (simp only [List.length_append, List.length_cons, List.length_nil, List.length_take, List.length_drop]; omega)), (by first | omega | (simp only [List.length_append, List.length_cons, List.length_nil, List.length_take, List.length_drop]; omega)), rfl, rfl⟩
        · skip
          refine JX.op rfl rfl (JO.call [] Tryz.call79 rfl (N_l10Signal id (n_25 + 1) (by omega) (by omega)) rfl (fun _ _ => trivial)) ?_
          rintro _ _ ⟨_, ⟨u_122, e_120, f_123, rfl, rfl⟩, rfl⟩
          refine ⟨(fun _ h => by cases h), ?_⟩
          refine JA.one (i := 0) (by kernel_rfl) ?_
          refine JX.op rfl rfl (JO.ofLO (LO.loadK 4 (vs := [.slice x_47.a0 m_48.s.length x_47.c0, .slice x_47.a1 m_48.r.length x_47.c1, .slice x_47.a2 m_48.w.length x_47.c2]) rfl rfl Tryz.isAgg32 Tryz.sizeOf32 rfl rfl)) ?_
          rintro _ _ ⟨rfl, rfl⟩
          refine ⟨(fun _ h => by cases h), ?_⟩
          refine JA.one (i := 5) (by kernel_rfl) ?_
          refine JX.op rfl rfl (JO.call [0, 0, 0] Tryz.call77 rfl (N_sNumAt x_47 m_48 k_46 (by omega) (by omega) u_122) rfl (fun _ _ => trivial)) ?_
          rintro _ _ ⟨_, ⟨x_132, m_133, n_134, e_130, k_131, f_135, rfl, rfl⟩, rfl⟩
          refine ⟨(fun _ h => by cases h), ?_⟩
          refine JA.take 6 rfl (by kernel_rfl) (NP.th NP.body) (by kernel_rfl) (by kernel_rfl) (by kernel_rfl) rfl (LO.pure (PO.move (v := .tuple #[mv x_132 m_133, .int .i64 n_134]) rfl)) ?_
          refine JA.take 7 rfl (by kernel_rfl) (NP.th NP.body) (by kernel_rfl) (by kernel_rfl) (by kernel_rfl) rfl (LO.pure (PO.extract (v := mv x_132 m_133) rfl rfl)) ?_
          refine JA.take 8 rfl (by kernel_rfl) (NP.th NP.body) (by kernel_rfl) (by kernel_rfl) (by kernel_rfl) rfl (LO.pure (PO.extract (v := .int .i64 n_134) rfl rfl)) ?_
          refine JA.one (i := 9) (by kernel_rfl) ?_
          refine JX.op rfl rfl (JO.store 4 (vs := [.slice x_132.a0 m_133.s.length x_132.c0, .slice x_132.a1 m_133.r.length x_132.c1, .slice x_132.a2 m_133.w.length x_132.c2]) (cs' := [.slice x_132.a0 m_133.s.length x_132.c0, .slice x_132.a1 m_133.r.length x_132.c1, .slice x_132.a2 m_133.w.length x_132.c2]) rfl rfl rfl rfl Tryz.sizeOf32 rfl rfl (Nat.le_of_ble_eq_true rfl) rfl) ?_
          rintro _ _ rfl
          refine ⟨(fun _ h => by cases h), ?_⟩
          refine JA.take 10 rfl (by kernel_rfl) (NP.th NP.body) (by kernel_rfl) (by kernel_rfl) (by kernel_rfl) rfl (LO.pure (PO.assign (v := .int .i64 n_134) rfl)) ?_
          refine JA.done (by kernel_rfl) ?_
          refine JQ.seq ?_
          refine JC.seq ?_
          refine JC.regionA [mb b_1 x_132 m_133] 6 mixed (by simp) ?_
          refine JA.take 0 rfl (by kernel_rfl) (NP.th NP.body) (by kernel_rfl) (by kernel_rfl) (by kernel_rfl) rfl (LO.loadK 0 (vs := [.slice x_132.a0 m_133.s.length x_132.c0, .slice x_132.a1 m_133.r.length x_132.c1, .slice x_132.a2 m_133.w.length x_132.c2]) rfl rfl Tryz.isAgg32 Tryz.sizeOf32 rfl rfl) ?_
          refine JA.take 1 rfl (by kernel_rfl) (NP.th NP.body) (by kernel_rfl) (by kernel_rfl) (by kernel_rfl) rfl (LO.pure (PO.move (v := .int .i64 id) rfl)) ?_
          refine JA.take 2 rfl (by kernel_rfl) (NP.th NP.body) (by kernel_rfl) (by kernel_rfl) (by kernel_rfl) rfl (LO.pure (PO.move (v := .int .i64 n_25) rfl)) ?_
          refine JA.take 3 rfl (by kernel_rfl) (NP.th NP.body) (by kernel_rfl) (by kernel_rfl) (by kernel_rfl) rfl (LO.pure (PO.add (c := n_25 + 1) rfl rfl (wr (by omega)))) ?_
          refine JA.one (i := 4) (by kernel_rfl) ?_
          refine JX.op rfl rfl (JO.call [] Tryz.call79 rfl (N_l10Signal id (n_25 + 1) (by omega) (by omega)) rfl (fun _ _ => trivial)) ?_
          rintro _ _ ⟨_, ⟨u_142, e_140, f_143, rfl, rfl⟩, rfl⟩
          have hqe_140 := e_120.symm.trans e_140
          subst hqe_140
          refine ⟨(by simp), ?_⟩
          refine JA.one (i := 5) (by kernel_rfl) ?_
          refine JX.op rfl rfl (JO.call [0, 0, 0] Tryz.call80 rfl (N_sLayNil x_132 m_133 k_131 (by omega) (by omega) u_122 (by omega)) rfl (fun _ _ => trivial)) ?_
          rintro _ _ ⟨_, ⟨x_150, m_151, e_148, k_149, rfl, rfl⟩, rfl⟩
          refine ⟨(by simp), ?_⟩
          refine JA.one (i := 6) (by kernel_rfl) ?_
          refine JX.last rfl rfl rfl (by kernel_rfl) (JO.store 4 (vs := [.slice x_150.a0 m_151.s.length x_150.c0, .slice x_150.a1 m_151.r.length x_150.c1, .slice x_150.a2 m_151.w.length x_150.c2]) (cs' := [.slice x_150.a0 m_151.s.length x_150.c0, .slice x_150.a1 m_151.r.length x_150.c1, .slice x_150.a2 m_151.w.length x_150.c2]) rfl rfl rfl rfl Tryz.sizeOf32 rfl rfl (Nat.le_of_ble_eq_true rfl) rfl) ?_
          rintro _ _ rfl
          refine JQ.seq ?_
          refine JC.seq ?_
          refine JC.regionA [mb b_1 x_150 m_151] 9 mixed (by simp) ?_
          refine JA.take 0 rfl (by kernel_rfl) (NP.th NP.body) (by kernel_rfl) (by kernel_rfl) (by kernel_rfl) rfl (LO.loadK 0 (vs := [.slice x_150.a0 m_151.s.length x_150.c0, .slice x_150.a1 m_151.r.length x_150.c1, .slice x_150.a2 m_151.w.length x_150.c2]) rfl rfl Tryz.isAgg32 Tryz.sizeOf32 rfl rfl) ?_
          refine JA.take 1 rfl (by kernel_rfl) (NP.th NP.body) (by kernel_rfl) (by kernel_rfl) (by kernel_rfl) rfl (LO.pure (PO.move (v := .int .i64 id) rfl)) ?_
          refine JA.take 3 rfl (by kernel_rfl) (NP.th NP.body) (by kernel_rfl) (by kernel_rfl) (by kernel_rfl) rfl (LO.pure (PO.move (v := .int .i64 n_25) rfl)) ?_
          refine JA.take 4 rfl (by kernel_rfl) (NP.th NP.body) (by kernel_rfl) (by kernel_rfl) (by kernel_rfl) rfl (LO.pure (PO.add (c := n_25 + 1) rfl rfl (wr (by omega)))) ?_
          refine JA.take 6 rfl (by kernel_rfl) (NP.th NP.body) (by kernel_rfl) (by kernel_rfl) (by kernel_rfl) rfl (LO.pure (PO.move (v := .int .i64 n_134) rfl)) ?_
          refine JA.one (i := 2) (by kernel_rfl) ?_
          refine JX.op rfl rfl (JO.call [] Tryz.call78 rfl (N_l10Key id [47, 104] (by omega) (show List.length ([47, 104] : Str) ≤ 2 by decide) (by omega)) rfl (fun _ _ => trivial)) ?_
          rintro _ _ ⟨_, ⟨u_170, e_168, f_171, rfl, rfl⟩, rfl⟩
          have hqe_168 := e_11.symm.trans e_168
          subst hqe_168
          refine ⟨(by simp), ?_⟩
          refine JA.one (i := 5) (by kernel_rfl) ?_
          refine JX.op rfl rfl (JO.call [0, 0, 0] Tryz.call81 rfl (N_sSetNum x_150 m_151 k_149 (by omega) (by omega) u_13 (n_25 + 1) (by omega) (by omega)) rfl (fun _ _ => trivial)) ?_
          rintro _ _ ⟨_, ⟨x_178, m_179, e_176, k_177, rfl, rfl⟩, rfl⟩
          refine ⟨(by simp), ?_⟩
          refine JA.one (i := 7) (by kernel_rfl) ?_
          refine JX.op rfl rfl (JO.store 3 (vs := [.slice x_178.a0 m_179.s.length x_178.c0, .slice x_178.a1 m_179.r.length x_178.c1, .slice x_178.a2 m_179.w.length x_178.c2]) (cs' := [.slice x_178.a0 m_179.s.length x_178.c0, .slice x_178.a1 m_179.r.length x_178.c1, .slice x_178.a2 m_179.w.length x_178.c2]) rfl rfl rfl rfl Tryz.sizeOf32 rfl rfl (Nat.le_of_ble_eq_true rfl) rfl) ?_
          rintro _ _ rfl
          refine ⟨(by simp), ?_⟩
          refine JA.take 8 rfl (by kernel_rfl) (NP.th NP.body) (by kernel_rfl) (by kernel_rfl) (by kernel_rfl) rfl (LO.pure (PO.assign (v := .int .i64 n_134) rfl)) ?_
          refine JA.take 9 rfl (by kernel_rfl) (NP.th NP.body) (by kernel_rfl) (by kernel_rfl) (by kernel_rfl) rfl (LO.pure (PO.assign (v := .int .i64 0) rfl)) ?_
          refine JA.done (by kernel_rfl) ?_
          refine JQ.seq ?_
          refine JC.ret ?_
          refine Done.three (.inl rfl) rfl (RV.cell1 (LO.loadK 3 (vs := [.slice x_178.a0 m_179.s.length x_178.c0, .slice x_178.a1 m_179.r.length x_178.c1, .slice x_178.a2 m_179.w.length x_178.c2]) rfl rfl Tryz.isAgg32 Tryz.sizeOf32 rfl rfl) ⟨_, rfl⟩) (RV.tmp (v := .int .i64 n_134) rfl) (RV.tmp (v := .int .i64 0) rfl) (List.sublist_append_left [rC x_178.a0 x_178.c0 m_179.s, rS x_178.a1 x_178.c1 m_179.r, rS x_178.a2 x_178.c2 m_179.w] [mb b_2 x_178 m_179, mb b_1 x_150 m_151]) ?_
          exact ⟨x_178, m_179, n_134, 0, (by simp only [MS.takeSignal, e_11, e_21, e_35, e_45, h_51, e_120, e_130, e_148, e_176, if_true, if_false, Bool.false_eq_true, Bool.not_true, Bool.not_false]; (repeat (first | rw [if_pos (by omega)] | rw [if_neg (by omega)])); all_goals (first | rfl | simp only [if_true, if_false, Bool.false_eq_true, Bool.not_true, Bool.not_false, e_11, e_21, e_35, e_45, h_51, e_120, e_130, e_148, e_176])), (k_177.mono (by omega) (by omega)), (by first | omega | (simp only [List.length_append, List.length_cons, List.length_nil, List.length_take, List.length_drop]; omega)), (by first | omega | (simp only [List.length_append, List.length_cons, List.length_nil, List.length_take, List.length_drop]; omega)), rfl, rfl⟩
    · skip
      refine JX.op rfl rfl (JO.call [] Tryz.call78 rfl (N_l10Key id [47, 116] (by omega) (show List.length ([47, 116] : Str) ≤ 2 by decide) (by omega)) rfl (fun _ _ => trivial)) ?_
      rintro _ _ ⟨_, ⟨u_182, e_180, f_183, rfl, rfl⟩, rfl⟩
      refine ⟨(fun _ h => by cases h), ?_⟩
      refine JA.one (i := 0) (by kernel_rfl) ?_
      refine JX.op rfl rfl (JO.ofLO (LO.loadK 4 (vs := [.slice x_23.a0 m_24.s.length x_23.c0, .slice x_23.a1 m_24.r.length x_23.c1, .slice x_23.a2 m_24.w.length x_23.c2]) rfl rfl Tryz.isAgg32 Tryz.sizeOf32 rfl rfl)) ?_
      rintro _ _ ⟨rfl, rfl⟩
      refine ⟨(fun _ h => by cases h), ?_⟩
      refine JA.one (i := 3) (by kernel_rfl) ?_
      refine JX.op rfl rfl (JO.call [0, 0, 0] Tryz.call77 rfl (N_sNumAt x_23 m_24 k_22 (by omega) (by omega) u_182) rfl (fun _ _ => trivial)) ?_
      rintro _ _ ⟨_, ⟨x_192, m_193, n_194, e_190, k_191, f_195, rfl, rfl⟩, rfl⟩
      refine ⟨(fun _ h => by cases h), ?_⟩
      refine JA.take 4 rfl (by kernel_rfl) (NP.th NP.body) (by kernel_rfl) (by kernel_rfl) (by kernel_rfl) rfl (LO.pure (PO.move (v := .tuple #[mv x_192 m_193, .int .i64 n_194]) rfl)) ?_
      refine JA.take 5 rfl (by kernel_rfl) (NP.th NP.body) (by kernel_rfl) (by kernel_rfl) (by kernel_rfl) rfl (LO.pure (PO.extract (v := mv x_192 m_193) rfl rfl)) ?_
      refine JA.take 6 rfl (by kernel_rfl) (NP.th NP.body) (by kernel_rfl) (by kernel_rfl) (by kernel_rfl) rfl (LO.pure (PO.extract (v := .int .i64 n_194) rfl rfl)) ?_
      refine JA.one (i := 7) (by kernel_rfl) ?_
      refine JX.op rfl rfl (JO.store 4 (vs := [.slice x_192.a0 m_193.s.length x_192.c0, .slice x_192.a1 m_193.r.length x_192.c1, .slice x_192.a2 m_193.w.length x_192.c2]) (cs' := [.slice x_192.a0 m_193.s.length x_192.c0, .slice x_192.a1 m_193.r.length x_192.c1, .slice x_192.a2 m_193.w.length x_192.c2]) rfl rfl rfl rfl Tryz.sizeOf32 rfl rfl (Nat.le_of_ble_eq_true rfl) rfl) ?_
      rintro _ _ rfl
      refine ⟨(fun _ h => by cases h), ?_⟩
      refine JA.take 8 rfl (by kernel_rfl) (NP.th NP.body) (by kernel_rfl) (by kernel_rfl) (by kernel_rfl) rfl (LO.pure (PO.assign (v := .int .i64 n_194) rfl)) ?_
      refine JA.done (by kernel_rfl) ?_
      refine JQ.seq ?_
      refine JC.seq ?_
      refine JC.seq ?_
      refine JC.region ?_
      refine JL.pure rfl (PO.move (v := .int .i64 n_25) rfl) ?_
      refine JL.pure rfl (PO.move (v := .int .i64 n_194) rfl) ?_
      refine JL.pure rfl (PO.eqlI rfl rfl) ?_
      refine JL.nil ?_
      refine JQ.seq ?_
      by_cases h_196 : n_25 = n_194
      · skip
        refine JC.condT (congrArg Value.bool (decide_eq_true h_196)) ?_
        refine JC.seq ?_
        refine JC.region ?_
        refine JL.ld rfl (LO.loadK 4 (vs := [.slice x_192.a0 m_193.s.length x_192.c0, .slice x_192.a1 m_193.r.length x_192.c1, .slice x_192.a2 m_193.w.length x_192.c2]) rfl rfl Tryz.isAgg32 Tryz.sizeOf32 rfl rfl) ?_
        refine JL.op rfl (JO.store 3 (vs := [.slice x_192.a0 m_193.s.length x_192.c0, .slice x_192.a1 m_193.r.length x_192.c1, .slice x_192.a2 m_193.w.length x_192.c2]) (cs' := [.slice x_192.a0 m_193.s.length x_192.c0, .slice x_192.a1 m_193.r.length x_192.c1, .slice x_192.a2 m_193.w.length x_192.c2]) rfl rfl rfl rfl Tryz.sizeOf32 rfl rfl (Nat.le_of_ble_eq_true rfl) rfl) ?_
        rintro _ _ rfl
        refine JL.pure rfl (PO.assign (v := .int .i64 0) rfl) ?_
        refine JL.pure rfl (PO.assign (v := .int .i64 5) rfl) ?_
        refine JL.nil ?_
        refine JQ.seq ?_
        refine JC.ret ?_
        refine JQ.thenRet ?_
        refine Done.three (.inl rfl) rfl (RV.cell1 (LO.loadK 3 (vs := [.slice x_192.a0 m_193.s.length x_192.c0, .slice x_192.a1 m_193.r.length x_192.c1, .slice x_192.a2 m_193.w.length x_192.c2]) rfl rfl Tryz.isAgg32 Tryz.sizeOf32 rfl rfl) ⟨_, rfl⟩) (RV.tmp (v := .int .i64 0) rfl) (RV.tmp (v := .int .i64 5) rfl) (List.sublist_append_left [rC x_192.a0 x_192.c0 m_193.s, rS x_192.a1 x_192.c1 m_193.r, rS x_192.a2 x_192.c2 m_193.w] [mb b_2 x_192 m_193, mb b_1 x_192 m_193]) ?_
        exact ⟨x_192, m_193, 0, 5, (by simp only [MS.takeSignal, e_11, e_21, e_180, e_190, h_196, if_true, if_false, Bool.false_eq_true, Bool.not_true, Bool.not_false]; (repeat (first | rw [if_pos (by omega)] | rw [if_neg (by omega)])); all_goals (first | rfl | simp only [if_true, if_false, Bool.false_eq_true, Bool.not_true, Bool.not_false, e_11, e_21, e_180, e_190, h_196])), (k_191.mono (by omega) (by omega)), (by first | omega | (simp only [List.length_append, List.length_cons, List.length_nil, List.length_take, List.length_drop]; omega)), (by first | omega | (simp only [List.length_append, List.length_cons, List.length_nil, List.length_take, List.length_drop]; omega)), rfl, rfl⟩
      · skip
        refine JC.condF (congrArg Value.bool (decide_eq_false h_196)) ?_
        refine JC.skip ?_
        refine JQ.seq ?_
        refine JC.seq ?_
        refine JC.regionA [] 10 mixed (by simp) ?_
        refine JA.take 1 rfl (by kernel_rfl) (NP.th NP.body) (by kernel_rfl) (by kernel_rfl) (by kernel_rfl) rfl (LO.pure (PO.move (v := .int .i64 id) rfl)) ?_
        refine JA.take 2 rfl (by kernel_rfl) (NP.th NP.body) (by kernel_rfl) (by kernel_rfl) (by kernel_rfl) rfl (LO.pure (PO.move (v := .int .i64 n_25) rfl)) ?_
        refine JA.take 3 rfl (by kernel_rfl) (NP.th NP.body) (by kernel_rfl) (by kernel_rfl) (by kernel_rfl) rfl (LO.pure (PO.add (c := n_25 + 1) rfl rfl (wr (by omega)))) ?_
        refine JA.two (i := 0) (j := 4) (by kernel_rfl) ?_ ?_
        · skip
          refine JX.op rfl rfl (JO.ofLO (LO.loadK 4 (vs := [.slice x_192.a0 m_193.s.length x_192.c0, .slice x_192.a1 m_193.r.length x_192.c1, .slice x_192.a2 m_193.w.length x_192.c2]) rfl rfl Tryz.isAgg32 Tryz.sizeOf32 rfl rfl)) ?_
          rintro _ _ ⟨rfl, rfl⟩
          refine ⟨(fun _ h => by cases h), ?_⟩
          refine JA.one (i := 4) (by kernel_rfl) ?_
          refine JX.op rfl rfl (JO.call [] Tryz.call79 rfl (N_l10Signal id (n_25 + 1) (by omega) (by omega)) rfl (fun _ _ => trivial)) ?_
          rintro _ _ ⟨_, ⟨u_207, e_205, f_208, rfl, rfl⟩, rfl⟩
          refine ⟨(fun _ h => by cases h), ?_⟩
          refine JA.one (i := 5) (by kernel_rfl) ?_
          refine JX.op rfl rfl (JO.call [0, 0, 0] Tryz.call77 rfl (N_sNumAt x_192 m_193 k_191 (by omega) (by omega) u_207) rfl (fun _ _ => trivial)) ?_
          rintro _ _ ⟨_, ⟨x_217, m_218, n_219, e_215, k_216, f_220, rfl, rfl⟩, rfl⟩
          refine ⟨(fun _ h => by cases h), ?_⟩
          refine JA.take 6 rfl (by kernel_rfl) (NP.th NP.body) (by kernel_rfl) (by kernel_rfl) (by kernel_rfl) rfl (LO.pure (PO.move (v := .tuple #[mv x_217 m_218, .int .i64 n_219]) rfl)) ?_
          refine JA.take 7 rfl (by kernel_rfl) (NP.th NP.body) (by kernel_rfl) (by kernel_rfl) (by kernel_rfl) rfl (LO.pure (PO.extract (v := mv x_217 m_218) rfl rfl)) ?_
          refine JA.take 8 rfl (by kernel_rfl) (NP.th NP.body) (by kernel_rfl) (by kernel_rfl) (by kernel_rfl) rfl (LO.pure (PO.extract (v := .int .i64 n_219) rfl rfl)) ?_
          refine JA.one (i := 9) (by kernel_rfl) ?_
          refine JX.op rfl rfl (JO.store 4 (vs := [.slice x_217.a0 m_218.s.length x_217.c0, .slice x_217.a1 m_218.r.length x_217.c1, .slice x_217.a2 m_218.w.length x_217.c2]) (cs' := [.slice x_217.a0 m_218.s.length x_217.c0, .slice x_217.a1 m_218.r.length x_217.c1, .slice x_217.a2 m_218.w.length x_217.c2]) rfl rfl rfl rfl Tryz.sizeOf32 rfl rfl (Nat.le_of_ble_eq_true rfl) rfl) ?_
          rintro _ _ rfl
          refine ⟨(fun _ h => by cases h), ?_⟩
          refine JA.take 10 rfl (by kernel_rfl) (NP.th NP.body) (by kernel_rfl) (by kernel_rfl) (by kernel_rfl) rfl (LO.pure (PO.assign (v := .int .i64 n_219) rfl)) ?_
          refine JA.done (by kernel_rfl) ?_
          refine JQ.seq ?_
          refine JC.seq ?_
          refine JC.regionA [mb b_1 x_217 m_218] 6 mixed (by simp) ?_
          refine JA.take 0 rfl (by kernel_rfl) (NP.th NP.body) (by kernel_rfl) (by kernel_rfl) (by kernel_rfl) rfl (LO.loadK 0 (vs := [.slice x_217.a0 m_218.s.length x_217.c0, .slice x_217.a1 m_218.r.length x_217.c1, .slice x_217.a2 m_218.w.length x_217.c2]) rfl rfl Tryz.isAgg32 Tryz.sizeOf32 rfl rfl) ?_
          refine JA.take 1 rfl (by kernel_rfl) (NP.th NP.body) (by kernel_rfl) (by kernel_rfl) (by kernel_rfl) rfl (LO.pure (PO.move (v := .int .i64 id) rfl)) ?_
          refine JA.take 2 rfl (by kernel_rfl) (NP.th NP.body) (by kernel_rfl) (by kernel_rfl) (by kernel_rfl) rfl (LO.pure (PO.move (v := .int .i64 n_25) rfl)) ?_
          refine JA.take 3 rfl (by kernel_rfl) (NP.th NP.body) (by kernel_rfl) (by kernel_rfl) (by kernel_rfl) rfl (LO.pure (PO.add (c := n_25 + 1) rfl rfl (wr (by omega)))) ?_
          refine JA.one (i := 4) (by kernel_rfl) ?_
          refine JX.op rfl rfl (JO.call [] Tryz.call79 rfl (N_l10Signal id (n_25 + 1) (by omega) (by omega)) rfl (fun _ _ => trivial)) ?_
          rintro _ _ ⟨_, ⟨u_227, e_225, f_228, rfl, rfl⟩, rfl⟩
          have hqe_225 := e_205.symm.trans e_225
          subst hqe_225
          refine ⟨(by simp), ?_⟩
          refine JA.one (i := 5) (by kernel_rfl) ?_
          refine JX.op rfl rfl (JO.call [0, 0, 0] Tryz.call80 rfl (N_sLayNil x_217 m_218 k_216 (by omega) (by omega) u_207 (by omega)) rfl (fun _ _ => trivial)) ?_
          rintro _ _ ⟨_, ⟨x_235, m_236, e_233, k_234, rfl, rfl⟩, rfl⟩
          refine ⟨(by simp), ?_⟩
          refine JA.one (i := 6) (by kernel_rfl) ?_
          refine JX.last rfl rfl rfl (by kernel_rfl) (JO.store 4 (vs := [.slice x_235.a0 m_236.s.length x_235.c0, .slice x_235.a1 m_236.r.length x_235.c1, .slice x_235.a2 m_236.w.length x_235.c2]) (cs' := [.slice x_235.a0 m_236.s.length x_235.c0, .slice x_235.a1 m_236.r.length x_235.c1, .slice x_235.a2 m_236.w.length x_235.c2]) rfl rfl rfl rfl Tryz.sizeOf32 rfl rfl (Nat.le_of_ble_eq_true rfl) rfl) ?_
          rintro _ _ rfl
          refine JQ.seq ?_
          refine JC.seq ?_
          refine JC.regionA [mb b_1 x_235 m_236] 9 mixed (by simp) ?_
          refine JA.take 0 rfl (by kernel_rfl) (NP.th NP.body) (by kernel_rfl) (by kernel_rfl) (by kernel_rfl) rfl (LO.loadK 0 (vs := [.slice x_235.a0 m_236.s.length x_235.c0, .slice x_235.a1 m_236.r.length x_235.c1, .slice x_235.a2 m_236.w.length x_235.c2]) rfl rfl Tryz.isAgg32 Tryz.sizeOf32 rfl rfl) ?_
          refine JA.take 1 rfl (by kernel_rfl) (NP.th NP.body) (by kernel_rfl) (by kernel_rfl) (by kernel_rfl) rfl (LO.pure (PO.move (v := .int .i64 id) rfl)) ?_
          refine JA.take 3 rfl (by kernel_rfl) (NP.th NP.body) (by kernel_rfl) (by kernel_rfl) (by kernel_rfl) rfl (LO.pure (PO.move (v := .int .i64 n_25) rfl)) ?_
          refine JA.take 4 rfl (by kernel_rfl) (NP.th NP.body) (by kernel_rfl) (by kernel_rfl) (by kernel_rfl) rfl (LO.pure (PO.add (c := n_25 + 1) rfl rfl (wr (by omega)))) ?_
          refine JA.take 6 rfl (by kernel_rfl) (NP.th NP.body) (by kernel_rfl) (by kernel_rfl) (by kernel_rfl) rfl (LO.pure (PO.move (v := .int .i64 n_219) rfl)) ?_
          refine JA.one (i := 2) (by kernel_rfl) ?_
          refine JX.op rfl rfl (JO.call [] Tryz.call78 rfl (N_l10Key id [47, 104] (by omega) (show List.length ([47, 104] : Str) ≤ 2 by decide) (by omega)) rfl (fun _ _ => trivial)) ?_
          rintro _ _ ⟨_, ⟨u_255, e_253, f_256, rfl, rfl⟩, rfl⟩
          have hqe_253 := e_11.symm.trans e_253
          subst hqe_253
          refine ⟨(by simp), ?_⟩
          refine JA.one (i := 5) (by kernel_rfl) ?_
          refine JX.op rfl rfl (JO.call [0, 0, 0] Tryz.call81 rfl (N_sSetNum x_235 m_236 k_234 (by omega) (by omega) u_13 (n_25 + 1) (by omega) (by omega)) rfl (fun _ _ => trivial)) ?_
          rintro _ _ ⟨_, ⟨x_263, m_264, e_261, k_262, rfl, rfl⟩, rfl⟩
          refine ⟨(by simp), ?_⟩
          refine JA.one (i := 7) (by kernel_rfl) ?_
          refine JX.op rfl rfl (JO.store 3 (vs := [.slice x_263.a0 m_264.s.length x_263.c0, .slice x_263.a1 m_264.r.length x_263.c1, .slice x_263.a2 m_264.w.length x_263.c2]) (cs' := [.slice x_263.a0 m_264.s.length x_263.c0, .slice x_263.a1 m_264.r.length x_263.c1, .slice x_263.a2 m_264.w.length x_263.c2]) rfl rfl rfl rfl Tryz.sizeOf32 rfl rfl (Nat.le_of_ble_eq_true rfl) rfl) ?_
          rintro _ _ rfl
          refine ⟨(by simp), ?_⟩
          refine JA.take 8 rfl (by kernel_rfl) (NP.th NP.body) (by kernel_rfl) (by kernel_rfl) (by kernel_rfl) rfl (LO.pure (PO.assign (v := .int .i64 n_219) rfl)) ?_
          refine JA.take 9 rfl (by kernel_rfl) (NP.th NP.body) (by kernel_rfl) (by kernel_rfl) (by kernel_rfl) rfl (LO.pure (PO.assign (v := .int .i64 0) rfl)) ?_
          refine JA.done (by kernel_rfl) ?_
          refine JQ.seq ?_
          refine JC.ret ?_
          refine Done.three (.inl rfl) rfl (RV.cell1 (LO.loadK 3 (vs := [.slice x_263.a0 m_264.s.length x_263.c0, .slice x_263.a1 m_264.r.length x_263.c1, .slice x_263.a2 m_264.w.length x_263.c2]) rfl rfl Tryz.isAgg32 Tryz.sizeOf32 rfl rfl) ⟨_, rfl⟩) (RV.tmp (v := .int .i64 n_219) rfl) (RV.tmp (v := .int .i64 0) rfl) (List.sublist_append_left [rC x_263.a0 x_263.c0 m_264.s, rS x_263.a1 x_263.c1 m_264.r, rS x_263.a2 x_263.c2 m_264.w] [mb b_2 x_263 m_264, mb b_1 x_235 m_236]) ?_
          exact ⟨x_263, m_264, n_219, 0, (by simp only [MS.takeSignal, e_11, e_21, e_180, e_190, h_196, e_205, e_215, e_233, e_261, if_true, if_false, Bool.false_eq_true, Bool.not_true, Bool.not_false]; (repeat (first | rw [if_pos (by omega)] | rw [if_neg (by omega)])); all_goals (first | rfl | simp only [if_true, if_false, Bool.false_eq_true, Bool.not_true, Bool.not_false, e_11, e_21, e_180, e_190, h_196, e_205, e_215, e_233, e_261])), (k_262.mono (by omega) (by omega)), (by first | omega | (simp only [List.length_append, List.length_cons, List.length_nil, List.length_take, List.length_drop]; omega)), (by first | omega | (simp only [List.length_append, List.length_cons, List.length_nil, List.length_take, List.length_drop]; omega)), rfl, rfl⟩
        · skip
          refine JX.op rfl rfl (JO.call [] Tryz.call79 rfl (N_l10Signal id (n_25 + 1) (by omega) (by omega)) rfl (fun _ _ => trivial)) ?_
          rintro _ _ ⟨_, ⟨u_267, e_265, f_268, rfl, rfl⟩, rfl⟩
          refine ⟨(fun _ h => by cases h), ?_⟩
          refine JA.one (i := 0) (by kernel_rfl) ?_
          refine JX.op rfl rfl (JO.ofLO (LO.loadK 4 (vs := [.slice x_192.a0 m_193.s.length x_192.c0, .slice x_192.a1 m_193.r.length x_192.c1, .slice x_192.a2 m_193.w.length x_192.c2]) rfl rfl Tryz.isAgg32 Tryz.sizeOf32 rfl rfl)) ?_
          rintro _ _ ⟨rfl, rfl⟩
          refine ⟨(fun _ h => by cases h), ?_⟩
          refine JA.one (i := 5) (by kernel_rfl) ?_
          refine JX.op rfl rfl (JO.call [0, 0, 0] Tryz.call77 rfl (N_sNumAt x_192 m_193 k_191 (by omega) (by omega) u_267) rfl (fun _ _ => trivial)) ?_
          rintro _ _ ⟨_, ⟨x_277, m_278, n_279, e_275, k_276, f_280, rfl, rfl⟩, rfl⟩
          refine ⟨(fun _ h => by cases h), ?_⟩
          refine JA.take 6 rfl (by kernel_rfl) (NP.th NP.body) (by kernel_rfl) (by kernel_rfl) (by kernel_rfl) rfl (LO.pure (PO.move (v := .tuple #[mv x_277 m_278, .int .i64 n_279]) rfl)) ?_
          refine JA.take 7 rfl (by kernel_rfl) (NP.th NP.body) (by kernel_rfl) (by kernel_rfl) (by kernel_rfl) rfl (LO.pure (PO.extract (v := mv x_277 m_278) rfl rfl)) ?_
          refine JA.take 8 rfl (by kernel_rfl) (NP.th NP.body) (by kernel_rfl) (by kernel_rfl) (by kernel_rfl) rfl (LO.pure (PO.extract (v := .int .i64 n_279) rfl rfl)) ?_
          refine JA.one (i := 9) (by kernel_rfl) ?_
          refine JX.op rfl rfl (JO.store 4 (vs := [.slice x_277.a0 m_278.s.length x_277.c0, .slice x_277.a1 m_278.r.length x_277.c1, .slice x_277.a2 m_278.w.length x_277.c2]) (cs' := [.slice x_277.a0 m_278.s.length x_277.c0, .slice x_277.a1 m_278.r.length x_277.c1, .slice x_277.a2 m_278.w.length x_277.c2]) rfl rfl rfl rfl Tryz.sizeOf32 rfl rfl (Nat.le_of_ble_eq_true rfl) rfl) ?_
          rintro _ _ rfl
          refine ⟨(fun _ h => by cases h), ?_⟩
          refine JA.take 10 rfl (by kernel_rfl) (NP.th NP.body) (by kernel_rfl) (by kernel_rfl) (by kernel_rfl) rfl (LO.pure (PO.assign (v := .int .i64 n_279) rfl)) ?_
          refine JA.done (by kernel_rfl) ?_
          refine JQ.seq ?_
          refine JC.seq ?_
          refine JC.regionA [mb b_1 x_277 m_278] 6 mixed (by simp) ?_
          refine JA.take 0 rfl (by kernel_rfl) (NP.th NP.body) (by kernel_rfl) (by kernel_rfl) (by kernel_rfl) rfl (LO.loadK 0 (vs := [.slice x_277.a0 m_278.s.length x_277.c0, .slice x_277.a1 m_278.r.length x_277.c1, .slice x_277.a2 m_278.w.length x_277.c2]) rfl rfl Tryz.isAgg32 Tryz.sizeOf32 rfl rfl) ?_
          refine JA.take 1 rfl (by kernel_rfl) (NP.th NP.body) (by kernel_rfl) (by kernel_rfl) (by kernel_rfl) rfl (LO.pure (PO.move (v := .int .i64 id) rfl)) ?_
          refine JA.take 2 rfl (by kernel_rfl) (NP.th NP.body) (by kernel_rfl) (by kernel_rfl) (by kernel_rfl) rfl (LO.pure (PO.move (v := .int .i64 n_25) rfl)) ?_
          refine JA.take 3 rfl (by kernel_rfl) (NP.th NP.body) (by kernel_rfl) (by kernel_rfl) (by kernel_rfl) rfl (LO.pure (PO.add (c := n_25 + 1) rfl rfl (wr (by omega)))) ?_
          refine JA.one (i := 4) (by kernel_rfl) ?_
          refine JX.op rfl rfl (JO.call [] Tryz.call79 rfl (N_l10Signal id (n_25 + 1) (by omega) (by omega)) rfl (fun _ _ => trivial)) ?_
          rintro _ _ ⟨_, ⟨u_287, e_285, f_288, rfl, rfl⟩, rfl⟩
          have hqe_285 := e_265.symm.trans e_285
          subst hqe_285
          refine ⟨(by simp), ?_⟩
          refine JA.one (i := 5) (by kernel_rfl) ?_
          refine JX.op rfl rfl (JO.call [0, 0, 0] Tryz.call80 rfl (N_sLayNil x_277 m_278 k_276 (by omega) (by omega) u_267 (by omega)) rfl (fun _ _ => trivial)) ?_
          rintro _ _ ⟨_, ⟨x_295, m_296, e_293, k_294, rfl, rfl⟩, rfl⟩
          refine ⟨(by simp), ?_⟩
          refine JA.one (i := 6) (by kernel_rfl) ?_
          refine JX.last rfl rfl rfl (by kernel_rfl) (JO.store 4 (vs := [.slice x_295.a0 m_296.s.length x_295.c0, .slice x_295.a1 m_296.r.length x_295.c1, .slice x_295.a2 m_296.w.length x_295.c2]) (cs' := [.slice x_295.a0 m_296.s.length x_295.c0, .slice x_295.a1 m_296.r.length x_295.c1, .slice x_295.a2 m_296.w.length x_295.c2]) rfl rfl rfl rfl Tryz.sizeOf32 rfl rfl (Nat.le_of_ble_eq_true rfl) rfl) ?_
          rintro _ _ rfl
          refine JQ.seq ?_
          refine JC.seq ?_
          refine JC.regionA [mb b_1 x_295 m_296] 9 mixed (by simp) ?_
          refine JA.take 0 rfl (by kernel_rfl) (NP.th NP.body) (by kernel_rfl) (by kernel_rfl) (by kernel_rfl) rfl (LO.loadK 0 (vs := [.slice x_295.a0 m_296.s.length x_295.c0, .slice x_295.a1 m_296.r.length x_295.c1, .slice x_295.a2 m_296.w.length x_295.c2]) rfl rfl Tryz.isAgg32 Tryz.sizeOf32 rfl rfl) ?_
          refine JA.take 1 rfl (by kernel_rfl) (NP.th NP.body) (by kernel_rfl) (by kernel_rfl) (by kernel_rfl) rfl (LO.pure (PO.move (v := .int .i64 id) rfl)) ?_
          refine JA.take 3 rfl (by kernel_rfl) (NP.th NP.body) (by kernel_rfl) (by kernel_rfl) (by kernel_rfl) rfl (LO.pure (PO.move (v := .int .i64 n_25) rfl)) ?_
          refine JA.take 4 rfl (by kernel_rfl) (NP.th NP.body) (by kernel_rfl) (by kernel_rfl) (by kernel_rfl) rfl (LO.pure (PO.add (c := n_25 + 1) rfl rfl (wr (by omega)))) ?_
          refine JA.take 6 rfl (by kernel_rfl) (NP.th NP.body) (by kernel_rfl) (by kernel_rfl) (by kernel_rfl) rfl (LO.pure (PO.move (v := .int .i64 n_279) rfl)) ?_
          refine JA.one (i := 2) (by kernel_rfl) ?_
          refine JX.op rfl rfl (JO.call [] Tryz.call78 rfl (N_l10Key id [47, 104] (by omega) (show List.length ([47, 104] : Str) ≤ 2 by decide) (by omega)) rfl (fun _ _ => trivial)) ?_
          rintro _ _ ⟨_, ⟨u_315, e_313, f_316, rfl, rfl⟩, rfl⟩
          have hqe_313 := e_11.symm.trans e_313
          subst hqe_313
          refine ⟨(by simp), ?_⟩
          refine JA.one (i := 5) (by kernel_rfl) ?_
          refine JX.op rfl rfl (JO.call [0, 0, 0] Tryz.call81 rfl (N_sSetNum x_295 m_296 k_294 (by omega) (by omega) u_13 (n_25 + 1) (by omega) (by omega)) rfl (fun _ _ => trivial)) ?_
          rintro _ _ ⟨_, ⟨x_323, m_324, e_321, k_322, rfl, rfl⟩, rfl⟩
          refine ⟨(by simp), ?_⟩
          refine JA.one (i := 7) (by kernel_rfl) ?_
          refine JX.op rfl rfl (JO.store 3 (vs := [.slice x_323.a0 m_324.s.length x_323.c0, .slice x_323.a1 m_324.r.length x_323.c1, .slice x_323.a2 m_324.w.length x_323.c2]) (cs' := [.slice x_323.a0 m_324.s.length x_323.c0, .slice x_323.a1 m_324.r.length x_323.c1, .slice x_323.a2 m_324.w.length x_323.c2]) rfl rfl rfl rfl Tryz.sizeOf32 rfl rfl (Nat.le_of_ble_eq_true rfl) rfl) ?_
          rintro _ _ rfl
          refine ⟨(by simp), ?_⟩
          refine JA.take 8 rfl (by kernel_rfl) (NP.th NP.body) (by kernel_rfl) (by kernel_rfl) (by kernel_rfl) rfl (LO.pure (PO.assign (v := .int .i64 n_279) rfl)) ?_
          refine JA.take 9 rfl (by kernel_rfl) (NP.th NP.body) (by kernel_rfl) (by kernel_rfl) (by kernel_rfl) rfl (LO.pure (PO.assign (v := .int .i64 0) rfl)) ?_
          refine JA.done (by kernel_rfl) ?_
          refine JQ.seq ?_
          refine JC.ret ?_
          refine Done.three (.inl rfl) rfl (RV.cell1 (LO.loadK 3 (vs := [.slice x_323.a0 m_324.s.length x_323.c0, .slice x_323.a1 m_324.r.length x_323.c1, .slice x_323.a2 m_324.w.length x_323.c2]) rfl rfl Tryz.isAgg32 Tryz.sizeOf32 rfl rfl) ⟨_, rfl⟩) (RV.tmp (v := .int .i64 n_279) rfl) (RV.tmp (v := .int .i64 0) rfl) (List.sublist_append_left [rC x_323.a0 x_323.c0 m_324.s, rS x_323.a1 x_323.c1 m_324.r, rS x_323.a2 x_323.c2 m_324.w] [mb b_2 x_323 m_324, mb b_1 x_295 m_296]) ?_
          exact ⟨x_323, m_324, n_279, 0, (by simp only [MS.takeSignal, e_11, e_21, e_180, e_190, h_196, e_265, e_275, e_293, e_321, if_true, if_false, Bool.false_eq_true, Bool.not_true, Bool.not_false]; (repeat (first | rw [if_pos (by omega)] | rw [if_neg (by omega)])); all_goals (first | rfl | simp only [if_true, if_false, Bool.false_eq_true, Bool.not_true, Bool.not_false, e_11, e_21, e_180, e_190, h_196, e_265, e_275, e_293, e_321])), (k_322.mono (by omega) (by omega)), (by first | omega | (simp only [List.length_append, List.length_cons, List.length_nil, List.length_take, List.length_drop]; omega)), (by first | omega | (simp only [List.length_append, List.length_cons, List.length_nil, List.length_take, List.length_drop]; omega)), rfl, rfl⟩
  · skip
    refine JX.op rfl rfl (JO.call [] Tryz.call78 rfl (N_l10Key id [47, 104] (by omega) (show List.length ([47, 104] : Str) ≤ 2 by decide) (by omega)) rfl (fun _ _ => trivial)) ?_
    rintro _ _ ⟨_, ⟨u_327, e_325, f_328, rfl, rfl⟩, rfl⟩
    refine ⟨(fun _ h => by cases h), ?_⟩
    refine JA.one (i := 0) (by kernel_rfl) ?_
    refine JX.op rfl rfl (JO.ofLO (LO.loadK 1 (vs := [.slice x.a0 m.s.length x.c0, .slice x.a1 m.r.length x.c1, .slice x.a2 m.w.length x.c2]) rfl rfl Tryz.isAgg32 Tryz.sizeOf32 rfl rfl)) ?_
    rintro _ _ ⟨rfl, rfl⟩
    refine ⟨(fun _ h => by cases h), ?_⟩
    refine JA.one (i := 3) (by kernel_rfl) ?_
    refine JX.op rfl rfl (JO.call [2, 2, 2] Tryz.call77 rfl (N_sNumAt x m hk (by omega) (by omega) u_327) rfl (fun _ _ => trivial)) ?_
    rintro _ _ ⟨_, ⟨x_337, m_338, n_339, e_335, k_336, f_340, rfl, rfl⟩, rfl⟩
    refine ⟨(fun _ h => by cases h), ?_⟩
    refine JA.take 4 rfl (by kernel_rfl) (NP.th NP.body) (by kernel_rfl) (by kernel_rfl) (by kernel_rfl) rfl (LO.pure (PO.move (v := .tuple #[mv x_337 m_338, .int .i64 n_339]) rfl)) ?_
    refine JA.take 5 rfl (by kernel_rfl) (NP.th NP.body) (by kernel_rfl) (by kernel_rfl) (by kernel_rfl) rfl (LO.pure (PO.extract (v := mv x_337 m_338) rfl rfl)) ?_
    refine JA.take 6 rfl (by kernel_rfl) (NP.th NP.body) (by kernel_rfl) (by kernel_rfl) (by kernel_rfl) rfl (LO.pure (PO.extract (v := .int .i64 n_339) rfl rfl)) ?_
    refine JA.one (i := 7) (by kernel_rfl) ?_
    refine JX.op rfl rfl (JO.store 4 (vs := [.slice x_337.a0 m_338.s.length x_337.c0, .slice x_337.a1 m_338.r.length x_337.c1, .slice x_337.a2 m_338.w.length x_337.c2]) (cs' := [.slice x_337.a0 m_338.s.length x_337.c0, .slice x_337.a1 m_338.r.length x_337.c1, .slice x_337.a2 m_338.w.length x_337.c2]) rfl rfl rfl rfl Tryz.sizeOf32 rfl rfl (Nat.le_of_ble_eq_true rfl) rfl) ?_
    rintro _ _ rfl
    refine ⟨(fun _ h => by cases h), ?_⟩
    refine JA.take 8 rfl (by kernel_rfl) (NP.th NP.body) (by kernel_rfl) (by kernel_rfl) (by kernel_rfl) rfl (LO.pure (PO.assign (v := .int .i64 n_339) rfl)) ?_
    refine JA.done (by kernel_rfl) ?_
    refine JQ.seq ?_
    refine JC.seq ?_
    refine JC.regionA [] 8 mixed (by simp) ?_
    refine JA.take 1 rfl (by kernel_rfl) (NP.th NP.body) (by kernel_rfl) (by kernel_rfl) (by kernel_rfl) rfl (LO.pure (PO.move (v := .int .i64 id) rfl)) ?_
    refine JA.two (i := 0) (j := 2) (by kernel_rfl) ?_ ?_
    · skip
      refine JX.op rfl rfl (JO.ofLO (LO.loadK 4 (vs := [.slice x_337.a0 m_338.s.length x_337.c0, .slice x_337.a1 m_338.r.length x_337.c1, .slice x_337.a2 m_338.w.length x_337.c2]) rfl rfl Tryz.isAgg32 Tryz.sizeOf32 rfl rfl)) ?_
      rintro _ _ ⟨rfl, rfl⟩
      refine ⟨(fun _ h => by cases h), ?_⟩
      refine JA.one (i := 2) (by kernel_rfl) ?_
      refine JX.op rfl rfl (JO.call [] Tryz.call78 rfl (N_l10Key id [47, 116] (by omega) (show List.length ([47, 116] : Str) ≤ 2 by decide) (by omega)) rfl (fun _ _ => trivial)) ?_
      rintro _ _ ⟨_, ⟨u_351, e_349, f_352, rfl, rfl⟩, rfl⟩
      refine ⟨(fun _ h => by cases h), ?_⟩
      refine JA.one (i := 3) (by kernel_rfl) ?_
      refine JX.op rfl rfl (JO.call [0, 0, 0] Tryz.call77 rfl (N_sNumAt x_337 m_338 k_336 (by omega) (by omega) u_351) rfl (fun _ _ => trivial)) ?_
      rintro _ _ ⟨_, ⟨x_361, m_362, n_363, e_359, k_360, f_364, rfl, rfl⟩, rfl⟩
      refine ⟨(fun _ h => by cases h), ?_⟩
      refine JA.take 4 rfl (by kernel_rfl) (NP.th NP.body) (by kernel_rfl) (by kernel_rfl) (by kernel_rfl) rfl (LO.pure (PO.move (v := .tuple #[mv x_361 m_362, .int .i64 n_363]) rfl)) ?_
      refine JA.take 5 rfl (by kernel_rfl) (NP.th NP.body) (by kernel_rfl) (by kernel_rfl) (by kernel_rfl) rfl (LO.pure (PO.extract (v := mv x_361 m_362) rfl rfl)) ?_
      refine JA.take 6 rfl (by kernel_rfl) (NP.th NP.body) (by kernel_rfl) (by kernel_rfl) (by kernel_rfl) rfl (LO.pure (PO.extract (v := .int .i64 n_363) rfl rfl)) ?_
      refine JA.one (i := 7) (by kernel_rfl) ?_
      refine JX.op rfl rfl (JO.store 4 (vs := [.slice x_361.a0 m_362.s.length x_361.c0, .slice x_361.a1 m_362.r.length x_361.c1, .slice x_361.a2 m_362.w.length x_361.c2]) (cs' := [.slice x_361.a0 m_362.s.length x_361.c0, .slice x_361.a1 m_362.r.length x_361.c1, .slice x_361.a2 m_362.w.length x_361.c2]) rfl rfl rfl rfl Tryz.sizeOf32 rfl rfl (Nat.le_of_ble_eq_true rfl) rfl) ?_
      rintro _ _ rfl
      refine ⟨(fun _ h => by cases h), ?_⟩
      refine JA.take 8 rfl (by kernel_rfl) (NP.th NP.body) (by kernel_rfl) (by kernel_rfl) (by kernel_rfl) rfl (LO.pure (PO.assign (v := .int .i64 n_363) rfl)) ?_
      refine JA.done (by kernel_rfl) ?_
      refine JQ.seq ?_
      refine JC.seq ?_
      refine JC.seq ?_
      refine JC.region ?_
      refine JL.pure rfl (PO.move (v := .int .i64 n_339) rfl) ?_
      refine JL.pure rfl (PO.move (v := .int .i64 n_363) rfl) ?_
      refine JL.pure rfl (PO.eqlI rfl rfl) ?_
      refine JL.nil ?_
      refine JQ.seq ?_
      by_cases h_365 : n_339 = n_363
      · skip
        refine JC.condT (congrArg Value.bool (decide_eq_true h_365)) ?_
        refine JC.seq ?_
        refine JC.region ?_
        refine JL.ld rfl (LO.loadK 4 (vs := [.slice x_361.a0 m_362.s.length x_361.c0, .slice x_361.a1 m_362.r.length x_361.c1, .slice x_361.a2 m_362.w.length x_361.c2]) rfl rfl Tryz.isAgg32 Tryz.sizeOf32 rfl rfl) ?_
        refine JL.op rfl (JO.store 3 (vs := [.slice x_361.a0 m_362.s.length x_361.c0, .slice x_361.a1 m_362.r.length x_361.c1, .slice x_361.a2 m_362.w.length x_361.c2]) (cs' := [.slice x_361.a0 m_362.s.length x_361.c0, .slice x_361.a1 m_362.r.length x_361.c1, .slice x_361.a2 m_362.w.length x_361.c2]) rfl rfl rfl rfl Tryz.sizeOf32 rfl rfl (Nat.le_of_ble_eq_true rfl) rfl) ?_
        rintro _ _ rfl
        refine JL.pure rfl (PO.assign (v := .int .i64 0) rfl) ?_
        refine JL.pure rfl (PO.assign (v := .int .i64 5) rfl) ?_
        refine JL.nil ?_
        refine JQ.seq ?_
        refine JC.ret ?_
        refine JQ.thenRet ?_
        refine Done.three (.inl rfl) rfl (RV.cell1 (LO.loadK 3 (vs := [.slice x_361.a0 m_362.s.length x_361.c0, .slice x_361.a1 m_362.r.length x_361.c1, .slice x_361.a2 m_362.w.length x_361.c2]) rfl rfl Tryz.isAgg32 Tryz.sizeOf32 rfl rfl) ⟨_, rfl⟩) (RV.tmp (v := .int .i64 0) rfl) (RV.tmp (v := .int .i64 5) rfl) (List.sublist_append_left [rC x_361.a0 x_361.c0 m_362.s, rS x_361.a1 x_361.c1 m_362.r, rS x_361.a2 x_361.c2 m_362.w] [mb b_2 x_361 m_362, mb b_1 x_361 m_362]) ?_
        exact ⟨x_361, m_362, 0, 5, (by simp only [MS.takeSignal, e_325, e_335, e_349, e_359, h_365, if_true, if_false, Bool.false_eq_true, Bool.not_true, Bool.not_false]; (repeat (first | rw [if_pos (by omega)] | rw [if_neg (by omega)])); all_goals (first | rfl | simp only [if_true, if_false, Bool.false_eq_true, Bool.not_true, Bool.not_false, e_325, e_335, e_349, e_359, h_365])), (k_360.mono (by omega) (by omega)), (by first | omega | (simp only [List.length_append, List.length_cons, List.length_nil, List.length_take, List.length_drop]; omega)), (by first | omega | (simp only [List.length_append, List.length_cons, List.length_nil, List.length_take, List.length_drop]; omega)), rfl, rfl⟩
      · skip
        refine JC.condF (congrArg Value.bool (decide_eq_false h_365)) ?_
        refine JC.skip ?_
        refine JQ.seq ?_
        refine JC.seq ?_
        refine JC.regionA [] 10 mixed (by simp) ?_
        refine JA.take 1 rfl (by kernel_rfl) (NP.th NP.body) (by kernel_rfl) (by kernel_rfl) (by kernel_rfl) rfl (LO.pure (PO.move (v := .int .i64 id) rfl)) ?_
        refine JA.take 2 rfl (by kernel_rfl) (NP.th NP.body) (by kernel_rfl) (by kernel_rfl) (by kernel_rfl) rfl (LO.pure (PO.move (v := .int .i64 n_339) rfl)) ?_
        refine JA.take 3 rfl (by kernel_rfl) (NP.th NP.body) (by kernel_rfl) (by kernel_rfl) (by kernel_rfl) rfl (LO.pure (PO.add (c := n_339 + 1) rfl rfl (wr (by omega)))) ?_
        refine JA.two (i := 0) (j := 4) (by kernel_rfl) ?_ ?_
        · skip
          refine JX.op rfl rfl (JO.ofLO (LO.loadK 4 (vs := [.slice x_361.a0 m_362.s.length x_361.c0, .slice x_361.a1 m_362.r.length x_361.c1, .slice x_361.a2 m_362.w.length x_361.c2]) rfl rfl Tryz.isAgg32 Tryz.sizeOf32 rfl rfl)) ?_
          rintro _ _ ⟨rfl, rfl⟩
          refine ⟨(fun _ h => by cases h), ?_⟩
          refine JA.one (i := 4) (by kernel_rfl) ?_
          refine JX.op rfl rfl (JO.call [] Tryz.call79 rfl (N_l10Signal id (n_339 + 1) (by omega) (by omega)) rfl (fun _ _ => trivial)) ?_
          rintro _ _ ⟨_, ⟨u_376, e_374, f_377, rfl, rfl⟩, rfl⟩
          refine ⟨(fun _ h => by cases h), ?_⟩
          refine JA.one (i := 5) (by kernel_rfl) ?_
          refine JX.op rfl rfl (JO.call [0, 0, 0] Tryz.call77 rfl (N_sNumAt x_361 m_362 k_360 (by omega) (by omega) u_376) rfl (fun _ _ => trivial)) ?_
          rintro _ _ ⟨_, ⟨x_386, m_387, n_388, e_384, k_385, f_389, rfl, rfl⟩, rfl⟩
          refine ⟨(fun _ h => by cases h), ?_⟩
          refine JA.take 6 rfl (by kernel_rfl) (NP.th NP.body) (by kernel_rfl) (by kernel_rfl) (by kernel_rfl) rfl (LO.pure (PO.move (v := .tuple #[mv x_386 m_387, .int .i64 n_388]) rfl)) ?_
          refine JA.take 7 rfl (by kernel_rfl) (NP.th NP.body) (by kernel_rfl) (by kernel_rfl) (by kernel_rfl) rfl (LO.pure (PO.extract (v := mv x_386 m_387) rfl rfl)) ?_
          refine JA.take 8 rfl (by kernel_rfl) (NP.th NP.body) (by kernel_rfl) (by kernel_rfl) (by kernel_rfl) rfl (LO.pure (PO.extract (v := .int .i64 n_388) rfl rfl)) ?_
          refine JA.one (i := 9) (by kernel_rfl) ?_
          refine JX.op rfl rfl (JO.store 4 (vs := [.slice x_386.a0 m_387.s.length x_386.c0, .slice x_386.a1 m_387.r.length x_386.c1, .slice x_386.a2 m_387.w.length x_386.c2]) (cs' := [.slice x_386.a0 m_387.s.length x_386.c0, .slice x_386.a1 m_387.r.length x_386.c1, .slice x_386.a2 m_387.w.length x_386.c2]) rfl rfl rfl rfl Tryz.sizeOf32 rfl rfl (Nat.le_of_ble_eq_true rfl) rfl) ?_
          rintro _ _ rfl
          refine ⟨(fun _ h => by cases h), ?_⟩
          refine JA.take 10 rfl (by kernel_rfl) (NP.th NP.body) (by kernel_rfl) (by kernel_rfl) (by kernel_rfl) rfl (LO.pure (PO.assign (v := .int .i64 n_388) rfl)) ?_
          refine JA.done (by kernel_rfl) ?_
          refine JQ.seq ?_
          refine JC.seq ?_
          refine JC.regionA [mb b_1 x_386 m_387] 6 mixed (by simp) ?_
          refine JA.take 0 rfl (by kernel_rfl) (NP.th NP.body) (by kernel_rfl) (by kernel_rfl) (by kernel_rfl) rfl (LO.loadK 0 (vs := [.slice x_386.a0 m_387.s.length x_386.c0, .slice x_386.a1 m_387.r.length x_386.c1, .slice x_386.a2 m_387.w.length x_386.c2]) rfl rfl Tryz.isAgg32 Tryz.sizeOf32 rfl rfl) ?_
          refine JA.take 1 rfl (by kernel_rfl) (NP.th NP.body) (by kernel_rfl) (by kernel_rfl) (by kernel_rfl) rfl (LO.pure (PO.move (v := .int .i64 id) rfl)) ?_
          refine JA.take 2 rfl (by kernel_rfl) (NP.th NP.body) (by kernel_rfl) (by kernel_rfl) (by kernel_rfl) rfl (LO.pure (PO.move (v := .int .i64 n_339) rfl)) ?_
          refine JA.take 3 rfl (by kernel_rfl) (NP.th NP.body) (by kernel_rfl) (by kernel_rfl) (by kernel_rfl) rfl (LO.pure (PO.add (c := n_339 + 1) rfl rfl (wr (by omega)))) ?_
          refine JA.one (i := 4) (by kernel_rfl) ?_
          refine JX.op rfl rfl (JO.call [] Tryz.call79 rfl (N_l10Signal id (n_339 + 1) (by omega) (by omega)) rfl (fun _ _ => trivial)) ?_
          rintro _ _ ⟨_, ⟨u_396, e_394, f_397, rfl, rfl⟩, rfl⟩
          have hqe_394 := e_374.symm.trans e_394
          subst hqe_394
          refine ⟨(by simp), ?_⟩
          refine JA.one (i := 5) (by kernel_rfl) ?_
          refine JX.op rfl rfl (JO.call [0, 0, 0] Tryz.call80 rfl (N_sLayNil x_386 m_387 k_385 (by omega) (by omega) u_376 (by omega)) rfl (fun _ _ => trivial)) ?_
          rintro _ _ ⟨_, ⟨x_404, m_405, e_402, k_403, rfl, rfl⟩, rfl⟩
          refine ⟨(by simp), ?_⟩
          refine JA.one (i := 6) (by kernel_rfl) ?_
          refine JX.last rfl rfl rfl (by kernel_rfl) (JO.store 4 (vs := [.slice x_404.a0 m_405.s.length x_404.c0, .slice x_404.a1 m_405.r.length x_404.c1, .slice x_404.a2 m_405.w.length x_404.c2]) (cs' := [.slice x_404.a0 m_405.s.length x_404.c0, .slice x_404.a1 m_405.r.length x_404.c1, .slice x_404.a2 m_405.w.length x_404.c2]) rfl rfl rfl rfl Tryz.sizeOf32 rfl rfl (Nat.le_of_ble_eq_true rfl) rfl) ?_
          rintro _ _ rfl
          refine JQ.seq ?_
          refine JC.seq ?_
          refine JC.regionA [mb b_1 x_404 m_405] 9 mixed (by simp) ?_
          refine JA.take 0 rfl (by kernel_rfl) (NP.th NP.body) (by kernel_rfl) (by kernel_rfl) (by kernel_rfl) rfl (LO.loadK 0 (vs := [.slice x_404.a0 m_405.s.length x_404.c0, .slice x_404.a1 m_405.r.length x_404.c1, .slice x_404.a2 m_405.w.length x_404.c2]) rfl rfl Tryz.isAgg32 Tryz.sizeOf32 rfl rfl) ?_
          refine JA.take 1 rfl (by kernel_rfl) (NP.th NP.body) (by kernel_rfl) (by kernel_rfl) (by kernel_rfl) rfl (LO.pure (PO.move (v := .int .i64 id) rfl)) ?_
          refine JA.take 3 rfl (by kernel_rfl) (NP.th NP.body) (by kernel_rfl) (by kernel_rfl) (by kernel_rfl) rfl (LO.pure (PO.move (v := .int .i64 n_339) rfl)) ?_
          refine JA.take 4 rfl (by kernel_rfl) (NP.th NP.body) (by kernel_rfl) (by kernel_rfl) (by kernel_rfl) rfl (LO.pure (PO.add (c := n_339 + 1) rfl rfl (wr (by omega)))) ?_
          refine JA.take 6 rfl (by kernel_rfl) (NP.th NP.body) (by kernel_rfl) (by kernel_rfl) (by kernel_rfl) rfl (LO.pure (PO.move (v := .int .i64 n_388) rfl)) ?_
          refine JA.one (i := 2) (by kernel_rfl) ?_
          refine JX.op rfl rfl (JO.call [] Tryz.call78 rfl (N_l10Key id [47, 104] (by omega) (show List.length ([47, 104] : Str) ≤ 2 by decide) (by omega)) rfl (fun _ _ => trivial)) ?_
          rintro _ _ ⟨_, ⟨u_424, e_422, f_425, rfl, rfl⟩, rfl⟩
          have hqe_422 := e_325.symm.trans e_422
          subst hqe_422
          refine ⟨(by simp), ?_⟩
          refine JA.one (i := 5) (by kernel_rfl) ?_
          refine JX.op rfl rfl (JO.call [0, 0, 0] Tryz.call81 rfl (N_sSetNum x_404 m_405 k_403 (by omega) (by omega) u_327 (n_339 + 1) (by omega) (by omega)) rfl (fun _ _ => trivial)) ?_
          rintro _ _ ⟨_, ⟨x_432, m_433, e_430, k_431, rfl, rfl⟩, rfl⟩
          refine ⟨(by simp), ?_⟩
          refine JA.one (i := 7) (by kernel_rfl) ?_
          refine JX.op rfl rfl (JO.store 3 (vs := [.slice x_432.a0 m_433.s.length x_432.c0, .slice x_432.a1 m_433.r.length x_432.c1, .slice x_432.a2 m_433.w.length x_432.c2]) (cs' := [.slice x_432.a0 m_433.s.length x_432.c0, .slice x_432.a1 m_433.r.length x_432.c1, .slice x_432.a2 m_433.w.length x_432.c2]) rfl rfl rfl rfl Tryz.sizeOf32 rfl rfl (Nat.le_of_ble_eq_true rfl) rfl) ?_
          rintro _ _ rfl
          refine ⟨(by simp), ?_⟩
          refine JA.take 8 rfl (by kernel_rfl) (NP.th NP.body) (by kernel_rfl) (by kernel_rfl) (by kernel_rfl) rfl (LO.pure (PO.assign (v := .int .i64 n_388) rfl)) ?_
          refine JA.take 9 rfl (by kernel_rfl) (NP.th NP.body) (by kernel_rfl) (by kernel_rfl) (by kernel_rfl) rfl (LO.pure (PO.assign (v := .int .i64 0) rfl)) ?_
          refine JA.done (by kernel_rfl) ?_
          refine JQ.seq ?_
          refine JC.ret ?_
          refine Done.three (.inl rfl) rfl (RV.cell1 (LO.loadK 3 (vs := [.slice x_432.a0 m_433.s.length x_432.c0, .slice x_432.a1 m_433.r.length x_432.c1, .slice x_432.a2 m_433.w.length x_432.c2]) rfl rfl Tryz.isAgg32 Tryz.sizeOf32 rfl rfl) ⟨_, rfl⟩) (RV.tmp (v := .int .i64 n_388) rfl) (RV.tmp (v := .int .i64 0) rfl) (List.sublist_append_left [rC x_432.a0 x_432.c0 m_433.s, rS x_432.a1 x_432.c1 m_433.r, rS x_432.a2 x_432.c2 m_433.w] [mb b_2 x_432 m_433, mb b_1 x_404 m_405]) ?_
          exact ⟨x_432, m_433, n_388, 0, (by simp only [MS.takeSignal, e_325, e_335, e_349, e_359, h_365, e_374, e_384, e_402, e_430, if_true, if_false, Bool.false_eq_true, Bool.not_true, Bool.not_false]; (repeat (first | rw [if_pos (by omega)] | rw [if_neg (by omega)])); all_goals (first | rfl | simp only [if_true, if_false, Bool.false_eq_true, Bool.not_true, Bool.not_false, e_325, e_335, e_349, e_359, h_365, e_374, e_384, e_402, e_430])), (k_431.mono (by omega) (by omega)), (by first | omega | (simp only [List.length_append, List.length_cons, List.length_nil, List.length_take, List.length_drop]; omega)), (by first | omega | (simp only [List.length_append, List.length_cons, List.length_nil, List.length_take, List.length_drop]; omega)), rfl, rfl⟩
        · skip
          refine JX.op rfl rfl (JO.call [] Tryz.call79 rfl (N_l10Signal id (n_339 + 1) (by omega) (by omega)) rfl (fun _ _ => trivial)) ?_
          rintro _ _ ⟨_, ⟨u_436, e_434, f_437, rfl, rfl⟩, rfl⟩
          refine ⟨(fun _ h => by cases h), ?_⟩
          refine JA.one (i := 0) (by kernel_rfl) ?_
          refine JX.op rfl rfl (JO.ofLO (LO.loadK 4 (vs := [.slice x_361.a0 m_362.s.length x_361.c0, .slice x_361.a1 m_362.r.length x_361.c1, .slice x_361.a2 m_362.w.length x_361.c2]) rfl rfl Tryz.isAgg32 Tryz.sizeOf32 rfl rfl)) ?_
          rintro _ _ ⟨rfl, rfl⟩
          refine ⟨(fun _ h => by cases h), ?_⟩
          refine JA.one (i := 5) (by kernel_rfl) ?_
          refine JX.op rfl rfl (JO.call [0, 0, 0] Tryz.call77 rfl (N_sNumAt x_361 m_362 k_360 (by omega) (by omega) u_436) rfl (fun _ _ => trivial)) ?_
          rintro _ _ ⟨_, ⟨x_446, m_447, n_448, e_444, k_445, f_449, rfl, rfl⟩, rfl⟩
          refine ⟨(fun _ h => by cases h), ?_⟩
          refine JA.take 6 rfl (by kernel_rfl) (NP.th NP.body) (by kernel_rfl) (by kernel_rfl) (by kernel_rfl) rfl (LO.pure (PO.move (v := .tuple #[mv x_446 m_447, .int .i64 n_448]) rfl)) ?_
          refine JA.take 7 rfl (by kernel_rfl) (NP.th NP.body) (by kernel_rfl) (by kernel_rfl) (by kernel_rfl) rfl (LO.pure (PO.extract (v := mv x_446 m_447) rfl rfl)) ?_
          refine JA.take 8 rfl (by kernel_rfl) (NP.th NP.body) (by kernel_rfl) (by kernel_rfl) (by kernel_rfl) rfl (LO.pure (PO.extract (v := .int .i64 n_448) rfl rfl)) ?_
          refine JA.one (i := 9) (by kernel_rfl) ?_
          refine JX.op rfl rfl (JO.store 4 (vs := [.slice x_446.a0 m_447.s.length x_446.c0, .slice x_446.a1 m_447.r.length x_446.c1, .slice x_446.a2 m_447.w.length x_446.c2]) (cs' := [.slice x_446.a0 m_447.s.length x_446.c0, .slice x_446.a1 m_447.r.length x_446.c1, .slice x_446.a2 m_447.w.length x_446.c2]) rfl rfl rfl rfl Tryz.sizeOf32 rfl rfl (Nat.le_of_ble_eq_true rfl) rfl) ?_
          rintro _ _ rfl
          refine ⟨(fun _ h => by cases h), ?_⟩
          refine JA.take 10 rfl (by kernel_rfl) (NP.th NP.body) (by kernel_rfl) (by kernel_rfl) (by kernel_rfl) rfl (LO.pure (PO.assign (v := .int .i64 n_448) rfl)) ?_
          refine JA.done (by kernel_rfl) ?_
          refine JQ.seq ?_
          refine JC.seq ?_
          refine JC.regionA [mb b_1 x_446 m_447] 6 mixed (by simp) ?_
          refine JA.take 0 rfl (by kernel_rfl) (NP.th NP.body) (by kernel_rfl) (by kernel_rfl) (by kernel_rfl) rfl (LO.loadK 0 (vs := [.slice x_446.a0 m_447.s.length x_446.c0, .slice x_446.a1 m_447.r.length x_446.c1, .slice x_446.a2 m_447.w.length x_446.c2]) rfl rfl Tryz.isAgg32 Tryz.sizeOf32 rfl rfl) ?_
          refine JA.take 1 rfl (by kernel_rfl) (NP.th NP.body) (by kernel_rfl) (by kernel_rfl) (by kernel_rfl) rfl (LO.pure (PO.move (v := .int .i64 id) rfl)) ?_
          refine JA.take 2 rfl (by kernel_rfl) (NP.th NP.body) (by kernel_rfl) (by kernel_rfl) (by kernel_rfl) rfl (LO.pure (PO.move (v := .int .i64 n_339) rfl)) ?_
          refine JA.take 3 rfl (by kernel_rfl) (NP.th NP.body) (by kernel_rfl) (by kernel_rfl) (by kernel_rfl) rfl (LO.pure (PO.add (c := n_339 + 1) rfl rfl (wr (by omega)))) ?_
          refine JA.one (i := 4) (by kernel_rfl) ?_
          refine JX.op rfl rfl (JO.call [] Tryz.call79 rfl (N_l10Signal id (n_339 + 1) (by omega) (by omega)) rfl (fun _ _ => trivial)) ?_
          rintro _ _ ⟨_, ⟨u_456, e_454, f_457, rfl, rfl⟩, rfl⟩
          have hqe_454 := e_434.symm.trans e_454
          subst hqe_454
          refine ⟨(by simp), ?_⟩
          refine JA.one (i := 5) (by kernel_rfl) ?_
          refine JX.op rfl rfl (JO.call [0, 0, 0] Tryz.call80 rfl (N_sLayNil x_446 m_447 k_445 (by omega) (by omega) u_436 (by omega)) rfl (fun _ _ => trivial)) ?_
          rintro _ _ ⟨_, ⟨x_464, m_465, e_462, k_463, rfl, rfl⟩, rfl⟩
          refine ⟨(by simp), ?_⟩
          refine JA.one (i := 6) (by kernel_rfl) ?_
          refine JX.last rfl rfl rfl (by kernel_rfl) (JO.store 4 (vs := [.slice x_464.a0 m_465.s.length x_464.c0, .slice x_464.a1 m_465.r.length x_464.c1, .slice x_464.a2 m_465.w.length x_464.c2]) (cs' := [.slice x_464.a0 m_465.s.length x_464.c0, .slice x_464.a1 m_465.r.length x_464.c1, .slice x_464.a2 m_465.w.length x_464.c2]) rfl rfl rfl rfl Tryz.sizeOf32 rfl rfl (Nat.le_of_ble_eq_true rfl) rfl) ?_
          rintro _ _ rfl
          refine JQ.seq ?_
          refine JC.seq ?_
          refine JC.regionA [mb b_1 x_464 m_465] 9 mixed (by simp) ?_
          refine JA.take 0 rfl (by kernel_rfl) (NP.th NP.body) (by kernel_rfl) (by kernel_rfl) (by kernel_rfl) rfl (LO.loadK 0 (vs := [.slice x_464.a0 m_465.s.length x_464.c0, .slice x_464.a1 m_465.r.length x_464.c1, .slice x_464.a2 m_465.w.length x_464.c2]) rfl rfl Tryz.isAgg32 Tryz.sizeOf32 rfl rfl) ?_
          refine JA.take 1 rfl (by kernel_rfl) (NP.th NP.body) (by kernel_rfl) (by kernel_rfl) (by kernel_rfl) rfl (LO.pure (PO.move (v := .int .i64 id) rfl)) ?_
          refine JA.take 3 rfl (by kernel_rfl) (NP.th NP.body) (by kernel_rfl) (by kernel_rfl) (by kernel_rfl) rfl (LO.pure (PO.move (v := .int .i64 n_339) rfl)) ?_
          refine JA.take 4 rfl (by kernel_rfl) (NP.th NP.body) (by kernel_rfl) (by kernel_rfl) (by kernel_rfl) rfl (LO.pure (PO.add (c := n_339 + 1) rfl rfl (wr (by omega)))) ?_
          refine JA.take 6 rfl (by kernel_rfl) (NP.th NP.body) (by kernel_rfl) (by kernel_rfl) (by kernel_rfl) rfl (LO.pure (PO.move (v := .int .i64 n_448) rfl)) ?_
          refine JA.one (i := 2) (by kernel_rfl) ?_
          refine JX.op rfl rfl (JO.call [] Tryz.call78 rfl (N_l10Key id [47, 104] (by omega) (show List.length ([47, 104] : Str) ≤ 2 by decide) (by omega)) rfl (fun _ _ => trivial)) ?_
          rintro _ _ ⟨_, ⟨u_484, e_482, f_485, rfl, rfl⟩, rfl⟩
          have hqe_482 := e_325.symm.trans e_482
          subst hqe_482
          refine ⟨(by simp), ?_⟩
          refine JA.one (i := 5) (by kernel_rfl) ?_
          refine JX.op rfl rfl (JO.call [0, 0, 0] Tryz.call81 rfl (N_sSetNum x_464 m_465 k_463 (by omega) (by omega) u_327 (n_339 + 1) (by omega) (by omega)) rfl (fun _ _ => trivial)) ?_
          rintro _ _ ⟨_, ⟨x_492, m_493, e_490, k_491, rfl, rfl⟩, rfl⟩
          refine ⟨(by simp), ?_⟩
          refine JA.one (i := 7) (by kernel_rfl) ?_
          refine JX.op rfl rfl (JO.store 3 (vs := [.slice x_492.a0 m_493.s.length x_492.c0, .slice x_492.a1 m_493.r.length x_492.c1, .slice x_492.a2 m_493.w.length x_492.c2]) (cs' := [.slice x_492.a0 m_493.s.length x_492.c0, .slice x_492.a1 m_493.r.length x_492.c1, .slice x_492.a2 m_493.w.length x_492.c2]) rfl rfl rfl rfl Tryz.sizeOf32 rfl rfl (Nat.le_of_ble_eq_true rfl) rfl) ?_
          rintro _ _ rfl
          refine ⟨(by simp), ?_⟩
          refine JA.take 8 rfl (by kernel_rfl) (NP.th NP.body) (by kernel_rfl) (by kernel_rfl) (by kernel_rfl) rfl (LO.pure (PO.assign (v := .int .i64 n_448) rfl)) ?_
          refine JA.take 9 rfl (by kernel_rfl) (NP.th NP.body) (by kernel_rfl) (by kernel_rfl) (by kernel_rfl) rfl (LO.pure (PO.assign (v := .int .i64 0) rfl)) ?_
          refine JA.done (by kernel_rfl) ?_
          refine JQ.seq ?_
          refine JC.ret ?_
          refine Done.three (.inl rfl) rfl (RV.cell1 (LO.loadK 3 (vs := [.slice x_492.a0 m_493.s.length x_492.c0, .slice x_492.a1 m_493.r.length x_492.c1, .slice x_492.a2 m_493.w.length x_492.c2]) rfl rfl Tryz.isAgg32 Tryz.sizeOf32 rfl rfl) ⟨_, rfl⟩) (RV.tmp (v := .int .i64 n_448) rfl) (RV.tmp (v := .int .i64 0) rfl) (List.sublist_append_left [rC x_492.a0 x_492.c0 m_493.s, rS x_492.a1 x_492.c1 m_493.r, rS x_492.a2 x_492.c2 m_493.w] [mb b_2 x_492 m_493, mb b_1 x_464 m_465]) ?_
          exact ⟨x_492, m_493, n_448, 0, (by simp only [MS.takeSignal, e_325, e_335, e_349, e_359, h_365, e_434, e_444, e_462, e_490, if_true, if_false, Bool.false_eq_true, Bool.not_true, Bool.not_false]; (repeat (first | rw [if_pos (by omega)] | rw [if_neg (by omega)])); all_goals (first | rfl | simp only [if_true, if_false, Bool.false_eq_true, Bool.not_true, Bool.not_false, e_325, e_335, e_349, e_359, h_365, e_434, e_444, e_462, e_490])), (k_491.mono (by omega) (by omega)), (by first | omega | (simp only [List.length_append, List.length_cons, List.length_nil, List.length_take, List.length_drop]; omega)), (by first | omega | (simp only [List.length_append, List.length_cons, List.length_nil, List.length_take, List.length_drop]; omega)), rfl, rfl⟩
    · skip
      refine JX.op rfl rfl (JO.call [] Tryz.call78 rfl (N_l10Key id [47, 116] (by omega) (show List.length ([47, 116] : Str) ≤ 2 by decide) (by omega)) rfl (fun _ _ => trivial)) ?_
      rintro _ _ ⟨_, ⟨u_496, e_494, f_497, rfl, rfl⟩, rfl⟩
      refine ⟨(fun _ h => by cases h), ?_⟩
      refine JA.one (i := 0) (by kernel_rfl) ?_
      refine JX.op rfl rfl (JO.ofLO (LO.loadK 4 (vs := [.slice x_337.a0 m_338.s.length x_337.c0, .slice x_337.a1 m_338.r.length x_337.c1, .slice x_337.a2 m_338.w.length x_337.c2]) rfl rfl Tryz.isAgg32 Tryz.sizeOf32 rfl rfl)) ?_
      rintro _ _ ⟨rfl, rfl⟩
      refine ⟨(fun _ h => by cases h), ?_⟩
      refine JA.one (i := 3) (by kernel_rfl) ?_
      refine JX.op rfl rfl (JO.call [0, 0, 0] Tryz.call77 rfl (N_sNumAt x_337 m_338 k_336 (by omega) (by omega) u_496) rfl (fun _ _ => trivial)) ?_
      rintro _ _ ⟨_, ⟨x_506, m_507, n_508, e_504, k_505, f_509, rfl, rfl⟩, rfl⟩
      refine ⟨(fun _ h => by cases h), ?_⟩
      refine JA.take 4 rfl (by kernel_rfl) (NP.th NP.body) (by kernel_rfl) (by kernel_rfl) (by kernel_rfl) rfl (LO.pure (PO.move (v := .tuple #[mv x_506 m_507, .int .i64 n_508]) rfl)) ?_
      refine JA.take 5 rfl (by kernel_rfl) (NP.th NP.body) (by kernel_rfl) (by kernel_rfl) (by kernel_rfl) rfl (LO.pure (PO.extract (v := mv x_506 m_507) rfl rfl)) ?_
      refine JA.take 6 rfl (by kernel_rfl) (NP.th NP.body) (by kernel_rfl) (by kernel_rfl) (by kernel_rfl) rfl (LO.pure (PO.extract (v := .int .i64 n_508) rfl rfl)) ?_
      refine JA.one (i := 7) (by kernel_rfl) ?_
      refine JX.op rfl rfl (JO.store 4 (vs := [.slice x_506.a0 m_507.s.length x_506.c0, .slice x_506.a1 m_507.r.length x_506.c1, .slice x_506.a2 m_507.w.length x_506.c2]) (cs' := [.slice x_506.a0 m_507.s.length x_506.c0, .slice x_506.a1 m_507.r.length x_506.c1, .slice x_506.a2 m_507.w.length x_506.c2]) rfl rfl rfl rfl Tryz.sizeOf32 rfl rfl (Nat.le_of_ble_eq_true rfl) rfl) ?_
      rintro _ _ rfl
      refine ⟨(fun _ h => by cases h), ?_⟩
      refine JA.take 8 rfl (by kernel_rfl) (NP.th NP.body) (by kernel_rfl) (by kernel_rfl) (by kernel_rfl) rfl (LO.pure (PO.assign (v := .int .i64 n_508) rfl)) ?_
      refine JA.done (by kernel_rfl) ?_
      refine JQ.seq ?_
      refine JC.seq ?_
      refine JC.seq ?_
      refine JC.region ?_
      refine JL.pure rfl (PO.move (v := .int .i64 n_339) rfl) ?_
      refine JL.pure rfl (PO.move (v := .int .i64 n_508) rfl) ?_
      refine JL.pure rfl (PO.eqlI rfl rfl) ?_
      refine JL.nil ?_
      refine JQ.seq ?_
      by_cases h_510 : n_339 = n_508
      · skip
        refine JC.condT (congrArg Value.bool (decide_eq_true h_510)) ?_
        refine JC.seq ?_
        refine JC.region ?_
        refine JL.ld rfl (LO.loadK 4 (vs := [.slice x_506.a0 m_507.s.length x_506.c0, .slice x_506.a1 m_507.r.length x_506.c1, .slice x_506.a2 m_507.w.length x_506.c2]) rfl rfl Tryz.isAgg32 Tryz.sizeOf32 rfl rfl) ?_
        refine JL.op rfl (JO.store 3 (vs := [.slice x_506.a0 m_507.s.length x_506.c0, .slice x_506.a1 m_507.r.length x_506.c1, .slice x_506.a2 m_507.w.length x_506.c2]) (cs' := [.slice x_506.a0 m_507.s.length x_506.c0, .slice x_506.a1 m_507.r.length x_506.c1, .slice x_506.a2 m_507.w.length x_506.c2]) rfl rfl rfl rfl Tryz.sizeOf32 rfl rfl (Nat.le_of_ble_eq_true rfl) rfl) ?_
        rintro _ _ rfl
        refine JL.pure rfl (PO.assign (v := .int .i64 0) rfl) ?_
        refine JL.pure rfl (PO.assign (v := .int .i64 5) rfl) ?_
        refine JL.nil ?_
        refine JQ.seq ?_
        refine JC.ret ?_
        refine JQ.thenRet ?_
        refine Done.three (.inl rfl) rfl (RV.cell1 (LO.loadK 3 (vs := [.slice x_506.a0 m_507.s.length x_506.c0, .slice x_506.a1 m_507.r.length x_506.c1, .slice x_506.a2 m_507.w.length x_506.c2]) rfl rfl Tryz.isAgg32 Tryz.sizeOf32 rfl rfl) ⟨_, rfl⟩) (RV.tmp (v := .int .i64 0) rfl) (RV.tmp (v := .int .i64 5) rfl) (List.sublist_append_left [rC x_506.a0 x_506.c0 m_507.s, rS x_506.a1 x_506.c1 m_507.r, rS x_506.a2 x_506.c2 m_507.w] [mb b_2 x_506 m_507, mb b_1 x_506 m_507]) ?_
        exact ⟨x_506, m_507, 0, 5, (by simp only [MS.takeSignal, e_325, e_335, e_494, e_504, h_510, if_true, if_false, Bool.false_eq_true, Bool.not_true, Bool.not_false]; (repeat (first | rw [if_pos (by omega)] | rw [if_neg (by omega)])); all_goals (first | rfl | simp only [if_true, if_false, Bool.false_eq_true, Bool.not_true, Bool.not_false, e_325, e_335, e_494, e_504, h_510])), (k_505.mono (by omega) (by omega)), (by first | omega | (simp only [List.length_append, List.length_cons, List.length_nil, List.length_take, List.length_drop]; omega)), (by first | omega | (simp only [List.length_append, List.length_cons, List.length_nil, List.length_take, List.length_drop]; omega)), rfl, rfl⟩
      · skip
        refine JC.condF (congrArg Value.bool (decide_eq_false h_510)) ?_
        refine JC.skip ?_
        refine JQ.seq ?_
        refine JC.seq ?_
        refine JC.regionA [] 10 mixed (by simp) ?_
        refine JA.take 1 rfl (by kernel_rfl) (NP.th NP.body) (by kernel_rfl) (by kernel_rfl) (by kernel_rfl) rfl (LO.pure (PO.move (v := .int .i64 id) rfl)) ?_
        refine JA.take 2 rfl (by kernel_rfl) (NP.th NP.body) (by kernel_rfl) (by kernel_rfl) (by kernel_rfl) rfl (LO.pure (PO.move (v := .int .i64 n_339) rfl)) ?_
        refine JA.take 3 rfl (by kernel_rfl) (NP.th NP.body) (by kernel_rfl) (by kernel_rfl) (by kernel_rfl) rfl (LO.pure (PO.add (c := n_339 + 1) rfl rfl (wr (by omega)))) ?_
        refine JA.two (i := 0) (j := 4) (by kernel_rfl) ?_ ?_
        · skip
          refine JX.op rfl rfl (JO.ofLO (LO.loadK 4 (vs := [.slice x_506.a0 m_507.s.length x_506.c0, .slice x_506.a1 m_507.r.length x_506.c1, .slice x_506.a2 m_507.w.length x_506.c2]) rfl rfl Tryz.isAgg32 Tryz.sizeOf32 rfl rfl)) ?_
          rintro _ _ ⟨rfl, rfl⟩
          refine ⟨(fun _ h => by cases h), ?_⟩
          refine JA.one (i := 4) (by kernel_rfl) ?_
          refine JX.op rfl rfl (JO.call [] Tryz.call79 rfl (N_l10Signal id (n_339 + 1) (by omega) (by omega)) rfl (fun _ _ => trivial)) ?_
          rintro _ _ ⟨_, ⟨u_521, e_519, f_522, rfl, rfl⟩, rfl⟩
          refine ⟨(fun _ h => by cases h), ?_⟩
          refine JA.one (i := 5) (by kernel_rfl) ?_
          refine JX.op rfl rfl (JO.call [0, 0, 0] Tryz.call77 rfl (N_sNumAt x_506 m_507 k_505 (by omega) (by omega) u_521) rfl (fun _ _ => trivial)) ?_
          rintro _ _ ⟨_, ⟨x_531, m_532, n_533, e_529, k_530, f_534, rfl, rfl⟩, rfl⟩
          refine ⟨(fun _ h => by cases h), ?_⟩
          refine JA.take 6 rfl (by kernel_rfl) (NP.th NP.body) (by kernel_rfl) (by kernel_rfl) (by kernel_rfl) rfl (LO.pure (PO.move (v := .tuple #[mv x_531 m_532, .int .i64 n_533]) rfl)) ?_
          refine JA.take 7 rfl (by kernel_rfl) (NP.th NP.body) (by kernel_rfl) (by kernel_rfl) (by kernel_rfl) rfl (LO.pure (PO.extract (v := mv x_531 m_532) rfl rfl)) ?_
          refine JA.take 8 rfl (by kernel_rfl) (NP.th NP.body) (by kernel_rfl) (by kernel_rfl) (by kernel_rfl) rfl (LO.pure (PO.extract (v := .int .i64 n_533) rfl rfl)) ?_
          refine JA.one (i := 9) (by kernel_rfl) ?_
          refine JX.op rfl rfl (JO.store 4 (vs := [.slice x_531.a0 m_532.s.length x_531.c0, .slice x_531.a1 m_532.r.length x_531.c1, .slice x_531.a2 m_532.w.length x_531.c2]) (cs' := [.slice x_531.a0 m_532.s.length x_531.c0, .slice x_531.a1 m_532.r.length x_531.c1, .slice x_531.a2 m_532.w.length x_531.c2]) rfl rfl rfl rfl Tryz.sizeOf32 rfl rfl (Nat.le_of_ble_eq_true rfl) rfl) ?_
          rintro _ _ rfl
          refine ⟨(fun _ h => by cases h), ?_⟩
          refine JA.take 10 rfl (by kernel_rfl) (NP.th NP.body) (by kernel_rfl) (by kernel_rfl) (by kernel_rfl) rfl (LO.pure (PO.assign (v := .int .i64 n_533) rfl)) ?_
          refine JA.done (by kernel_rfl) ?_
          refine JQ.seq ?_
          refine JC.seq ?_
          refine JC.regionA [mb b_1 x_531 m_532] 6 mixed (by simp) ?_
          refine JA.take 0 rfl (by kernel_rfl) (NP.th NP.body) (by kernel_rfl) (by kernel_rfl) (by kernel_rfl) rfl (LO.loadK 0 (vs := [.slice x_531.a0 m_532.s.length x_531.c0, .slice x_531.a1 m_532.r.length x_531.c1, .slice x_531.a2 m_532.w.length x_531.c2]) rfl rfl Tryz.isAgg32 Tryz.sizeOf32 rfl rfl) ?_
          refine JA.take 1 rfl (by kernel_rfl) (NP.th NP.body) (by kernel_rfl) (by kernel_rfl) (by kernel_rfl) rfl (LO.pure (PO.move (v := .int .i64 id) rfl)) ?_
          refine JA.take 2 rfl (by kernel_rfl) (NP.th NP.body) (by kernel_rfl) (by kernel_rfl) (by kernel_rfl) rfl (LO.pure (PO.move (v := .int .i64 n_339) rfl)) ?_
          refine JA.take 3 rfl (by kernel_rfl) (NP.th NP.body) (by kernel_rfl) (by kernel_rfl) (by kernel_rfl) rfl (LO.pure (PO.add (c := n_339 + 1) rfl rfl (wr (by omega)))) ?_
          refine JA.one (i := 4) (by kernel_rfl) ?_
          refine JX.op rfl rfl (JO.call [] Tryz.call79 rfl (N_l10Signal id (n_339 + 1) (by omega) (by omega)) rfl (fun _ _ => trivial)) ?_
          rintro _ _ ⟨_, ⟨u_541, e_539, f_542, rfl, rfl⟩, rfl⟩
          have hqe_539 := e_519.symm.trans e_539
          subst hqe_539
          refine ⟨(by simp), ?_⟩
          refine JA.one (i := 5) (by kernel_rfl) ?_
          refine JX.op rfl rfl (JO.call [0, 0, 0] Tryz.call80 rfl (N_sLayNil x_531 m_532 k_530 (by omega) (by omega) u_521 (by omega)) rfl (fun _ _ => trivial)) ?_
          rintro _ _ ⟨_, ⟨x_549, m_550, e_547, k_548, rfl, rfl⟩, rfl⟩
          refine ⟨(by simp), ?_⟩
          refine JA.one (i := 6) (by kernel_rfl) ?_
          refine JX.last rfl rfl rfl (by kernel_rfl) (JO.store 4 (vs := [.slice x_549.a0 m_550.s.length x_549.c0, .slice x_549.a1 m_550.r.length x_549.c1, .slice x_549.a2 m_550.w.length x_549.c2]) (cs' := [.slice x_549.a0 m_550.s.length x_549.c0, .slice x_549.a1 m_550.r.length x_549.c1, .slice x_549.a2 m_550.w.length x_549.c2]) rfl rfl rfl rfl Tryz.sizeOf32 rfl rfl (Nat.le_of_ble_eq_true rfl) rfl) ?_
          rintro _ _ rfl
          refine JQ.seq ?_
          refine JC.seq ?_
          refine JC.regionA [mb b_1 x_549 m_550] 9 mixed (by simp) ?_
          refine JA.take 0 rfl (by kernel_rfl) (NP.th NP.body) (by kernel_rfl) (by kernel_rfl) (by kernel_rfl) rfl (LO.loadK 0 (vs := [.slice x_549.a0 m_550.s.length x_549.c0, .slice x_549.a1 m_550.r.length x_549.c1, .slice x_549.a2 m_550.w.length x_549.c2]) rfl rfl Tryz.isAgg32 Tryz.sizeOf32 rfl rfl) ?_
          refine JA.take 1 rfl (by kernel_rfl) (NP.th NP.body) (by kernel_rfl) (by kernel_rfl) (by kernel_rfl) rfl (LO.pure (PO.move (v := .int .i64 id) rfl)) ?_
          refine JA.take 3 rfl (by kernel_rfl) (NP.th NP.body) (by kernel_rfl) (by kernel_rfl) (by kernel_rfl) rfl (LO.pure (PO.move (v := .int .i64 n_339) rfl)) ?_
          refine JA.take 4 rfl (by kernel_rfl) (NP.th NP.body) (by kernel_rfl) (by kernel_rfl) (by kernel_rfl) rfl (LO.pure (PO.add (c := n_339 + 1) rfl rfl (wr (by omega)))) ?_
          refine JA.take 6 rfl (by kernel_rfl) (NP.th NP.body) (by kernel_rfl) (by kernel_rfl) (by kernel_rfl) rfl (LO.pure (PO.move (v := .int .i64 n_533) rfl)) ?_
          refine JA.one (i := 2) (by kernel_rfl) ?_
          refine JX.op rfl rfl (JO.call [] Tryz.call78 rfl (N_l10Key id [47, 104] (by omega) (show List.length ([47, 104] : Str) ≤ 2 by decide) (by omega)) rfl (fun _ _ => trivial)) ?_
          rintro _ _ ⟨_, ⟨u_569, e_567, f_570, rfl, rfl⟩, rfl⟩
          have hqe_567 := e_325.symm.trans e_567
          subst hqe_567
          refine ⟨(by simp), ?_⟩
          refine JA.one (i := 5) (by kernel_rfl) ?_
          refine JX.op rfl rfl (JO.call [0, 0, 0] Tryz.call81 rfl (N_sSetNum x_549 m_550 k_548 (by omega) (by omega) u_327 (n_339 + 1) (by omega) (by omega)) rfl (fun _ _ => trivial)) ?_
          rintro _ _ ⟨_, ⟨x_577, m_578, e_575, k_576, rfl, rfl⟩, rfl⟩
          refine ⟨(by simp), ?_⟩
          refine JA.one (i := 7) (by kernel_rfl) ?_
          refine JX.op rfl rfl (JO.store 3 (vs := [.slice x_577.a0 m_578.s.length x_577.c0, .slice x_577.a1 m_578.r.length x_577.c1, .slice x_577.a2 m_578.w.length x_577.c2]) (cs' := [.slice x_577.a0 m_578.s.length x_577.c0, .slice x_577.a1 m_578.r.length x_577.c1, .slice x_577.a2 m_578.w.length x_577.c2]) rfl rfl rfl rfl Tryz.sizeOf32 rfl rfl (Nat.le_of_ble_eq_true rfl) rfl) ?_
          rintro _ _ rfl
          refine ⟨(by simp), ?_⟩
          refine JA.take 8 rfl (by kernel_rfl) (NP.th NP.body) (by kernel_rfl) (by kernel_rfl) (by kernel_rfl) rfl (LO.pure (PO.assign (v := .int .i64 n_533) rfl)) ?_
          refine JA.take 9 rfl (by kernel_rfl) (NP.th NP.body) (by kernel_rfl) (by kernel_rfl) (by kernel_rfl) rfl (LO.pure (PO.assign (v := .int .i64 0) rfl)) ?_
          refine JA.done (by kernel_rfl) ?_
          refine JQ.seq ?_
          refine JC.ret ?_
          refine Done.three (.inl rfl) rfl (RV.cell1 (LO.loadK 3 (vs := [.slice x_577.a0 m_578.s.length x_577.c0, .slice x_577.a1 m_578.r.length x_577.c1, .slice x_577.a2 m_578.w.length x_577.c2]) rfl rfl Tryz.isAgg32 Tryz.sizeOf32 rfl rfl) ⟨_, rfl⟩) (RV.tmp (v := .int .i64 n_533) rfl) (RV.tmp (v := .int .i64 0) rfl) (List.sublist_append_left [rC x_577.a0 x_577.c0 m_578.s, rS x_577.a1 x_577.c1 m_578.r, rS x_577.a2 x_577.c2 m_578.w] [mb b_2 x_577 m_578, mb b_1 x_549 m_550]) ?_
          exact ⟨x_577, m_578, n_533, 0, (by simp only [MS.takeSignal, e_325, e_335, e_494, e_504, h_510, e_519, e_529, e_547, e_575, if_true, if_false, Bool.false_eq_true, Bool.not_true, Bool.not_false]; (repeat (first | rw [if_pos (by omega)] | rw [if_neg (by omega)])); all_goals (first | rfl | simp only [if_true, if_false, Bool.false_eq_true, Bool.not_true, Bool.not_false, e_325, e_335, e_494, e_504, h_510, e_519, e_529, e_547, e_575])), (k_576.mono (by omega) (by omega)), (by first | omega | (simp only [List.length_append, List.length_cons, List.length_nil, List.length_take, List.length_drop]; omega)), (by first | omega | (simp only [List.length_append, List.length_cons, List.length_nil, List.length_take, List.length_drop]; omega)), rfl, rfl⟩
        · skip
          refine JX.op rfl rfl (JO.call [] Tryz.call79 rfl (N_l10Signal id (n_339 + 1) (by omega) (by omega)) rfl (fun _ _ => trivial)) ?_
          rintro _ _ ⟨_, ⟨u_581, e_579, f_582, rfl, rfl⟩, rfl⟩
          refine ⟨(fun _ h => by cases h), ?_⟩
          refine JA.one (i := 0) (by kernel_rfl) ?_
          refine JX.op rfl rfl (JO.ofLO (LO.loadK 4 (vs := [.slice x_506.a0 m_507.s.length x_506.c0, .slice x_506.a1 m_507.r.length x_506.c1, .slice x_506.a2 m_507.w.length x_506.c2]) rfl rfl Tryz.isAgg32 Tryz.sizeOf32 rfl rfl)) ?_
          rintro _ _ ⟨rfl, rfl⟩
          refine ⟨(fun _ h => by cases h), ?_⟩
          refine JA.one (i := 5) (by kernel_rfl) ?_
          refine JX.op rfl rfl (JO.call [0, 0, 0] Tryz.call77 rfl (N_sNumAt x_506 m_507 k_505 (by omega) (by omega) u_581) rfl (fun _ _ => trivial)) ?_
          rintro _ _ ⟨_, ⟨x_591, m_592, n_593, e_589, k_590, f_594, rfl, rfl⟩, rfl⟩
          refine ⟨(fun _ h => by cases h), ?_⟩
          refine JA.take 6 rfl (by kernel_rfl) (NP.th NP.body) (by kernel_rfl) (by kernel_rfl) (by kernel_rfl) rfl (LO.pure (PO.move (v := .tuple #[mv x_591 m_592, .int .i64 n_593]) rfl)) ?_
          refine JA.take 7 rfl (by kernel_rfl) (NP.th NP.body) (by kernel_rfl) (by kernel_rfl) (by kernel_rfl) rfl (LO.pure (PO.extract (v := mv x_591 m_592) rfl rfl)) ?_
          refine JA.take 8 rfl (by kernel_rfl) (NP.th NP.body) (by kernel_rfl) (by kernel_rfl) (by kernel_rfl) rfl (LO.pure (PO.extract (v := .int .i64 n_593) rfl rfl)) ?_
          refine JA.one (i := 9) (by kernel_rfl) ?_
          refine JX.op rfl rfl (JO.store 4 (vs := [.slice x_591.a0 m_592.s.length x_591.c0, .slice x_591.a1 m_592.r.length x_591.c1, .slice x_591.a2 m_592.w.length x_591.c2]) (cs' := [.slice x_591.a0 m_592.s.length x_591.c0, .slice x_591.a1 m_592.r.length x_591.c1, .slice x_591.a2 m_592.w.length x_591.c2]) rfl rfl rfl rfl Tryz.sizeOf32 rfl rfl (Nat.le_of_ble_eq_true rfl) rfl) ?_
          rintro _ _ rfl
          refine ⟨(fun _ h => by cases h), ?_⟩
          refine JA.take 10 rfl (by kernel_rfl) (NP.th NP.body) (by kernel_rfl) (by kernel_rfl) (by kernel_rfl) rfl (LO.pure (PO.assign (v := .int .i64 n_593) rfl)) ?_
          refine JA.done (by kernel_rfl) ?_
          refine JQ.seq ?_
          refine JC.seq ?_
          refine JC.regionA [mb b_1 x_591 m_592] 6 mixed (by simp) ?_
          refine JA.take 0 rfl (by kernel_rfl) (NP.th NP.body) (by kernel_rfl) (by kernel_rfl) (by kernel_rfl) rfl (LO.loadK 0 (vs := [.slice x_591.a0 m_592.s.length x_591.c0, .slice x_591.a1 m_592.r.length x_591.c1, .slice x_591.a2 m_592.w.length x_591.c2]) rfl rfl Tryz.isAgg32 Tryz.sizeOf32 rfl rfl) ?_
          refine JA.take 1 rfl (by kernel_rfl) (NP.th NP.body) (by kernel_rfl) (by kernel_rfl) (by kernel_rfl) rfl (LO.pure (PO.move (v := .int .i64 id) rfl)) ?_
          refine JA.take 2 rfl (by kernel_rfl) (NP.th NP.body) (by kernel_rfl) (by kernel_rfl) (by kernel_rfl) rfl (LO.pure (PO.move (v := .int .i64 n_339) rfl)) ?_
          refine JA.take 3 rfl (by kernel_rfl) (NP.th NP.body) (by kernel_rfl) (by kernel_rfl) (by kernel_rfl) rfl (LO.pure (PO.add (c := n_339 + 1) rfl rfl (wr (by omega)))) ?_
          refine JA.one (i := 4) (by kernel_rfl) ?_
          refine JX.op rfl rfl (JO.call [] Tryz.call79 rfl (N_l10Signal id (n_339 + 1) (by omega) (by omega)) rfl (fun _ _ => trivial)) ?_
          rintro _ _ ⟨_, ⟨u_601, e_599, f_602, rfl, rfl⟩, rfl⟩
          have hqe_599 := e_579.symm.trans e_599
          subst hqe_599
          refine ⟨(by simp), ?_⟩
          refine JA.one (i := 5) (by kernel_rfl) ?_
          refine JX.op rfl rfl (JO.call [0, 0, 0] Tryz.call80 rfl (N_sLayNil x_591 m_592 k_590 (by omega) (by omega) u_581 (by omega)) rfl (fun _ _ => trivial)) ?_
          rintro _ _ ⟨_, ⟨x_609, m_610, e_607, k_608, rfl, rfl⟩, rfl⟩
          refine ⟨(by simp), ?_⟩
          refine JA.one (i := 6) (by kernel_rfl) ?_
          refine JX.last rfl rfl rfl (by kernel_rfl) (JO.store 4 (vs := [.slice x_609.a0 m_610.s.length x_609.c0, .slice x_609.a1 m_610.r.length x_609.c1, .slice x_609.a2 m_610.w.length x_609.c2]) (cs' := [.slice x_609.a0 m_610.s.length x_609.c0, .slice x_609.a1 m_610.r.length x_609.c1, .slice x_609.a2 m_610.w.length x_609.c2]) rfl rfl rfl rfl Tryz.sizeOf32 rfl rfl (Nat.le_of_ble_eq_true rfl) rfl) ?_
          rintro _ _ rfl
          refine JQ.seq ?_
          refine JC.seq ?_
          refine JC.regionA [mb b_1 x_609 m_610] 9 mixed (by simp) ?_
          refine JA.take 0 rfl (by kernel_rfl) (NP.th NP.body) (by kernel_rfl) (by kernel_rfl) (by kernel_rfl) rfl (LO.loadK 0 (vs := [.slice x_609.a0 m_610.s.length x_609.c0, .slice x_609.a1 m_610.r.length x_609.c1, .slice x_609.a2 m_610.w.length x_609.c2]) rfl rfl Tryz.isAgg32 Tryz.sizeOf32 rfl rfl) ?_
          refine JA.take 1 rfl (by kernel_rfl) (NP.th NP.body) (by kernel_rfl) (by kernel_rfl) (by kernel_rfl) rfl (LO.pure (PO.move (v := .int .i64 id) rfl)) ?_
          refine JA.take 3 rfl (by kernel_rfl) (NP.th NP.body) (by kernel_rfl) (by kernel_rfl) (by kernel_rfl) rfl (LO.pure (PO.move (v := .int .i64 n_339) rfl)) ?_
          refine JA.take 4 rfl (by kernel_rfl) (NP.th NP.body) (by kernel_rfl) (by kernel_rfl) (by kernel_rfl) rfl (LO.pure (PO.add (c := n_339 + 1) rfl rfl (wr (by omega)))) ?_
          refine JA.take 6 rfl (by kernel_rfl) (NP.th NP.body) (by kernel_rfl) (by kernel_rfl) (by kernel_rfl) rfl (LO.pure (PO.move (v := .int .i64 n_593) rfl)) ?_
          refine JA.one (i := 2) (by kernel_rfl) ?_
          refine JX.op rfl rfl (JO.call [] Tryz.call78 rfl (N_l10Key id [47, 104] (by omega) (show List.length ([47, 104] : Str) ≤ 2 by decide) (by omega)) rfl (fun _ _ => trivial)) ?_
          rintro _ _ ⟨_, ⟨u_629, e_627, f_630, rfl, rfl⟩, rfl⟩
          have hqe_627 := e_325.symm.trans e_627
          subst hqe_627
          refine ⟨(by simp), ?_⟩
          refine JA.one (i := 5) (by kernel_rfl) ?_
          refine JX.op rfl rfl (JO.call [0, 0, 0] Tryz.call81 rfl (N_sSetNum x_609 m_610 k_608 (by omega) (by omega) u_327 (n_339 + 1) (by omega) (by omega)) rfl (fun _ _ => trivial)) ?_
          rintro _ _ ⟨_, ⟨x_637, m_638, e_635, k_636, rfl, rfl⟩, rfl⟩
          refine ⟨(by simp), ?_⟩
          refine JA.one (i := 7) (by kernel_rfl) ?_
          refine JX.op rfl rfl (JO.store 3 (vs := [.slice x_637.a0 m_638.s.length x_637.c0, .slice x_637.a1 m_638.r.length x_637.c1, .slice x_637.a2 m_638.w.length x_637.c2]) (cs' := [.slice x_637.a0 m_638.s.length x_637.c0, .slice x_637.a1 m_638.r.length x_637.c1, .slice x_637.a2 m_638.w.length x_637.c2]) rfl rfl rfl rfl Tryz.sizeOf32 rfl rfl (Nat.le_of_ble_eq_true rfl) rfl) ?_
          rintro _ _ rfl
          refine ⟨(by simp), ?_⟩
          refine JA.take 8 rfl (by kernel_rfl) (NP.th NP.body) (by kernel_rfl) (by kernel_rfl) (by kernel_rfl) rfl (LO.pure (PO.assign (v := .int .i64 n_593) rfl)) ?_
          refine JA.take 9 rfl (by kernel_rfl) (NP.th NP.body) (by kernel_rfl) (by kernel_rfl) (by kernel_rfl) rfl (LO.pure (PO.assign (v := .int .i64 0) rfl)) ?_
          refine JA.done (by kernel_rfl) ?_
          refine JQ.seq ?_
          refine JC.ret ?_
          refine Done.three (.inl rfl) rfl (RV.cell1 (LO.loadK 3 (vs := [.slice x_637.a0 m_638.s.length x_637.c0, .slice x_637.a1 m_638.r.length x_637.c1, .slice x_637.a2 m_638.w.length x_637.c2]) rfl rfl Tryz.isAgg32 Tryz.sizeOf32 rfl rfl) ⟨_, rfl⟩) (RV.tmp (v := .int .i64 n_593) rfl) (RV.tmp (v := .int .i64 0) rfl) (List.sublist_append_left [rC x_637.a0 x_637.c0 m_638.s, rS x_637.a1 x_637.c1 m_638.r, rS x_637.a2 x_637.c2 m_638.w] [mb b_2 x_637 m_638, mb b_1 x_609 m_610]) ?_
          exact ⟨x_637, m_638, n_593, 0, (by simp only [MS.takeSignal, e_325, e_335, e_494, e_504, h_510, e_579, e_589, e_607, e_635, if_true, if_false, Bool.false_eq_true, Bool.not_true, Bool.not_false]; (repeat (first | rw [if_pos (by omega)] | rw [if_neg (by omega)])); all_goals (first | rfl | simp only [if_true, if_false, Bool.false_eq_true, Bool.not_true, Bool.not_false, e_325, e_335, e_494, e_504, h_510, e_579, e_589, e_607, e_635])), (k_636.mono (by omega) (by omega)), (by first | omega | (simp only [List.length_append, List.length_cons, List.length_nil, List.length_take, List.length_drop]; omega)), (by first | omega | (simp only [List.length_append, List.length_cons, List.length_nil, List.length_take, List.length_drop]; omega)), rfl, rfl⟩

theorem P_takeSignal (x : MA) (m : MS) {S T : Nat} (hk : m.ok S T) (hS : S ≤ 49000000) (hT : T ≤ 49000000) (id : Int) (hid : -9223372036854775808 ≤ id ∧ id ≤ 9223372036854775807) :
    Ct Tryz.prog 17 [mv x m, .int .i64 id] ([]) (fun w => seesM w x m) (fun v A' => ∃ x' m' r0 r1, MS.takeSignal m id = (m', r0, r1) ∧ m'.ok (S + 1) (T + 5) ∧ (0 ≤ r0 ∧ r0 ≤ 999) ∧ (0 ≤ r1 ∧ r1 ≤ 9) ∧ v = .tuple #[mv x' m', .int .i64 r0, .int .i64 r1] ∧ A' = mr x' m') := by
  refine Ct.intro Tryz.func17 rfl Tryz.ntmps17 (Nat.le_of_ble_eq_true rfl) fun w0 hpre => ?_
  have hs_x_a0 : Sees w0 _ _ _ _ := hpre.1
  have hs_x_a1 : Sees w0 _ _ _ _ := hpre.2.1
  have hs_x_a2 : Sees w0 _ _ _ _ := hpre.2.2
  refine JC.seq ?_
  refine JC.region ?_
  refine JL.op rfl (JO.box (cs := [.slice x.a0 m.s.length x.c0, .slice x.a1 m.r.length x.c1, .slice x.a2 m.w.length x.c2]) rfl rfl) ?_
  rintro _ _ ⟨b_1, rfl, rfl⟩
  refine JL.op rfl (JO.alloc (z := .agg #[.slice none 0 0, .slice none 0 0, .slice none 0 0]) (cs := [.slice none 0 0, .slice none 0 0, .slice none 0 0]) Tryz.zeroValue32 rfl) ?_
  rintro _ _ ⟨b_2, rfl, rfl⟩
  refine JL.pure rfl (PO.assign (v := .int .i64 0) rfl) ?_
  refine JL.pure rfl (PO.assign (v := .int .i64 0) rfl) ?_
  refine JL.nil ?_
  refine JQ.seq ?_
  refine JC.seq ?_
  refine JC.region ?_
  refine JL.ld rfl (LO.loadK 1 (vs := [.slice x.a0 m.s.length x.c0, .slice x.a1 m.r.length x.c1, .slice x.a2 m.w.length x.c2]) rfl rfl Tryz.isAgg32 Tryz.sizeOf32 rfl rfl) ?_
  refine JL.op rfl (JO.call [] Tryz.call47 rfl (N_clone x m hk (by omega) (by omega)) rfl (fun w hw => ⟨hw.seeOut_ hs_x_a0 (fun _ _ => List.not_mem_nil), hw.seeOut_ hs_x_a1 (fun _ _ => List.not_mem_nil), hw.seeOut_ hs_x_a2 (fun _ _ => List.not_mem_nil)⟩)) ?_
  rintro _ _ ⟨_, ⟨x_5, m_6, rfl, k_4, rfl, rfl⟩, rfl⟩
  refine JL.op rfl (JO.store 4 (vs := [.slice x_5.a0 m.s.length x_5.c0, .slice x_5.a1 m.r.length x_5.c1, .slice x_5.a2 m.w.length x_5.c2]) (cs' := [.slice x_5.a0 m.s.length x_5.c0, .slice x_5.a1 m.r.length x_5.c1, .slice x_5.a2 m.w.length x_5.c2]) rfl rfl rfl rfl Tryz.sizeOf32 rfl rfl (Nat.le_of_ble_eq_true rfl) rfl) ?_
  rintro _ _ rfl
  refine JL.nil ?_
  refine JQ.seq ?_
  refine JC.seq ?_
  refine JC.region ?_
  refine JL.pure rfl (PO.move (v := .int .i64 id) rfl) ?_
  refine JL.op rfl (JO.call [4, 0, 0, 0] Tryz.call48 rfl (N_takeSignal b_1 x_5 m k_4 (by omega) (by omega) id (by omega)) rfl (fun _ _ => trivial)) ?_
  rintro _ _ ⟨_, ⟨x_9, m_10, n_11, n_13, e_7, k_8, f_12, f_14, rfl, rfl⟩, rfl⟩
  refine JL.pure rfl (PO.move (v := .tuple #[.int .i64 n_11, .int .i64 n_13]) rfl) ?_
  refine JL.pure rfl (PO.extract (v := .int .i64 n_11) rfl rfl) ?_
  refine JL.pure rfl (PO.extract (v := .int .i64 n_13) rfl rfl) ?_
  refine JL.pure rfl (PO.assign (v := .int .i64 n_11) rfl) ?_
  refine JL.pure rfl (PO.assign (v := .int .i64 n_13) rfl) ?_
  refine JL.nil ?_
  refine JQ.seq ?_
  refine JC.seq ?_
  refine JC.region ?_
  refine JL.ld rfl (LO.loadK 0 (vs := [.slice x_9.a0 m_10.s.length x_9.c0, .slice x_9.a1 m_10.r.length x_9.c1, .slice x_9.a2 m_10.w.length x_9.c2]) rfl rfl Tryz.isAgg32 Tryz.sizeOf32 rfl rfl) ?_
  refine JL.pure rfl (PO.move (v := .int .i64 n_11) rfl) ?_
  refine JL.pure rfl (PO.move (v := .int .i64 n_13) rfl) ?_
  refine JL.op rfl (JO.store 4 (vs := [.slice x_9.a0 m_10.s.length x_9.c0, .slice x_9.a1 m_10.r.length x_9.c1, .slice x_9.a2 m_10.w.length x_9.c2]) (cs' := [.slice x_9.a0 m_10.s.length x_9.c0, .slice x_9.a1 m_10.r.length x_9.c1, .slice x_9.a2 m_10.w.length x_9.c2]) rfl rfl rfl rfl Tryz.sizeOf32 rfl rfl (Nat.le_of_ble_eq_true rfl) rfl) ?_
  rintro _ _ rfl
  refine JL.pure rfl (PO.assign (v := .int .i64 n_11) rfl) ?_
  refine JL.pure rfl (PO.assign (v := .int .i64 n_13) rfl) ?_
  refine JL.nil ?_
  refine JQ.seq ?_
  refine JC.ret ?_
  refine JQ.perm (pick_perm [1, 1, 1] (A := [rC x_9.a0 x_9.c0 m_10.s, rS x_9.a1 x_9.c1 m_10.r, rS x_9.a2 x_9.c2 m_10.w]) (F := [mb b_1 x_9 m_10, mb b_2 x_9 m_10]) rfl).symm ?_
  refine Done.three (.inl rfl) rfl (RV.cell1 (LO.loadK 4 (vs := [.slice x_9.a0 m_10.s.length x_9.c0, .slice x_9.a1 m_10.r.length x_9.c1, .slice x_9.a2 m_10.w.length x_9.c2]) rfl rfl Tryz.isAgg32 Tryz.sizeOf32 rfl rfl) ⟨_, rfl⟩) (RV.tmp (v := .int .i64 n_11) rfl) (RV.tmp (v := .int .i64 n_13) rfl) (List.sublist_append_left [rC x_9.a0 x_9.c0 m_10.s, rS x_9.a1 x_9.c1 m_10.r, rS x_9.a2 x_9.c2 m_10.w] [mb b_1 x_9 m_10, mb b_2 x_9 m_10]) ?_
  exact ⟨x_9, m_10, n_11, n_13, (by simp only [if_true, e_7, if_true, if_false, Bool.false_eq_true, Bool.not_true, Bool.not_false]; (repeat (first | rw [if_pos (by omega)] | rw [if_neg (by omega)])); all_goals (first | rfl | simp only [if_true, if_false, Bool.false_eq_true, Bool.not_true, Bool.not_false, e_7])), (k_8.mono (by omega) (by omega)), (by first | omega | (simp only [List.length_append, List.length_cons, List.length_nil, List.length_take, List.length_drop]; omega)), (by first | omega | (simp only [List.length_append, List.length_cons, List.length_nil, List.length_take, List.length_drop]; omega)), rfl, rfl⟩

theorem Q_takeSignal (x : MA) (m : MS) {S T : Nat} (hk : m.ok S T) (hS : S ≤ 49000000) (hT : T ≤ 49000000) (id : Int) (hid : -9223372036854775808 ≤ id ∧ id ≤ 9223372036854775807) :
    Ct Tryz.prog 15 [mv x m, .int .i64 id] ([]) (fun w => seesM w x m) (fun v A' => ∃ x' m' r0 r1, MS.takeSignal m id = (m', r0, r1) ∧ m'.ok (S + 1) (T + 5) ∧ (0 ≤ r0 ∧ r0 ≤ 999) ∧ (0 ≤ r1 ∧ r1 ≤ 9) ∧ v = .tuple #[mv x' m', .int .i64 r0, .int .i64 r1] ∧ A' = mr x' m') := by
  refine Ct.intro Tryz.func15 rfl Tryz.ntmps15 (Nat.le_of_ble_eq_true rfl) fun w0 hpre => ?_
  have hs_x_a0 : Sees w0 _ _ _ _ := hpre.1
  have hs_x_a1 : Sees w0 _ _ _ _ := hpre.2.1
  have hs_x_a2 : Sees w0 _ _ _ _ := hpre.2.2
  refine JC.seq ?_
  refine JC.region ?_
  refine JL.op rfl (JO.box (cs := [.slice x.a0 m.s.length x.c0, .slice x.a1 m.r.length x.c1, .slice x.a2 m.w.length x.c2]) rfl rfl) ?_
  rintro _ _ ⟨b_1, rfl, rfl⟩
  refine JL.op rfl (JO.alloc (z := .agg #[.slice none 0 0, .slice none 0 0, .slice none 0 0]) (cs := [.slice none 0 0, .slice none 0 0, .slice none 0 0]) Tryz.zeroValue32 rfl) ?_
  rintro _ _ ⟨b_2, rfl, rfl⟩
  refine JL.pure rfl (PO.assign (v := .int .i64 0) rfl) ?_
  refine JL.pure rfl (PO.assign (v := .int .i64 0) rfl) ?_
  refine JL.nil ?_
  refine JQ.seq ?_
  refine JC.seq ?_
  refine JC.region ?_
  refine JL.ld rfl (LO.loadK 1 (vs := [.slice x.a0 m.s.length x.c0, .slice x.a1 m.r.length x.c1, .slice x.a2 m.w.length x.c2]) rfl rfl Tryz.isAgg32 Tryz.sizeOf32 rfl rfl) ?_
  refine JL.op rfl (JO.call [] Tryz.call44 rfl (N_copy x m hk (by omega) (by omega)) rfl (fun w hw => ⟨hw.seeOut_ hs_x_a0 (fun _ _ => List.not_mem_nil), hw.seeOut_ hs_x_a1 (fun _ _ => List.not_mem_nil), hw.seeOut_ hs_x_a2 (fun _ _ => List.not_mem_nil)⟩)) ?_
  rintro _ _ ⟨_, ⟨x_5, m_6, rfl, k_4, rfl, rfl⟩, rfl⟩
  refine JL.pure rfl (PO.move (v := .int .i64 id) rfl) ?_
  refine JL.op rfl (JO.call [0, 0, 0] Tryz.call43 rfl (M_takeSignal x_5 m k_4 (by omega) (by omega) id (by omega)) rfl (fun _ _ => trivial)) ?_
  rintro _ _ ⟨_, ⟨x_9, m_10, n_11, n_13, e_7, k_8, f_12, f_14, rfl, rfl⟩, rfl⟩
  refine JL.pure rfl (PO.extract (v := mv x_9 m_10) rfl rfl) ?_
  refine JL.pure rfl (PO.extract (v := .int .i64 n_11) rfl rfl) ?_
  refine JL.pure rfl (PO.extract (v := .int .i64 n_13) rfl rfl) ?_
  refine JL.op rfl (JO.store 3 (vs := [.slice x_9.a0 m_10.s.length x_9.c0, .slice x_9.a1 m_10.r.length x_9.c1, .slice x_9.a2 m_10.w.length x_9.c2]) (cs' := [.slice x_9.a0 m_10.s.length x_9.c0, .slice x_9.a1 m_10.r.length x_9.c1, .slice x_9.a2 m_10.w.length x_9.c2]) rfl rfl rfl rfl Tryz.sizeOf32 rfl rfl (Nat.le_of_ble_eq_true rfl) rfl) ?_
  rintro _ _ rfl
  refine JL.pure rfl (PO.assign (v := .int .i64 n_11) rfl) ?_
  refine JL.pure rfl (PO.assign (v := .int .i64 n_13) rfl) ?_
  refine JL.nil ?_
  refine JQ.seq ?_
  refine JC.ret ?_
  refine Done.three (.inl rfl) rfl (RV.cell1 (LO.loadK 3 (vs := [.slice x_9.a0 m_10.s.length x_9.c0, .slice x_9.a1 m_10.r.length x_9.c1, .slice x_9.a2 m_10.w.length x_9.c2]) rfl rfl Tryz.isAgg32 Tryz.sizeOf32 rfl rfl) ⟨_, rfl⟩) (RV.tmp (v := .int .i64 n_11) rfl) (RV.tmp (v := .int .i64 n_13) rfl) (List.sublist_append_left [rC x_9.a0 x_9.c0 m_10.s, rS x_9.a1 x_9.c1 m_10.r, rS x_9.a2 x_9.c2 m_10.w] [mb b_2 x_9 m_10, mb b_1 x m]) ?_
  exact ⟨x_9, m_10, n_11, n_13, (by simp only [if_true, e_7, if_true, if_false, Bool.false_eq_true, Bool.not_true, Bool.not_false]; (repeat (first | rw [if_pos (by omega)] | rw [if_neg (by omega)])); all_goals (first | rfl | simp only [if_true, if_false, Bool.false_eq_true, Bool.not_true, Bool.not_false, e_7])), (k_8.mono (by omega) (by omega)), (by first | omega | (simp only [List.length_append, List.length_cons, List.length_nil, List.length_take, List.length_drop]; omega)), (by first | omega | (simp only [List.length_append, List.length_cons, List.length_nil, List.length_take, List.length_drop]; omega)), rfl, rfl⟩

end Go.Proofs.YtdjecfpmjjjplaaGreatDoor
