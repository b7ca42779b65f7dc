/-
  Names, clocks, pages (part 17).
-/
import Derived.Test.YtdjecfpmjjjplaaGreatDoorS14MACHp1
set_option linter.unusedSimpArgs false
set_option linter.unusedVariables false
set_option linter.unnecessarySimpa false
namespace Go.Proofs.YtdjecfpmjjjplaaGreatDoor
open Go Go.RowKit
attribute [local irreducible] JL JC JQ JO LO PO JA JX Ct

theorem N_fileOf (p : Nat) (x : MA) (m : MS) {S T : Nat} (hk : m.ok S T) (hS : S ≤ 80000000) (hT : T ≤ 80000000) (name : Str) (hname : name.length ≤ 100000000) :
    Ct Tryz.prog 113 [.pointer (some ⟨p, 0, none⟩), str name] (mb p x m :: mr x m) (fun _ => True) (fun v A' => ∃ x' m' r0, MS.fileOf m name = (m', r0) ∧ m'.ok (S) (T + 1) ∧ (0 ≤ r0 ∧ r0 ≤ 999) ∧ v = .int .i64 r0 ∧ A' = mb p x' m' :: mr x' m') := by
  refine Ct.intro Tryz.func113 rfl Tryz.ntmps113 (Nat.le_of_ble_eq_true rfl) fun w0 hpre => ?_
  refine JC.seq ?_
  refine JC.region ?_
  refine JL.pure rfl (PO.assign (v := .int .i64 0) rfl) ?_
  refine JL.nil ?_
  refine JQ.seq ?_
  refine JC.seq ?_
  refine JC.seq ?_
  refine JC.region ?_
  refine JL.pure rfl (PO.move (v := str name) rfl) ?_
  refine JL.op rfl (JO.call [] Tryz.call112 rfl (N_nameOk name (by omega)) rfl (fun _ _ => trivial)) ?_
  rintro _ _ ⟨_, ⟨b_3, e_1, rfl, rfl⟩, rfl⟩
  refine JL.pure rfl (PO.not rfl) ?_
  refine JL.nil ?_
  refine JQ.seq ?_
  rcases Bool.eq_false_or_eq_true (b_3) with h_4 | h_4
  · skip
    refine JC.condF (congrArg Value.bool (congrArg Bool.not h_4)) ?_
    refine JC.skip ?_
    refine JQ.seq ?_
    refine JC.seq ?_
    refine JC.region ?_
    refine JL.pure rfl (PO.move (v := .pointer (some ⟨p, 0, none⟩)) rfl) ?_
    refine JL.pure rfl (PO.move (v := str name) rfl) ?_
    refine JL.op rfl (JO.call [] Tryz.call115 rfl (N_nameKey name (by omega)) rfl (fun _ _ => trivial)) ?_
    rintro _ _ ⟨_, ⟨u_7, e_5, f_8, rfl, rfl⟩, rfl⟩
    refine JL.op rfl (JO.call [0, 0, 0, 0] Tryz.call87 rfl (N_num p x m hk (by omega) (by omega) u_7) rfl (fun _ _ => trivial)) ?_
    rintro _ _ ⟨_, ⟨x_11, m_12, n_13, e_9, k_10, f_14, rfl, rfl⟩, rfl⟩
    refine JL.pure rfl (PO.assign (v := .int .i64 n_13) rfl) ?_
    refine JL.nil ?_
    refine JQ.seq ?_
    refine JC.ret ?_
    refine Done.one (.inl rfl) rfl (RV.tmp (v := .int .i64 n_13) rfl) (List.Sublist.refl _) ?_
    exact ⟨x_11, m_12, n_13, (by simp only [MS.fileOf, e_1, h_4, e_5, e_9, if_true, if_false, Bool.false_eq_true, Bool.not_true, Bool.not_false]; (repeat (first | rw [if_pos (by omega)] | rw [if_neg (by omega)])); all_goals (first | rfl | simp only [if_true, if_false, Bool.false_eq_true, Bool.not_true, Bool.not_false, e_1, h_4, e_5, e_9])), (k_10.mono (by omega) (by omega)), (by first | omega | (simp only [List.length_append, List.length_cons, List.length_nil, List.length_take, List.length_drop]; omega)), rfl, rfl⟩
  · skip
    refine JC.condT (congrArg Value.bool (congrArg Bool.not h_4)) ?_
    refine JC.seq ?_
    refine JC.region ?_
    refine JL.pure rfl (PO.assign (v := .int .i64 0) rfl) ?_
    refine JL.nil ?_
    refine JQ.seq ?_
    refine JC.ret ?_
    refine JQ.thenRet ?_
    refine Done.one (.inl rfl) rfl (RV.tmp (v := .int .i64 0) rfl) (List.Sublist.refl _) ?_
    exact ⟨x, m, 0, (by simp only [MS.fileOf, e_1, h_4, if_true, if_false, Bool.false_eq_true, Bool.not_true, Bool.not_false]; (repeat (first | rw [if_pos (by omega)] | rw [if_neg (by omega)])); all_goals (first | rfl | simp only [if_true, if_false, Bool.false_eq_true, Bool.not_true, Bool.not_false, e_1, h_4])), (hk.mono (by omega) (by omega)), (by first | omega | (simp only [List.length_append, List.length_cons, List.length_nil, List.length_take, List.length_drop]; omega)), rfl, rfl⟩

theorem M_fileOf (x : MA) (m : MS) {S T : Nat} (hk : m.ok S T) (hS : S ≤ 80000000) (hT : T ≤ 80000000) (name : Str) (hname : name.length ≤ 100000000) :
    Ct Tryz.prog 110 [mv x m, str name] (mr x m) (fun _ => True) (fun v A' => ∃ x' m' r0, MS.fileOf m name = (m', r0) ∧ m'.ok (S) (T + 1) ∧ (0 ≤ r0 ∧ r0 ≤ 999) ∧ v = .tuple #[mv x' m', .int .i64 r0] ∧ A' = mr x' m') := by
  refine Ct.intro Tryz.func110 rfl Tryz.ntmps110 (Nat.le_of_ble_eq_true rfl) fun w0 hpre => ?_
  refine JC.seq ?_
  refine JC.region ?_
  refine JL.op rfl (JO.box (cs := [.slice x.a0 m.s.length x.c0, .slice x.a1 m.r.length x.c1, .slice x.a2 m.w.length x.c2]) rfl rfl) ?_
  rintro _ _ ⟨b_1, rfl, rfl⟩
  refine JL.op rfl (JO.alloc (z := .agg #[.slice none 0 0, .slice none 0 0, .slice none 0 0]) (cs := [.slice none 0 0, .slice none 0 0, .slice none 0 0]) Tryz.zeroValue32 rfl) ?_
  rintro _ _ ⟨b_2, rfl, rfl⟩
  refine JL.pure rfl (PO.assign (v := .int .i64 0) rfl) ?_
  refine JL.nil ?_
  refine JQ.seq ?_
  refine JC.seq ?_
  refine JC.seq ?_
  refine JC.region ?_
  refine JL.pure rfl (PO.move (v := str name) rfl) ?_
  refine JL.op rfl (JO.call [] Tryz.call109 rfl (N_sNameOk name (by omega)) rfl (fun _ _ => trivial)) ?_
  rintro _ _ ⟨_, ⟨b_5, e_3, rfl, rfl⟩, rfl⟩
  refine JL.pure rfl (PO.not rfl) ?_
  refine JL.nil ?_
  refine JQ.seq ?_
  rcases Bool.eq_false_or_eq_true (b_5) with h_6 | h_6
  · skip
    refine JC.condF (congrArg Value.bool (congrArg Bool.not h_6)) ?_
    refine JC.skip ?_
    refine JQ.seq ?_
    refine JC.seq ?_
    refine JC.region ?_
    refine JL.ld rfl (LO.loadK 1 (vs := [.slice x.a0 m.s.length x.c0, .slice x.a1 m.r.length x.c1, .slice x.a2 m.w.length x.c2]) rfl rfl Tryz.isAgg32 Tryz.sizeOf32 rfl rfl) ?_
    refine JL.pure rfl (PO.move (v := str name) rfl) ?_
    refine JL.pure rfl (PO.addS rfl rfl (by (try simp only [List.length_append, List.length_cons, List.length_nil, List.length_drop, List.length_take]); omega)) ?_
    refine JL.op rfl (JO.call [2, 2, 2] Tryz.call77 rfl (N_sNumAt x m hk (by omega) (by omega) ([110, 47] ++ name)) rfl (fun _ _ => trivial)) ?_
    rintro _ _ ⟨_, ⟨x_9, m_10, n_11, e_7, k_8, f_12, rfl, rfl⟩, rfl⟩
    refine JL.pure rfl (PO.extract (v := mv x_9 m_10) rfl rfl) ?_
    refine JL.pure rfl (PO.extract (v := .int .i64 n_11) rfl rfl) ?_
    refine JL.op rfl (JO.store 3 (vs := [.slice x_9.a0 m_10.s.length x_9.c0, .slice x_9.a1 m_10.r.length x_9.c1, .slice x_9.a2 m_10.w.length x_9.c2]) (cs' := [.slice x_9.a0 m_10.s.length x_9.c0, .slice x_9.a1 m_10.r.length x_9.c1, .slice x_9.a2 m_10.w.length x_9.c2]) rfl rfl rfl rfl Tryz.sizeOf32 rfl rfl (Nat.le_of_ble_eq_true rfl) rfl) ?_
    rintro _ _ rfl
    refine JL.pure rfl (PO.assign (v := .int .i64 n_11) rfl) ?_
    refine JL.nil ?_
    refine JQ.seq ?_
    refine JC.ret ?_
    refine Done.two (.inl rfl) rfl (RV.cell1 (LO.loadK 3 (vs := [.slice x_9.a0 m_10.s.length x_9.c0, .slice x_9.a1 m_10.r.length x_9.c1, .slice x_9.a2 m_10.w.length x_9.c2]) rfl rfl Tryz.isAgg32 Tryz.sizeOf32 rfl rfl) ⟨_, rfl⟩) (RV.tmp (v := .int .i64 n_11) rfl) (List.sublist_append_left [rC x_9.a0 x_9.c0 m_10.s, rS x_9.a1 x_9.c1 m_10.r, rS x_9.a2 x_9.c2 m_10.w] [mb b_2 x_9 m_10, mb b_1 x m]) ?_
    exact ⟨x_9, m_10, n_11, (by simp only [MS.fileOf, e_3, h_6, e_7, if_true, if_false, Bool.false_eq_true, Bool.not_true, Bool.not_false]; (repeat (first | rw [if_pos (by omega)] | rw [if_neg (by omega)])); all_goals (first | rfl | simp only [if_true, if_false, Bool.false_eq_true, Bool.not_true, Bool.not_false, e_3, h_6, e_7])), (k_8.mono (by omega) (by omega)), (by first | omega | (simp only [List.length_append, List.length_cons, List.length_nil, List.length_take, List.length_drop]; omega)), rfl, rfl⟩
  · skip
    refine JC.condT (congrArg Value.bool (congrArg Bool.not h_6)) ?_
    refine JC.seq ?_
    refine JC.region ?_
    refine JL.ld rfl (LO.loadK 1 (vs := [.slice x.a0 m.s.length x.c0, .slice x.a1 m.r.length x.c1, .slice x.a2 m.w.length x.c2]) rfl rfl Tryz.isAgg32 Tryz.sizeOf32 rfl rfl) ?_
    refine JL.op rfl (JO.store 0 (vs := [.slice x.a0 m.s.length x.c0, .slice x.a1 m.r.length x.c1, .slice x.a2 m.w.length x.c2]) (cs' := [.slice x.a0 m.s.length x.c0, .slice x.a1 m.r.length x.c1, .slice x.a2 m.w.length x.c2]) rfl rfl rfl rfl Tryz.sizeOf32 rfl rfl (Nat.le_of_ble_eq_true rfl) rfl) ?_
    rintro _ _ rfl
    refine JL.pure rfl (PO.assign (v := .int .i64 0) rfl) ?_
    refine JL.nil ?_
    refine JQ.seq ?_
    refine JC.ret ?_
    refine JQ.thenRet ?_
    refine JQ.perm (pick_perm [2, 2, 2] (A := [rC x.a0 x.c0 m.s, rS x.a1 x.c1 m.r, rS x.a2 x.c2 m.w]) (F := [mb b_2 x m, mb b_1 x m]) rfl).symm ?_
    refine Done.two (.inl rfl) rfl (RV.cell1 (LO.loadK 3 (vs := [.slice x.a0 m.s.length x.c0, .slice x.a1 m.r.length x.c1, .slice x.a2 m.w.length x.c2]) rfl rfl Tryz.isAgg32 Tryz.sizeOf32 rfl rfl) ⟨_, rfl⟩) (RV.tmp (v := .int .i64 0) rfl) (List.sublist_append_left [rC x.a0 x.c0 m.s, rS x.a1 x.c1 m.r, rS x.a2 x.c2 m.w] [mb b_2 x m, mb b_1 x m]) ?_
    exact ⟨x, m, 0, (by simp only [MS.fileOf, e_3, h_6, if_true, if_false, Bool.false_eq_true, Bool.not_true, Bool.not_false]; (repeat (first | rw [if_pos (by omega)] | rw [if_neg (by omega)])); all_goals (first | rfl | simp only [if_true, if_false, Bool.false_eq_true, Bool.not_true, Bool.not_false, e_3, h_6])), (hk.mono (by omega) (by omega)), (by first | omega | (simp only [List.length_append, List.length_cons, List.length_nil, List.length_take, List.length_drop]; omega)), rfl, rfl⟩

theorem N_unlinkName (p : Nat) (x : MA) (m : MS) {S T : Nat} (hk : m.ok S T) (hS : S ≤ 40000000) (hT : T ≤ 40000000) (name : Str) (hname : name.length ≤ 100000000) :
    Ct Tryz.prog 70 [.pointer (some ⟨p, 0, none⟩), str name] (mb p x m :: mr x m) (fun _ => True) (fun v A' => ∃ x' m' r0, MS.unlinkName m name = (m', r0) ∧ m'.ok (S + 1) (T + S + 4) ∧ (0 ≤ r0 ∧ r0 ≤ 9) ∧ v = .int .i64 r0 ∧ A' = mb p x' m' :: mr x' m') := by
  refine Ct.intro Tryz.func70 rfl Tryz.ntmps70 (Nat.le_of_ble_eq_true rfl) fun w0 hpre => ?_
  refine JC.seq ?_
  refine JC.region ?_
  refine JL.pure rfl (PO.assign (v := .int .i64 0) rfl) ?_
  refine JL.nil ?_
  refine JQ.seq ?_
  refine JC.seq ?_
  refine JC.seq ?_
  refine JC.region ?_
  refine JL.pure rfl (PO.move (v := str name) rfl) ?_
  refine JL.op rfl (JO.call [] Tryz.call112 rfl (N_nameOk name (by omega)) rfl (fun _ _ => trivial)) ?_
  rintro _ _ ⟨_, ⟨b_3, e_1, rfl, rfl⟩, rfl⟩
  refine JL.pure rfl (PO.not rfl) ?_
  refine JL.nil ?_
  refine JQ.seq ?_
  rcases Bool.eq_false_or_eq_true (b_3) with h_4 | h_4
  · skip
    refine JC.condF (congrArg Value.bool (congrArg Bool.not h_4)) ?_
    refine JC.skip ?_
    refine JQ.seq ?_
    refine JC.seq ?_
    refine JC.region ?_
    refine JL.pure rfl (PO.move (v := .pointer (some ⟨p, 0, none⟩)) rfl) ?_
    refine JL.pure rfl (PO.move (v := str name) rfl) ?_
    refine JL.op rfl (JO.call [0, 0, 0, 0] Tryz.call113 rfl (N_fileOf p x m hk (by omega) (by omega) name (by omega)) rfl (fun _ _ => trivial)) ?_
    rintro _ _ ⟨_, ⟨x_7, m_8, n_9, e_5, k_6, f_10, rfl, rfl⟩, rfl⟩
    refine JL.pure rfl (PO.assign (v := .int .i64 n_9) rfl) ?_
    refine JL.nil ?_
    refine JQ.seq ?_
    refine JC.seq ?_
    refine JC.seq ?_
    refine JC.region ?_
    refine JL.pure rfl (PO.move (v := .int .i64 n_9) rfl) ?_
    refine JL.pure rfl (PO.eqlI rfl rfl) ?_
    refine JL.nil ?_
    refine JQ.seq ?_
    by_cases h_11 : n_9 = 0
    · skip
      refine JC.condT (congrArg Value.bool (decide_eq_true h_11)) ?_
      refine JC.seq ?_
      refine JC.region ?_
      refine JL.pure rfl (PO.assign (v := .int .i64 2) rfl) ?_
      refine JL.nil ?_
      refine JQ.seq ?_
      refine JC.ret ?_
      refine JQ.thenRet ?_
      refine Done.one (.inl rfl) rfl (RV.tmp (v := .int .i64 2) rfl) (List.Sublist.refl _) ?_
      exact ⟨x_7, m_8, 2, (by simp only [MS.unlinkName, e_1, h_4, e_5, h_11, if_true, if_false, Bool.false_eq_true, Bool.not_true, Bool.not_false]; (repeat (first | rw [if_pos (by omega)] | rw [if_neg (by omega)])); all_goals (first | rfl | simp only [if_true, if_false, Bool.false_eq_true, Bool.not_true, Bool.not_false, e_1, h_4, e_5, h_11])), (k_6.mono (by omega) (by omega)), (by first | omega | (simp only [List.length_append, List.length_cons, List.length_nil, List.length_take, List.length_drop]; omega)), rfl, rfl⟩
    · skip
      refine JC.condF (congrArg Value.bool (decide_eq_false h_11)) ?_
      refine JC.skip ?_
      refine JQ.seq ?_
      refine JC.seq ?_
      refine JC.region ?_
      refine JL.pure rfl (PO.move (v := .pointer (some ⟨p, 0, none⟩)) rfl) ?_
      refine JL.pure rfl (PO.move (v := str name) rfl) ?_
      refine JL.op rfl (JO.call [] Tryz.call115 rfl (N_nameKey name (by omega)) rfl (fun _ _ => trivial)) ?_
      rintro _ _ ⟨_, ⟨u_14, e_12, f_15, rfl, rfl⟩, rfl⟩
      refine JL.op rfl (JO.call [0, 0, 0, 0] Tryz.call90 rfl (N_layNil p x_7 m_8 k_6 (by omega) (by omega) u_14 (by omega)) rfl (fun _ _ => trivial)) ?_
      rintro _ _ ⟨_, ⟨x_18, m_19, e_16, k_17, rfl, rfl⟩, rfl⟩
      refine JL.nil ?_
      refine JQ.seq ?_
      refine JC.seq ?_
      refine JC.seq ?_
      refine JC.region ?_
      refine JL.pure rfl (PO.move (v := .pointer (some ⟨p, 0, none⟩)) rfl) ?_
      refine JL.pure rfl (PO.move (v := .int .i64 n_9) rfl) ?_
      refine JL.op rfl (JO.call [] Tryz.call114 rfl (N_linksKey n_9 (by omega)) rfl (fun _ _ => trivial)) ?_
      rintro _ _ ⟨_, ⟨u_22, e_20, f_23, rfl, rfl⟩, rfl⟩
      refine JL.op rfl (JO.call [0, 0, 0, 0] Tryz.call87 rfl (N_num p x_18 m_19 k_17 (by omega) (by omega) u_22) rfl (fun _ _ => trivial)) ?_
      rintro _ _ ⟨_, ⟨x_26, m_27, n_28, e_24, k_25, f_29, rfl, rfl⟩, rfl⟩
      refine JL.pure rfl (PO.assign (v := .int .i64 n_28) rfl) ?_
      refine JL.nil ?_
      refine JQ.seq ?_
      refine JC.seq ?_
      refine JC.region ?_
      refine JL.pure rfl (PO.move (v := .int .i64 n_28) rfl) ?_
      refine JL.pure rfl (PO.gtr rfl rfl) ?_
      refine JL.nil ?_
      refine JQ.seq ?_
      by_cases h_30 : 1 < n_28
      · skip
        refine JC.condT (congrArg Value.bool (decide_eq_true h_30)) ?_
        refine JC.region ?_
        refine JL.pure rfl (PO.move (v := .pointer (some ⟨p, 0, none⟩)) rfl) ?_
        refine JL.pure rfl (PO.move (v := .int .i64 n_9) rfl) ?_
        refine JL.op rfl (JO.call [] Tryz.call114 rfl (N_linksKey n_9 (by omega)) rfl (fun _ _ => trivial)) ?_
        rintro _ _ ⟨_, ⟨u_33, e_31, f_34, rfl, rfl⟩, rfl⟩
        have hqe_31 := e_20.symm.trans e_31
        subst hqe_31
        refine JL.pure rfl (PO.move (v := .int .i64 n_28) rfl) ?_
        refine JL.pure rfl (PO.sub (c := n_28 - 1) rfl rfl (wr (by omega))) ?_
        refine JL.op rfl (JO.call [0, 0, 0, 0] Tryz.call91 rfl (N_setNum p x_26 m_27 k_25 (by omega) (by omega) u_22 (n_28 - 1) (by omega) (by omega)) rfl (fun _ _ => trivial)) ?_
        rintro _ _ ⟨_, ⟨x_37, m_38, e_35, k_36, rfl, rfl⟩, rfl⟩
        refine JL.nil ?_
        refine JQ.seq ?_
        refine JC.seq ?_
        refine JC.region ?_
        refine JL.pure rfl (PO.assign (v := .int .i64 0) rfl) ?_
        refine JL.nil ?_
        refine JQ.seq ?_
        refine JC.ret ?_
        refine Done.one (.inl rfl) rfl (RV.tmp (v := .int .i64 0) rfl) (List.Sublist.refl _) ?_
        exact ⟨x_37, m_38, 0, (by simp only [MS.unlinkName, e_1, h_4, e_5, h_11, e_12, e_16, e_20, e_24, h_30, e_35, if_true, if_false, Bool.false_eq_true, Bool.not_true, Bool.not_false]; (repeat (first | rw [if_pos (by omega)] | rw [if_neg (by omega)])); all_goals (first | rfl | simp only [if_true, if_false, Bool.false_eq_true, Bool.not_true, Bool.not_false, e_1, h_4, e_5, h_11, e_12, e_16, e_20, e_24, h_30, e_35])), (k_36.mono (by omega) (by omega)), (by first | omega | (simp only [List.length_append, List.length_cons, List.length_nil, List.length_take, List.length_drop]; omega)), rfl, rfl⟩
      · skip
        refine JC.condF (congrArg Value.bool (decide_eq_false h_30)) ?_
        refine JC.region ?_
        refine JL.pure rfl (PO.move (v := .pointer (some ⟨p, 0, none⟩)) rfl) ?_
        refine JL.pure rfl (PO.move (v := .int .i64 n_9) rfl) ?_
        refine JL.op rfl (JO.call [] Tryz.call89 rfl (N_keyNum [105, 47] n_9 [47] (show List.length ([105, 47] : Str) ≤ 2 by decide) (by omega) (show List.length ([47] : Str) ≤ 1 by decide) (by omega)) rfl (fun _ _ => trivial)) ?_
        rintro _ _ ⟨_, ⟨u_41, e_39, f_42, rfl, rfl⟩, rfl⟩
        refine JL.op rfl (JO.call [0, 0, 0, 0] Tryz.call108 rfl (N_wipe p x_26 m_27 k_25 (by omega) (by omega) u_41 (by omega)) rfl (fun _ _ => trivial)) ?_
        rintro _ _ ⟨_, ⟨x_45, m_46, e_43, k_44, rfl, rfl⟩, rfl⟩
        refine JL.nil ?_
        refine JQ.seq ?_
        refine JC.seq ?_
        refine JC.region ?_
        refine JL.pure rfl (PO.assign (v := .int .i64 0) rfl) ?_
        refine JL.nil ?_
        refine JQ.seq ?_
        refine JC.ret ?_
        refine Done.one (.inl rfl) rfl (RV.tmp (v := .int .i64 0) rfl) (List.Sublist.refl _) ?_
        exact ⟨x_45, m_46, 0, (by simp only [MS.unlinkName, e_1, h_4, e_5, h_11, e_12, e_16, e_20, e_24, h_30, e_39, e_43, if_true, if_false, Bool.false_eq_true, Bool.not_true, Bool.not_false]; (repeat (first | rw [if_pos (by omega)] | rw [if_neg (by omega)])); all_goals (first | rfl | simp only [if_true, if_false, Bool.false_eq_true, Bool.not_true, Bool.not_false, e_1, h_4, e_5, h_11, e_12, e_16, e_20, e_24, h_30, e_39, e_43])), (k_44.mono (by omega) (by omega)), (by first | omega | (simp only [List.length_append, List.length_cons, List.length_nil, List.length_take, List.length_drop]; omega)), rfl, rfl⟩
  · skip
    refine JC.condT (congrArg Value.bool (congrArg Bool.not h_4)) ?_
    refine JC.seq ?_
    refine JC.region ?_
    refine JL.pure rfl (PO.assign (v := .int .i64 4) rfl) ?_
    refine JL.nil ?_
    refine JQ.seq ?_
    refine JC.ret ?_
    refine JQ.thenRet ?_
    refine Done.one (.inl rfl) rfl (RV.tmp (v := .int .i64 4) rfl) (List.Sublist.refl _) ?_
    exact ⟨x, m, 4, (by simp only [MS.unlinkName, e_1, h_4, if_true, if_false, Bool.false_eq_true, Bool.not_true, Bool.not_false]; (repeat (first | rw [if_pos (by omega)] | rw [if_neg (by omega)])); all_goals (first | rfl | simp only [if_true, if_false, Bool.false_eq_true, Bool.not_true, Bool.not_false, e_1, h_4])), (hk.mono (by omega) (by omega)), (by first | omega | (simp only [List.length_append, List.length_cons, List.length_nil, List.length_take, List.length_drop]; omega)), rfl, rfl⟩

theorem M_unlinkName (x : MA) (m : MS) {S T : Nat} (hk : m.ok S T) (hS : S ≤ 40000000) (hT : T ≤ 40000000) (name : Str) (hname : name.length ≤ 100000000) :
    Ct Tryz.prog 69 [mv x m, str name] (mr x m) (fun _ => True) (fun v A' => ∃ x' m' r0, MS.unlinkName m name = (m', r0) ∧ m'.ok (S + 1) (T + S + 4) ∧ (0 ≤ r0 ∧ r0 ≤ 9) ∧ v = .tuple #[mv x' m', .int .i64 r0] ∧ A' = mr x' m') := by
  refine Ct.intro Tryz.func69 rfl Tryz.ntmps69 (Nat.le_of_ble_eq_true rfl) fun w0 hpre => ?_
  refine JC.seq ?_
  refine JC.region ?_
  refine JL.op rfl (JO.box (cs := [.slice x.a0 m.s.length x.c0, .slice x.a1 m.r.length x.c1, .slice x.a2 m.w.length x.c2]) rfl rfl) ?_
  rintro _ _ ⟨b_1, rfl, rfl⟩
  refine JL.op rfl (JO.alloc (z := .agg #[.slice none 0 0, .slice none 0 0, .slice none 0 0]) (cs := [.slice none 0 0, .slice none 0 0, .slice none 0 0]) Tryz.zeroValue32 rfl) ?_
  rintro _ _ ⟨b_2, rfl, rfl⟩
  refine JL.pure rfl (PO.assign (v := .int .i64 0) rfl) ?_
  refine JL.nil ?_
  refine JQ.seq ?_
  refine JC.seq ?_
  refine JC.seq ?_
  refine JC.region ?_
  refine JL.pure rfl (PO.move (v := str name) rfl) ?_
  refine JL.op rfl (JO.call [] Tryz.call109 rfl (N_sNameOk name (by omega)) rfl (fun _ _ => trivial)) ?_
  rintro _ _ ⟨_, ⟨b_5, e_3, rfl, rfl⟩, rfl⟩
  refine JL.pure rfl (PO.not rfl) ?_
  refine JL.nil ?_
  refine JQ.seq ?_
  rcases Bool.eq_false_or_eq_true (b_5) with h_6 | h_6
  · skip
    refine JC.condF (congrArg Value.bool (congrArg Bool.not h_6)) ?_
    refine JC.skip ?_
    refine JQ.seq ?_
    refine JC.seq ?_
    refine JC.region ?_
    refine JL.ld rfl (LO.loadK 1 (vs := [.slice x.a0 m.s.length x.c0, .slice x.a1 m.r.length x.c1, .slice x.a2 m.w.length x.c2]) rfl rfl Tryz.isAgg32 Tryz.sizeOf32 rfl rfl) ?_
    refine JL.pure rfl (PO.move (v := str name) rfl) ?_
    refine JL.op rfl (JO.call [2, 2, 2] Tryz.call110 rfl (M_fileOf x m hk (by omega) (by omega) name (by omega)) rfl (fun _ _ => trivial)) ?_
    rintro _ _ ⟨_, ⟨x_9, m_10, n_11, e_7, k_8, f_12, rfl, rfl⟩, rfl⟩
    refine JL.pure rfl (PO.move (v := .tuple #[mv x_9 m_10, .int .i64 n_11]) rfl) ?_
    refine JL.pure rfl (PO.extract (v := mv x_9 m_10) rfl rfl) ?_
    refine JL.pure rfl (PO.extract (v := .int .i64 n_11) rfl rfl) ?_
    refine JL.op rfl (JO.store 4 (vs := [.slice x_9.a0 m_10.s.length x_9.c0, .slice x_9.a1 m_10.r.length x_9.c1, .slice x_9.a2 m_10.w.length x_9.c2]) (cs' := [.slice x_9.a0 m_10.s.length x_9.c0, .slice x_9.a1 m_10.r.length x_9.c1, .slice x_9.a2 m_10.w.length x_9.c2]) rfl rfl rfl rfl Tryz.sizeOf32 rfl rfl (Nat.le_of_ble_eq_true rfl) rfl) ?_
    rintro _ _ rfl
    refine JL.pure rfl (PO.assign (v := .int .i64 n_11) rfl) ?_
    refine JL.nil ?_
    refine JQ.seq ?_
    refine JC.seq ?_
    refine JC.seq ?_
    refine JC.region ?_
    refine JL.pure rfl (PO.move (v := .int .i64 n_11) rfl) ?_
    refine JL.pure rfl (PO.eqlI rfl rfl) ?_
    refine JL.nil ?_
    refine JQ.seq ?_
    by_cases h_13 : n_11 = 0
    · skip
      refine JC.condT (congrArg Value.bool (decide_eq_true h_13)) ?_
      refine JC.seq ?_
      refine JC.region ?_
      refine JL.ld rfl (LO.loadK 4 (vs := [.slice x_9.a0 m_10.s.length x_9.c0, .slice x_9.a1 m_10.r.length x_9.c1, .slice x_9.a2 m_10.w.length x_9.c2]) rfl rfl Tryz.isAgg32 Tryz.sizeOf32 rfl rfl) ?_
      refine JL.op rfl (JO.store 3 (vs := [.slice x_9.a0 m_10.s.length x_9.c0, .slice x_9.a1 m_10.r.length x_9.c1, .slice x_9.a2 m_10.w.length x_9.c2]) (cs' := [.slice x_9.a0 m_10.s.length x_9.c0, .slice x_9.a1 m_10.r.length x_9.c1, .slice x_9.a2 m_10.w.length x_9.c2]) rfl rfl rfl rfl Tryz.sizeOf32 rfl rfl (Nat.le_of_ble_eq_true rfl) rfl) ?_
      rintro _ _ rfl
      refine JL.pure rfl (PO.assign (v := .int .i64 2) rfl) ?_
      refine JL.nil ?_
      refine JQ.seq ?_
      refine JC.ret ?_
      refine JQ.thenRet ?_
      refine Done.two (.inl rfl) rfl (RV.cell1 (LO.loadK 3 (vs := [.slice x_9.a0 m_10.s.length x_9.c0, .slice x_9.a1 m_10.r.length x_9.c1, .slice x_9.a2 m_10.w.length x_9.c2]) rfl rfl Tryz.isAgg32 Tryz.sizeOf32 rfl rfl) ⟨_, rfl⟩) (RV.tmp (v := .int .i64 2) rfl) (List.sublist_append_left [rC x_9.a0 x_9.c0 m_10.s, rS x_9.a1 x_9.c1 m_10.r, rS x_9.a2 x_9.c2 m_10.w] [mb b_2 x_9 m_10, mb b_1 x_9 m_10]) ?_
      exact ⟨x_9, m_10, 2, (by simp only [MS.unlinkName, e_3, h_6, e_7, h_13, if_true, if_false, Bool.false_eq_true, Bool.not_true, Bool.not_false]; (repeat (first | rw [if_pos (by omega)] | rw [if_neg (by omega)])); all_goals (first | rfl | simp only [if_true, if_false, Bool.false_eq_true, Bool.not_true, Bool.not_false, e_3, h_6, e_7, h_13])), (k_8.mono (by omega) (by omega)), (by first | omega | (simp only [List.length_append, List.length_cons, List.length_nil, List.length_take, List.length_drop]; omega)), rfl, rfl⟩
    · skip
      refine JC.condF (congrArg Value.bool (decide_eq_false h_13)) ?_
      refine JC.skip ?_
      refine JQ.seq ?_
      refine JC.seq ?_
      refine JC.region ?_
      refine JL.ld rfl (LO.loadK 4 (vs := [.slice x_9.a0 m_10.s.length x_9.c0, .slice x_9.a1 m_10.r.length x_9.c1, .slice x_9.a2 m_10.w.length x_9.c2]) rfl rfl Tryz.isAgg32 Tryz.sizeOf32 rfl rfl) ?_
      refine JL.pure rfl (PO.move (v := str name) rfl) ?_
      refine JL.pure rfl (PO.addS rfl rfl (by (try simp only [List.length_append, List.length_cons, List.length_nil, List.length_drop, List.length_take]); omega)) ?_
      refine JL.op rfl (JO.call [0, 0, 0] Tryz.call80 rfl (N_sLayNil x_9 m_10 k_8 (by omega) (by omega) ([110, 47] ++ name) (by first | omega | (simp only [List.length_append, List.length_cons, List.length_nil, List.length_take, List.length_drop]; omega))) rfl (fun _ _ => trivial)) ?_
      rintro _ _ ⟨_, ⟨x_16, m_17, e_14, k_15, rfl, rfl⟩, rfl⟩
      refine JL.op rfl (JO.store 4 (vs := [.slice x_16.a0 m_17.s.length x_16.c0, .slice x_16.a1 m_17.r.length x_16.c1, .slice x_16.a2 m_17.w.length x_16.c2]) (cs' := [.slice x_16.a0 m_17.s.length x_16.c0, .slice x_16.a1 m_17.r.length x_16.c1, .slice x_16.a2 m_17.w.length x_16.c2]) rfl rfl rfl rfl Tryz.sizeOf32 rfl rfl (Nat.le_of_ble_eq_true rfl) rfl) ?_
      rintro _ _ rfl
      refine JL.nil ?_
      refine JQ.seq ?_
      refine JC.seq ?_
      refine JC.regionA [] 8 mixed (by simp) ?_
      refine JA.take 1 rfl (by kernel_rfl) (NP.th NP.body) (by kernel_rfl) (by kernel_rfl) (by kernel_rfl) rfl (LO.pure (PO.move (v := .int .i64 n_11) rfl)) ?_
      refine JA.two (i := 0) (j := 2) (by kernel_rfl) ?_ ?_
      · skip
        refine JX.op rfl rfl (JO.ofLO (LO.loadK 4 (vs := [.slice x_16.a0 m_17.s.length x_16.c0, .slice x_16.a1 m_17.r.length x_16.c1, .slice x_16.a2 m_17.w.length x_16.c2]) rfl rfl Tryz.isAgg32 Tryz.sizeOf32 rfl rfl)) ?_
        rintro _ _ ⟨rfl, rfl⟩
        refine ⟨(fun _ h => by cases h), ?_⟩
        refine JA.one (i := 2) (by kernel_rfl) ?_
        refine JX.op rfl rfl (JO.call [] Tryz.call111 rfl (N_sKeyNum [105, 47] n_11 [47, 108] (show List.length ([105, 47] : Str) ≤ 2 by decide) (by omega) (show List.length ([47, 108] : Str) ≤ 2 by decide) (by omega)) rfl (fun _ _ => trivial)) ?_
        rintro _ _ ⟨_, ⟨u_28, e_26, f_29, rfl, rfl⟩, rfl⟩
        refine ⟨(fun _ h => by cases h), ?_⟩
        refine JA.one (i := 3) (by kernel_rfl) ?_
        refine JX.op rfl rfl (JO.call [0, 0, 0] Tryz.call77 rfl (N_sNumAt x_16 m_17 k_15 (by omega) (by omega) u_28) rfl (fun _ _ => trivial)) ?_
        rintro _ _ ⟨_, ⟨x_38, m_39, n_40, e_36, k_37, f_41, rfl, rfl⟩, rfl⟩
        refine ⟨(fun _ h => by cases h), ?_⟩
        refine JA.take 4 rfl (by kernel_rfl) (NP.th NP.body) (by kernel_rfl) (by kernel_rfl) (by kernel_rfl) rfl (LO.pure (PO.move (v := .tuple #[mv x_38 m_39, .int .i64 n_40]) rfl)) ?_
        refine JA.take 5 rfl (by kernel_rfl) (NP.th NP.body) (by kernel_rfl) (by kernel_rfl) (by kernel_rfl) rfl (LO.pure (PO.extract (v := mv x_38 m_39) rfl rfl)) ?_
        refine JA.take 6 rfl (by kernel_rfl) (NP.th NP.body) (by kernel_rfl) (by kernel_rfl) (by kernel_rfl) rfl (LO.pure (PO.extract (v := .int .i64 n_40) rfl rfl)) ?_
        refine JA.one (i := 7) (by kernel_rfl) ?_
        refine JX.op rfl rfl (JO.store 4 (vs := [.slice x_38.a0 m_39.s.length x_38.c0, .slice x_38.a1 m_39.r.length x_38.c1, .slice x_38.a2 m_39.w.length x_38.c2]) (cs' := [.slice x_38.a0 m_39.s.length x_38.c0, .slice x_38.a1 m_39.r.length x_38.c1, .slice x_38.a2 m_39.w.length x_38.c2]) rfl rfl rfl rfl Tryz.sizeOf32 rfl rfl (Nat.le_of_ble_eq_true rfl) rfl) ?_
        rintro _ _ rfl
        refine ⟨(fun _ h => by cases h), ?_⟩
        refine JA.take 8 rfl (by kernel_rfl) (NP.th NP.body) (by kernel_rfl) (by kernel_rfl) (by kernel_rfl) rfl (LO.pure (PO.assign (v := .int .i64 n_40) rfl)) ?_
        refine JA.done (by kernel_rfl) ?_
        refine JQ.seq ?_
        refine JC.seq ?_
        refine JC.seq ?_
        refine JC.region ?_
        refine JL.pure rfl (PO.move (v := .int .i64 n_40) rfl) ?_
        refine JL.pure rfl (PO.gtr rfl rfl) ?_
        refine JL.nil ?_
        refine JQ.seq ?_
        by_cases h_42 : 1 < n_40
        · skip
          refine JC.condT (congrArg Value.bool (decide_eq_true h_42)) ?_
          refine JC.seq ?_
          refine JC.regionA [mb b_1 x_38 m_39] 7 mixed (by simp) ?_
          refine JA.take 0 rfl (by kernel_rfl) (NP.th (NP.th NP.body)) (by kernel_rfl) (by kernel_rfl) (by kernel_rfl) rfl (LO.loadK 0 (vs := [.slice x_38.a0 m_39.s.length x_38.c0, .slice x_38.a1 m_39.r.length x_38.c1, .slice x_38.a2 m_39.w.length x_38.c2]) rfl rfl Tryz.isAgg32 Tryz.sizeOf32 rfl rfl) ?_
          refine JA.take 1 rfl (by kernel_rfl) (NP.th (NP.th NP.body)) (by kernel_rfl) (by kernel_rfl) (by kernel_rfl) rfl (LO.pure (PO.move (v := .int .i64 n_11) rfl)) ?_
          refine JA.take 3 rfl (by kernel_rfl) (NP.th (NP.th NP.body)) (by kernel_rfl) (by kernel_rfl) (by kernel_rfl) rfl (LO.pure (PO.move (v := .int .i64 n_40) rfl)) ?_
          refine JA.take 4 rfl (by kernel_rfl) (NP.th (NP.th NP.body)) (by kernel_rfl) (by kernel_rfl) (by kernel_rfl) rfl (LO.pure (PO.sub (c := n_40 - 1) rfl rfl (wr (by omega)))) ?_
          refine JA.one (i := 2) (by kernel_rfl) ?_
          refine JX.op rfl rfl (JO.call [] Tryz.call111 rfl (N_sKeyNum [105, 47] n_11 [47, 108] (show List.length ([105, 47] : Str) ≤ 2 by decide) (by omega) (show List.length ([47, 108] : Str) ≤ 2 by decide) (by omega)) rfl (fun _ _ => trivial)) ?_
          rintro _ _ ⟨_, ⟨u_57, e_55, f_58, rfl, rfl⟩, rfl⟩
          have hqe_55 := e_26.symm.trans e_55
          subst hqe_55
          refine ⟨(by simp), ?_⟩
          refine JA.one (i := 5) (by kernel_rfl) ?_
          refine JX.op rfl rfl (JO.call [0, 0, 0] Tryz.call81 rfl (N_sSetNum x_38 m_39 k_37 (by omega) (by omega) u_28 (n_40 - 1) (by omega) (by omega)) rfl (fun _ _ => trivial)) ?_
          rintro _ _ ⟨_, ⟨x_65, m_66, e_63, k_64, rfl, rfl⟩, rfl⟩
          refine ⟨(by simp), ?_⟩
          refine JA.one (i := 6) (by kernel_rfl) ?_
          refine JX.op rfl rfl (JO.store 3 (vs := [.slice x_65.a0 m_66.s.length x_65.c0, .slice x_65.a1 m_66.r.length x_65.c1, .slice x_65.a2 m_66.w.length x_65.c2]) (cs' := [.slice x_65.a0 m_66.s.length x_65.c0, .slice x_65.a1 m_66.r.length x_65.c1, .slice x_65.a2 m_66.w.length x_65.c2]) rfl rfl rfl rfl Tryz.sizeOf32 rfl rfl (Nat.le_of_ble_eq_true rfl) rfl) ?_
          rintro _ _ rfl
          refine ⟨(by simp), ?_⟩
          refine JA.take 7 rfl (by kernel_rfl) (NP.th (NP.th NP.body)) (by kernel_rfl) (by kernel_rfl) (by kernel_rfl) rfl (LO.pure (PO.assign (v := .int .i64 0) rfl)) ?_
          refine JA.done (by kernel_rfl) ?_
          refine JQ.seq ?_
          refine JC.ret ?_
          refine JQ.thenRet ?_
          refine Done.two (.inl rfl) rfl (RV.cell1 (LO.loadK 3 (vs := [.slice x_65.a0 m_66.s.length x_65.c0, .slice x_65.a1 m_66.r.length x_65.c1, .slice x_65.a2 m_66.w.length x_65.c2]) rfl rfl Tryz.isAgg32 Tryz.sizeOf32 rfl rfl) ⟨_, rfl⟩) (RV.tmp (v := .int .i64 0) rfl) (List.sublist_append_left [rC x_65.a0 x_65.c0 m_66.s, rS x_65.a1 x_65.c1 m_66.r, rS x_65.a2 x_65.c2 m_66.w] [mb b_2 x_65 m_66, mb b_1 x_38 m_39]) ?_
          exact ⟨x_65, m_66, 0, (by simp only [MS.unlinkName, e_3, h_6, e_7, h_13, e_14, e_26, e_36, h_42, e_63, if_true, if_false, Bool.false_eq_true, Bool.not_true, Bool.not_false]; (repeat (first | rw [if_pos (by omega)] | rw [if_neg (by omega)])); all_goals (first | rfl | simp only [if_true, if_false, Bool.false_eq_true, Bool.not_true, Bool.not_false, e_3, h_6, e_7, h_13, e_14, e_26, e_36, h_42, e_63])), (k_64.mono (by omega) (by omega)), (by first | omega | (simp only [List.length_append, List.length_cons, List.length_nil, List.length_take, List.length_drop]; omega)), rfl, rfl⟩
        · skip
          refine JC.condF (congrArg Value.bool (decide_eq_false h_42)) ?_
          refine JC.skip ?_
          refine JQ.seq ?_
          refine JC.seq ?_
          refine JC.regionA [mb b_1 x_38 m_39] 5 mixed (by simp) ?_
          refine JA.take 0 rfl (by kernel_rfl) (NP.th NP.body) (by kernel_rfl) (by kernel_rfl) (by kernel_rfl) rfl (LO.loadK 0 (vs := [.slice x_38.a0 m_39.s.length x_38.c0, .slice x_38.a1 m_39.r.length x_38.c1, .slice x_38.a2 m_39.w.length x_38.c2]) rfl rfl Tryz.isAgg32 Tryz.sizeOf32 rfl rfl) ?_
          refine JA.take 1 rfl (by kernel_rfl) (NP.th NP.body) (by kernel_rfl) (by kernel_rfl) (by kernel_rfl) rfl (LO.pure (PO.move (v := .int .i64 n_11) rfl)) ?_
          refine JA.one (i := 2) (by kernel_rfl) ?_
          refine JX.op rfl rfl (JO.call [] Tryz.call111 rfl (N_sKeyNum [105, 47] n_11 [47] (show List.length ([105, 47] : Str) ≤ 2 by decide) (by omega) (show List.length ([47] : Str) ≤ 1 by decide) (by omega)) rfl (fun _ _ => trivial)) ?_
          rintro _ _ ⟨_, ⟨u_73, e_71, f_74, rfl, rfl⟩, rfl⟩
          refine ⟨(by simp), ?_⟩
          refine JA.one (i := 3) (by kernel_rfl) ?_
          refine JX.op rfl rfl (JO.call [0, 0, 0] Tryz.call107 rfl (M_wipe x_38 m_39 k_37 (by omega) (by omega) u_73 (by omega)) rfl (fun _ _ => trivial)) ?_
          rintro _ _ ⟨_, ⟨x_81, m_82, e_79, k_80, rfl, rfl⟩, rfl⟩
          refine ⟨(by simp), ?_⟩
          refine JA.one (i := 4) (by kernel_rfl) ?_
          refine JX.op rfl rfl (JO.store 3 (vs := [.slice x_81.a0 m_82.s.length x_81.c0, .slice x_81.a1 m_82.r.length x_81.c1, .slice x_81.a2 m_82.w.length x_81.c2]) (cs' := [.slice x_81.a0 m_82.s.length x_81.c0, .slice x_81.a1 m_82.r.length x_81.c1, .slice x_81.a2 m_82.w.length x_81.c2]) rfl rfl rfl rfl Tryz.sizeOf32 rfl rfl (Nat.le_of_ble_eq_true rfl) rfl) ?_
          rintro _ _ rfl
          refine ⟨(by simp), ?_⟩
          refine JA.take 5 rfl (by kernel_rfl) (NP.th NP.body) (by kernel_rfl) (by kernel_rfl) (by kernel_rfl) rfl (LO.pure (PO.assign (v := .int .i64 0) rfl)) ?_
          refine JA.done (by kernel_rfl) ?_
          refine JQ.seq ?_
          refine JC.ret ?_
          refine Done.two (.inl rfl) rfl (RV.cell1 (LO.loadK 3 (vs := [.slice x_81.a0 m_82.s.length x_81.c0, .slice x_81.a1 m_82.r.length x_81.c1, .slice x_81.a2 m_82.w.length x_81.c2]) rfl rfl Tryz.isAgg32 Tryz.sizeOf32 rfl rfl) ⟨_, rfl⟩) (RV.tmp (v := .int .i64 0) rfl) (List.sublist_append_left [rC x_81.a0 x_81.c0 m_82.s, rS x_81.a1 x_81.c1 m_82.r, rS x_81.a2 x_81.c2 m_82.w] [mb b_2 x_81 m_82, mb b_1 x_38 m_39]) ?_
          exact ⟨x_81, m_82, 0, (by simp only [MS.unlinkName, e_3, h_6, e_7, h_13, e_14, e_26, e_36, h_42, e_71, e_79, if_true, if_false, Bool.false_eq_true, Bool.not_true, Bool.not_false]; (repeat (first | rw [if_pos (by omega)] | rw [if_neg (by omega)])); all_goals (first | rfl | simp only [if_true, if_false, Bool.false_eq_true, Bool.not_true, Bool.not_false, e_3, h_6, e_7, h_13, e_14, e_26, e_36, h_42, e_71, e_79])), (k_80.mono (by omega) (by omega)), (by first | omega | (simp only [List.length_append, List.length_cons, List.length_nil, List.length_take, List.length_drop]; omega)), rfl, rfl⟩
      · skip
        refine JX.op rfl rfl (JO.call [] Tryz.call111 rfl (N_sKeyNum [105, 47] n_11 [47, 108] (show List.length ([105, 47] : Str) ≤ 2 by decide) (by omega) (show List.length ([47, 108] : Str) ≤ 2 by decide) (by omega)) rfl (fun _ _ => trivial)) ?_
        rintro _ _ ⟨_, ⟨u_85, e_83, f_86, rfl, rfl⟩, rfl⟩
        refine ⟨(fun _ h => by cases h), ?_⟩
        refine JA.one (i := 0) (by kernel_rfl) ?_
        refine JX.op rfl rfl (JO.ofLO (LO.loadK 4 (vs := [.slice x_16.a0 m_17.s.length x_16.c0, .slice x_16.a1 m_17.r.length x_16.c1, .slice x_16.a2 m_17.w.length x_16.c2]) rfl rfl Tryz.isAgg32 Tryz.sizeOf32 rfl rfl)) ?_
        rintro _ _ ⟨rfl, rfl⟩
        refine ⟨(fun _ h => by cases h), ?_⟩
        refine JA.one (i := 3) (by kernel_rfl) ?_
        refine JX.op rfl rfl (JO.call [0, 0, 0] Tryz.call77 rfl (N_sNumAt x_16 m_17 k_15 (by omega) (by omega) u_85) rfl (fun _ _ => trivial)) ?_
        rintro _ _ ⟨_, ⟨x_95, m_96, n_97, e_93, k_94, f_98, rfl, rfl⟩, rfl⟩
        refine ⟨(fun _ h => by cases h), ?_⟩
        refine JA.take 4 rfl (by kernel_rfl) (NP.th NP.body) (by kernel_rfl) (by kernel_rfl) (by kernel_rfl) rfl (LO.pure (PO.move (v := .tuple #[mv x_95 m_96, .int .i64 n_97]) rfl)) ?_
        refine JA.take 5 rfl (by kernel_rfl) (NP.th NP.body) (by kernel_rfl) (by kernel_rfl) (by kernel_rfl) rfl (LO.pure (PO.extract (v := mv x_95 m_96) rfl rfl)) ?_
        refine JA.take 6 rfl (by kernel_rfl) (NP.th NP.body) (by kernel_rfl) (by kernel_rfl) (by kernel_rfl) rfl (LO.pure (PO.extract (v := .int .i64 n_97) rfl rfl)) ?_
        refine JA.one (i := 7) (by kernel_rfl) ?_
        refine JX.op rfl rfl (JO.store 4 (vs := [.slice x_95.a0 m_96.s.length x_95.c0, .slice x_95.a1 m_96.r.length x_95.c1, .slice x_95.a2 m_96.w.length x_95.c2]) (cs' := [.slice x_95.a0 m_96.s.length x_95.c0, .slice x_95.a1 m_96.r.length x_95.c1, .slice x_95.a2 m_96.w.length x_95.c2]) rfl rfl rfl rfl Tryz.sizeOf32 rfl rfl (Nat.le_of_ble_eq_true rfl) rfl) ?_
        rintro _ _ rfl
        refine ⟨(fun _ h => by cases h), ?_⟩
        refine JA.take 8 rfl (by kernel_rfl) (NP.th NP.body) (by kernel_rfl) (by kernel_rfl) (by kernel_rfl) rfl (LO.pure (PO.assign (v := .int .i64 n_97) rfl)) ?_
        refine JA.done (by kernel_rfl) ?_
        refine JQ.seq ?_
        refine JC.seq ?_
        refine JC.seq ?_
        refine JC.region ?_
        refine JL.pure rfl (PO.move (v := .int .i64 n_97) rfl) ?_
        refine JL.pure rfl (PO.gtr rfl rfl) ?_
        refine JL.nil ?_
        refine JQ.seq ?_
        by_cases h_99 : 1 < n_97
        · skip
          refine JC.condT (congrArg Value.bool (decide_eq_true h_99)) ?_
          refine JC.seq ?_
          refine JC.regionA [mb b_1 x_95 m_96] 7 mixed (by simp) ?_
          refine JA.take 0 rfl (by kernel_rfl) (NP.th (NP.th NP.body)) (by kernel_rfl) (by kernel_rfl) (by kernel_rfl) rfl (LO.loadK 0 (vs := [.slice x_95.a0 m_96.s.length x_95.c0, .slice x_95.a1 m_96.r.length x_95.c1, .slice x_95.a2 m_96.w.length x_95.c2]) rfl rfl Tryz.isAgg32 Tryz.sizeOf32 rfl rfl) ?_
          refine JA.take 1 rfl (by kernel_rfl) (NP.th (NP.th NP.body)) (by kernel_rfl) (by kernel_rfl) (by kernel_rfl) rfl (LO.pure (PO.move (v := .int .i64 n_11) rfl)) ?_
          refine JA.take 3 rfl (by kernel_rfl) (NP.th (NP.th NP.body)) (by kernel_rfl) (by kernel_rfl) (by kernel_rfl) rfl (LO.pure (PO.move (v := .int .i64 n_97) rfl)) ?_
          refine JA.take 4 rfl (by kernel_rfl) (NP.th (NP.th NP.body)) (by kernel_rfl) (by kernel_rfl) (by kernel_rfl) rfl (LO.pure (PO.sub (c := n_97 - 1) rfl rfl (wr (by omega)))) ?_
          refine JA.one (i := 2) (by kernel_rfl) ?_
          refine JX.op rfl rfl (JO.call [] Tryz.call111 rfl (N_sKeyNum [105, 47] n_11 [47, 108] (show List.length ([105, 47] : Str) ≤ 2 by decide) (by omega) (show List.length ([47, 108] : Str) ≤ 2 by decide) (by omega)) rfl (fun _ _ => trivial)) ?_
          rintro _ _ ⟨_, ⟨u_114, e_112, f_115, rfl, rfl⟩, rfl⟩
          have hqe_112 := e_83.symm.trans e_112
          subst hqe_112
          refine ⟨(by simp), ?_⟩
          refine JA.one (i := 5) (by kernel_rfl) ?_
          refine JX.op rfl rfl (JO.call [0, 0, 0] Tryz.call81 rfl (N_sSetNum x_95 m_96 k_94 (by omega) (by omega) u_85 (n_97 - 1) (by omega) (by omega)) rfl (fun _ _ => trivial)) ?_
          rintro _ _ ⟨_, ⟨x_122, m_123, e_120, k_121, rfl, rfl⟩, rfl⟩
          refine ⟨(by simp), ?_⟩
          refine JA.one (i := 6) (by kernel_rfl) ?_
          refine JX.op rfl rfl (JO.store 3 (vs := [.slice x_122.a0 m_123.s.length x_122.c0, .slice x_122.a1 m_123.r.length x_122.c1, .slice x_122.a2 m_123.w.length x_122.c2]) (cs' := [.slice x_122.a0 m_123.s.length x_122.c0, .slice x_122.a1 m_123.r.length x_122.c1, .slice x_122.a2 m_123.w.length x_122.c2]) rfl rfl rfl rfl Tryz.sizeOf32 rfl rfl (Nat.le_of_ble_eq_true rfl) rfl) ?_
          rintro _ _ rfl
          refine ⟨(by simp), ?_⟩
          refine JA.take 7 rfl (by kernel_rfl) (NP.th (NP.th NP.body)) (by kernel_rfl) (by kernel_rfl) (by kernel_rfl) rfl (LO.pure (PO.assign (v := .int .i64 0) rfl)) ?_
          refine JA.done (by kernel_rfl) ?_
          refine JQ.seq ?_
          refine JC.ret ?_
          refine JQ.thenRet ?_
          refine Done.two (.inl rfl) rfl (RV.cell1 (LO.loadK 3 (vs := [.slice x_122.a0 m_123.s.length x_122.c0, .slice x_122.a1 m_123.r.length x_122.c1, .slice x_122.a2 m_123.w.length x_122.c2]) rfl rfl Tryz.isAgg32 Tryz.sizeOf32 rfl rfl) ⟨_, rfl⟩) (RV.tmp (v := .int .i64 0) rfl) (List.sublist_append_left [rC x_122.a0 x_122.c0 m_123.s, rS x_122.a1 x_122.c1 m_123.r, rS x_122.a2 x_122.c2 m_123.w] [mb b_2 x_122 m_123, mb b_1 x_95 m_96]) ?_
          exact ⟨x_122, m_123, 0, (by simp only [MS.unlinkName, e_3, h_6, e_7, h_13, e_14, e_83, e_93, h_99, e_120, if_true, if_false, Bool.false_eq_true, Bool.not_true, Bool.not_false]; (repeat (first | rw [if_pos (by omega)] | rw [if_neg (by omega)])); all_goals (first | rfl | simp only [if_true, if_false, Bool.false_eq_true, Bool.not_true, Bool.not_false, e_3, h_6, e_7, h_13, e_14, e_83, e_93, h_99, e_120])), (k_121.mono (by omega) (by omega)), (by first | omega | (simp only [List.length_append, List.length_cons, List.length_nil, List.length_take, List.length_drop]; omega)), rfl, rfl⟩
        · skip
          refine JC.condF (congrArg Value.bool (decide_eq_false h_99)) ?_
          refine JC.skip ?_
          refine JQ.seq ?_
          refine JC.seq ?_
          refine JC.regionA [mb b_1 x_95 m_96] 5 mixed (by simp) ?_
          refine JA.take 0 rfl (by kernel_rfl) (NP.th NP.body) (by kernel_rfl) (by kernel_rfl) (by kernel_rfl) rfl (LO.loadK 0 (vs := [.slice x_95.a0 m_96.s.length x_95.c0, .slice x_95.a1 m_96.r.length x_95.c1, .slice x_95.a2 m_96.w.length x_95.c2]) rfl rfl Tryz.isAgg32 Tryz.sizeOf32 rfl rfl) ?_
          refine JA.take 1 rfl (by kernel_rfl) (NP.th NP.body) (by kernel_rfl) (by kernel_rfl) (by kernel_rfl) rfl (LO.pure (PO.move (v := .int .i64 n_11) rfl)) ?_
          refine JA.one (i := 2) (by kernel_rfl) ?_
          refine JX.op rfl rfl (JO.call [] Tryz.call111 rfl (N_sKeyNum [105, 47] n_11 [47] (show List.length ([105, 47] : Str) ≤ 2 by decide) (by omega) (show List.length ([47] : Str) ≤ 1 by decide) (by omega)) rfl (fun _ _ => trivial)) ?_
          rintro _ _ ⟨_, ⟨u_130, e_128, f_131, rfl, rfl⟩, rfl⟩
          refine ⟨(by simp), ?_⟩
          refine JA.one (i := 3) (by kernel_rfl) ?_
          refine JX.op rfl rfl (JO.call [0, 0, 0] Tryz.call107 rfl (M_wipe x_95 m_96 k_94 (by omega) (by omega) u_130 (by omega)) rfl (fun _ _ => trivial)) ?_
          rintro _ _ ⟨_, ⟨x_138, m_139, e_136, k_137, rfl, rfl⟩, rfl⟩
          refine ⟨(by simp), ?_⟩
          refine JA.one (i := 4) (by kernel_rfl) ?_
          refine JX.op rfl rfl (JO.store 3 (vs := [.slice x_138.a0 m_139.s.length x_138.c0, .slice x_138.a1 m_139.r.length x_138.c1, .slice x_138.a2 m_139.w.length x_138.c2]) (cs' := [.slice x_138.a0 m_139.s.length x_138.c0, .slice x_138.a1 m_139.r.length x_138.c1, .slice x_138.a2 m_139.w.length x_138.c2]) rfl rfl rfl rfl Tryz.sizeOf32 rfl rfl (Nat.le_of_ble_eq_true rfl) rfl) ?_
          rintro _ _ rfl
          refine ⟨(by simp), ?_⟩
          refine JA.take 5 rfl (by kernel_rfl) (NP.th NP.body) (by kernel_rfl) (by kernel_rfl) (by kernel_rfl) rfl (LO.pure (PO.assign (v := .int .i64 0) rfl)) ?_
          refine JA.done (by kernel_rfl) ?_
          refine JQ.seq ?_
          refine JC.ret ?_
          refine Done.two (.inl rfl) rfl (RV.cell1 (LO.loadK 3 (vs := [.slice x_138.a0 m_139.s.length x_138.c0, .slice x_138.a1 m_139.r.length x_138.c1, .slice x_138.a2 m_139.w.length x_138.c2]) rfl rfl Tryz.isAgg32 Tryz.sizeOf32 rfl rfl) ⟨_, rfl⟩) (RV.tmp (v := .int .i64 0) rfl) (List.sublist_append_left [rC x_138.a0 x_138.c0 m_139.s, rS x_138.a1 x_138.c1 m_139.r, rS x_138.a2 x_138.c2 m_139.w] [mb b_2 x_138 m_139, mb b_1 x_95 m_96]) ?_
          exact ⟨x_138, m_139, 0, (by simp only [MS.unlinkName, e_3, h_6, e_7, h_13, e_14, e_83, e_93, h_99, e_128, e_136, if_true, if_false, Bool.false_eq_true, Bool.not_true, Bool.not_false]; (repeat (first | rw [if_pos (by omega)] | rw [if_neg (by omega)])); all_goals (first | rfl | simp only [if_true, if_false, Bool.false_eq_true, Bool.not_true, Bool.not_false, e_3, h_6, e_7, h_13, e_14, e_83, e_93, h_99, e_128, e_136])), (k_137.mono (by omega) (by omega)), (by first | omega | (simp only [List.length_append, List.length_cons, List.length_nil, List.length_take, List.length_drop]; omega)), rfl, rfl⟩
  · skip
    refine JC.condT (congrArg Value.bool (congrArg Bool.not h_6)) ?_
    refine JC.seq ?_
    refine JC.region ?_
    refine JL.ld rfl (LO.loadK 1 (vs := [.slice x.a0 m.s.length x.c0, .slice x.a1 m.r.length x.c1, .slice x.a2 m.w.length x.c2]) rfl rfl Tryz.isAgg32 Tryz.sizeOf32 rfl rfl) ?_
    refine JL.op rfl (JO.store 0 (vs := [.slice x.a0 m.s.length x.c0, .slice x.a1 m.r.length x.c1, .slice x.a2 m.w.length x.c2]) (cs' := [.slice x.a0 m.s.length x.c0, .slice x.a1 m.r.length x.c1, .slice x.a2 m.w.length x.c2]) rfl rfl rfl rfl Tryz.sizeOf32 rfl rfl (Nat.le_of_ble_eq_true rfl) rfl) ?_
    rintro _ _ rfl
    refine JL.pure rfl (PO.assign (v := .int .i64 4) rfl) ?_
    refine JL.nil ?_
    refine JQ.seq ?_
    refine JC.ret ?_
    refine JQ.thenRet ?_
    refine JQ.perm (pick_perm [2, 2, 2] (A := [rC x.a0 x.c0 m.s, rS x.a1 x.c1 m.r, rS x.a2 x.c2 m.w]) (F := [mb b_2 x m, mb b_1 x m]) rfl).symm ?_
    refine Done.two (.inl rfl) rfl (RV.cell1 (LO.loadK 3 (vs := [.slice x.a0 m.s.length x.c0, .slice x.a1 m.r.length x.c1, .slice x.a2 m.w.length x.c2]) rfl rfl Tryz.isAgg32 Tryz.sizeOf32 rfl rfl) ⟨_, rfl⟩) (RV.tmp (v := .int .i64 4) rfl) (List.sublist_append_left [rC x.a0 x.c0 m.s, rS x.a1 x.c1 m.r, rS x.a2 x.c2 m.w] [mb b_2 x m, mb b_1 x m]) ?_
    exact ⟨x, m, 4, (by simp only [MS.unlinkName, e_3, h_6, if_true, if_false, Bool.false_eq_true, Bool.not_true, Bool.not_false]; (repeat (first | rw [if_pos (by omega)] | rw [if_neg (by omega)])); all_goals (first | rfl | simp only [if_true, if_false, Bool.false_eq_true, Bool.not_true, Bool.not_false, e_3, h_6])), (hk.mono (by omega) (by omega)), (by first | omega | (simp only [List.length_append, List.length_cons, List.length_nil, List.length_take, List.length_drop]; omega)), rfl, rfl⟩

theorem N_renameName (p : Nat) (x : MA) (m : MS) {S T : Nat} (hk : m.ok S T) (hS : S ≤ 30000000) (hT : T ≤ 30000000) (from_ : Str) (to_ : Str) (hfrom_ : from_.length ≤ 100000000) (hto_ : to_.length ≤ 100000000) :
    Ct Tryz.prog 74 [.pointer (some ⟨p, 0, none⟩), str from_, str to_] (mb p x m :: mr x m) (fun _ => True) (fun v A' => ∃ x' m' r0, MS.renameName m from_ to_ = (m', r0) ∧ m'.ok (S + 2) (T + S + 8) ∧ (0 ≤ r0 ∧ r0 ≤ 9) ∧ v = .int .i64 r0 ∧ A' = mb p x' m' :: mr x' m') := by
  refine Ct.intro Tryz.func74 rfl Tryz.ntmps74 (Nat.le_of_ble_eq_true rfl) fun w0 hpre => ?_
  refine JC.seq ?_
  refine JC.region ?_
  refine JL.pure rfl (PO.assign (v := .int .i64 0) rfl) ?_
  refine JL.nil ?_
  refine JQ.seq ?_
  refine JC.seq ?_
  refine JC.seq ?_
  refine JC.region ?_
  refine JL.pure rfl (PO.move (v := str from_) rfl) ?_
  refine JL.op rfl (JO.call [] Tryz.call112 rfl (N_nameOk from_ (by omega)) rfl (fun _ _ => trivial)) ?_
  rintro _ _ ⟨_, ⟨b_3, e_1, rfl, rfl⟩, rfl⟩
  refine JL.pure rfl (PO.not rfl) ?_
  refine JL.pure rfl (PO.move (v := .bool (!b_3)) rfl) ?_
  rcases Bool.eq_false_or_eq_true (b_3) with h_4 | h_4
  · skip
    refine JL.guardOn rfl rfl rfl (congrArg Value.bool (congrArg Bool.not h_4)) (JO.ofLO (LO.pure (PO.move (v := str to_) rfl))) ?_
    rintro _ _ ⟨rfl, rfl⟩
    refine JL.guardOn rfl rfl rfl (congrArg Value.bool (congrArg Bool.not h_4)) (JO.call [] Tryz.call112 rfl (N_nameOk to_ (by omega)) rfl (fun _ _ => trivial)) ?_
    rintro _ _ ⟨_, ⟨b_7, e_5, rfl, rfl⟩, rfl⟩
    refine JL.guardOn rfl rfl rfl (congrArg Value.bool (congrArg Bool.not h_4)) (JO.ofLO (LO.pure (PO.not rfl))) ?_
    rintro _ _ ⟨rfl, rfl⟩
    refine JL.pure rfl (PO.pickF (v := .bool (!b_7)) (congrArg Value.bool (congrArg Bool.not h_4)) rfl) ?_
    refine JL.nil ?_
    refine JQ.seq ?_
    rcases Bool.eq_false_or_eq_true (b_7) with h_8 | h_8
    · skip
      refine JC.condF (congrArg Value.bool (congrArg Bool.not h_8)) ?_
      refine JC.skip ?_
      refine JQ.seq ?_
      refine JC.seq ?_
      refine JC.region ?_
      refine JL.pure rfl (PO.move (v := .pointer (some ⟨p, 0, none⟩)) rfl) ?_
      refine JL.pure rfl (PO.move (v := str from_) rfl) ?_
      refine JL.op rfl (JO.call [0, 0, 0, 0] Tryz.call113 rfl (N_fileOf p x m hk (by omega) (by omega) from_ (by omega)) rfl (fun _ _ => trivial)) ?_
      rintro _ _ ⟨_, ⟨x_11, m_12, n_13, e_9, k_10, f_14, rfl, rfl⟩, rfl⟩
      refine JL.pure rfl (PO.assign (v := .int .i64 n_13) rfl) ?_
      refine JL.nil ?_
      refine JQ.seq ?_
      refine JC.seq ?_
      refine JC.seq ?_
      refine JC.region ?_
      refine JL.pure rfl (PO.move (v := .int .i64 n_13) rfl) ?_
      refine JL.pure rfl (PO.eqlI rfl rfl) ?_
      refine JL.nil ?_
      refine JQ.seq ?_
      by_cases h_15 : n_13 = 0
      · skip
        refine JC.condT (congrArg Value.bool (decide_eq_true h_15)) ?_
        refine JC.seq ?_
        refine JC.region ?_
        refine JL.pure rfl (PO.assign (v := .int .i64 2) rfl) ?_
        refine JL.nil ?_
        refine JQ.seq ?_
        refine JC.ret ?_
        refine JQ.thenRet ?_
        refine Done.one (.inl rfl) rfl (RV.tmp (v := .int .i64 2) rfl) (List.Sublist.refl _) ?_
        exact ⟨x_11, m_12, 2, (by simp only [MS.renameName, e_1, h_4, e_5, h_8, e_9, h_15, if_true, if_false, Bool.false_eq_true, Bool.not_true, Bool.not_false]; (repeat (first | rw [if_pos (by omega)] | rw [if_neg (by omega)])); all_goals (first | rfl | simp only [if_true, if_false, Bool.false_eq_true, Bool.not_true, Bool.not_false, e_1, h_4, e_5, h_8, e_9, h_15])), (k_10.mono (by omega) (by omega)), (by first | omega | (simp only [List.length_append, List.length_cons, List.length_nil, List.length_take, List.length_drop]; omega)), rfl, rfl⟩
      · skip
        refine JC.condF (congrArg Value.bool (decide_eq_false h_15)) ?_
        refine JC.skip ?_
        refine JQ.seq ?_
        refine JC.seq ?_
        refine JC.seq ?_
        refine JC.region ?_
        refine JL.pure rfl (PO.move (v := .pointer (some ⟨p, 0, none⟩)) rfl) ?_
        refine JL.pure rfl (PO.move (v := str to_) rfl) ?_
        refine JL.op rfl (JO.call [0, 0, 0, 0] Tryz.call113 rfl (N_fileOf p x_11 m_12 k_10 (by omega) (by omega) to_ (by omega)) rfl (fun _ _ => trivial)) ?_
        rintro _ _ ⟨_, ⟨x_18, m_19, n_20, e_16, k_17, f_21, rfl, rfl⟩, rfl⟩
        refine JL.pure rfl (PO.assign (v := .int .i64 n_20) rfl) ?_
        refine JL.nil ?_
        refine JQ.seq ?_
        refine JC.block ?_
        refine JC.seq ?_
        refine JC.region ?_
        refine JL.pure rfl (PO.move (v := .int .i64 n_20) rfl) ?_
        refine JL.pure rfl (PO.move (v := .int .i64 n_13) rfl) ?_
        refine JL.pure rfl (PO.eqlI rfl rfl) ?_
        refine JL.pure rfl (PO.assign (v := .bool (decide (n_20 = n_13))) rfl) ?_
        refine JL.nil ?_
        refine JQ.seq ?_
        by_cases h_22 : n_20 = n_13
        · skip
          refine JC.condT (congrArg Value.bool (decide_eq_true h_22)) ?_
          refine JC.seq ?_
          refine JC.region ?_
          refine JL.pure rfl (PO.assign (v := .int .i64 0) rfl) ?_
          refine JL.nil ?_
          refine JQ.seq ?_
          refine JC.ret ?_
          refine JQ.blockRet ?_
          refine JQ.thenRet ?_
          refine Done.one (.inl rfl) rfl (RV.tmp (v := .int .i64 0) rfl) (List.Sublist.refl _) ?_
          exact ⟨x_18, m_19, 0, (by simp only [MS.renameName, e_1, h_4, e_5, h_8, e_9, h_15, e_16, h_22, if_true, if_false, Bool.false_eq_true, Bool.not_true, Bool.not_false]; (repeat (first | rw [if_pos (by omega)] | rw [if_neg (by omega)])); all_goals (first | rfl | simp only [if_true, if_false, Bool.false_eq_true, Bool.not_true, Bool.not_false, e_1, h_4, e_5, h_8, e_9, h_15, e_16, h_22])), (k_17.mono (by omega) (by omega)), (by first | omega | (simp only [List.length_append, List.length_cons, List.length_nil, List.length_take, List.length_drop]; omega)), rfl, rfl⟩
        · skip
          refine JC.condF (congrArg Value.bool (decide_eq_false h_22)) ?_
          refine JC.seq ?_
          refine JC.region ?_
          refine JL.pure rfl (PO.move (v := .int .i64 n_20) rfl) ?_
          refine JL.pure rfl (PO.neqI rfl rfl) ?_
          refine JL.pure rfl (PO.assign (v := .bool (!(decide (n_20 = 0)))) rfl) ?_
          refine JL.nil ?_
          refine JQ.seq ?_
          by_cases h_23 : n_20 = 0
          · skip
            refine JC.condF (congrArg Value.bool (congrArg Bool.not (decide_eq_true h_23))) ?_
            refine JC.skip ?_
            refine JQ.blockN ?_
            refine JQ.seq ?_
            refine JC.seq ?_
            refine JC.region ?_
            refine JL.pure rfl (PO.move (v := .pointer (some ⟨p, 0, none⟩)) rfl) ?_
            refine JL.pure rfl (PO.move (v := str to_) rfl) ?_
            refine JL.op rfl (JO.call [] Tryz.call115 rfl (N_nameKey to_ (by omega)) rfl (fun _ _ => trivial)) ?_
            rintro _ _ ⟨_, ⟨u_26, e_24, f_27, rfl, rfl⟩, rfl⟩
            refine JL.pure rfl (PO.move (v := .int .i64 n_13) rfl) ?_
            refine JL.op rfl (JO.call [0, 0, 0, 0] Tryz.call91 rfl (N_setNum p x_18 m_19 k_17 (by omega) (by omega) u_26 n_13 (by omega) (by omega)) rfl (fun _ _ => trivial)) ?_
            rintro _ _ ⟨_, ⟨x_30, m_31, e_28, k_29, rfl, rfl⟩, rfl⟩
            refine JL.nil ?_
            refine JQ.seq ?_
            refine JC.seq ?_
            refine JC.region ?_
            refine JL.pure rfl (PO.move (v := .pointer (some ⟨p, 0, none⟩)) rfl) ?_
            refine JL.pure rfl (PO.move (v := str from_) rfl) ?_
            refine JL.op rfl (JO.call [] Tryz.call115 rfl (N_nameKey from_ (by omega)) rfl (fun _ _ => trivial)) ?_
            rintro _ _ ⟨_, ⟨u_34, e_32, f_35, rfl, rfl⟩, rfl⟩
            refine JL.op rfl (JO.call [0, 0, 0, 0] Tryz.call90 rfl (N_layNil p x_30 m_31 k_29 (by omega) (by omega) u_34 (by omega)) rfl (fun _ _ => trivial)) ?_
            rintro _ _ ⟨_, ⟨x_38, m_39, e_36, k_37, rfl, rfl⟩, rfl⟩
            refine JL.nil ?_
            refine JQ.seq ?_
            refine JC.seq ?_
            refine JC.region ?_
            refine JL.pure rfl (PO.assign (v := .int .i64 0) rfl) ?_
            refine JL.nil ?_
            refine JQ.seq ?_
            refine JC.ret ?_
            refine Done.one (.inl rfl) rfl (RV.tmp (v := .int .i64 0) rfl) (List.Sublist.refl _) ?_
            exact ⟨x_38, m_39, 0, (by simp only [MS.renameName, e_1, h_4, e_5, h_8, e_9, h_15, e_16, h_22, h_23, e_24, e_28, e_32, e_36, if_true, if_false, Bool.false_eq_true, Bool.not_true, Bool.not_false]; (repeat (first | rw [if_pos (by omega)] | rw [if_neg (by omega)])); all_goals (first | rfl | simp only [if_true, if_false, Bool.false_eq_true, Bool.not_true, Bool.not_false, e_1, h_4, e_5, h_8, e_9, h_15, e_16, h_22, h_23, e_24, e_28, e_32, e_36])), (k_37.mono (by omega) (by omega)), (by first | omega | (simp only [List.length_append, List.length_cons, List.length_nil, List.length_take, List.length_drop]; omega)), rfl, rfl⟩
          · skip
            refine JC.condT (congrArg Value.bool (congrArg Bool.not (decide_eq_false h_23))) ?_
            refine JC.region ?_
            refine JL.pure rfl (PO.move (v := .pointer (some ⟨p, 0, none⟩)) rfl) ?_
            refine JL.pure rfl (PO.move (v := str to_) rfl) ?_
            refine JL.op rfl (JO.call [0, 0, 0, 0] Tryz.call70 rfl (N_unlinkName p x_18 m_19 k_17 (by omega) (by omega) to_ (by omega)) rfl (fun _ _ => trivial)) ?_
            rintro _ _ ⟨_, ⟨x_42, m_43, n_44, e_40, k_41, f_45, rfl, rfl⟩, rfl⟩
            refine JL.nil ?_
            refine JQ.blockN ?_
            refine JQ.seq ?_
            refine JC.seq ?_
            refine JC.region ?_
            refine JL.pure rfl (PO.move (v := .pointer (some ⟨p, 0, none⟩)) rfl) ?_
            refine JL.pure rfl (PO.move (v := str to_) rfl) ?_
            refine JL.op rfl (JO.call [] Tryz.call115 rfl (N_nameKey to_ (by omega)) rfl (fun _ _ => trivial)) ?_
            rintro _ _ ⟨_, ⟨u_48, e_46, f_49, rfl, rfl⟩, rfl⟩
            refine JL.pure rfl (PO.move (v := .int .i64 n_13) rfl) ?_
            refine JL.op rfl (JO.call [0, 0, 0, 0] Tryz.call91 rfl (N_setNum p x_42 m_43 k_41 (by omega) (by omega) u_48 n_13 (by omega) (by omega)) rfl (fun _ _ => trivial)) ?_
            rintro _ _ ⟨_, ⟨x_52, m_53, e_50, k_51, rfl, rfl⟩, rfl⟩
            refine JL.nil ?_
            refine JQ.seq ?_
            refine JC.seq ?_
            refine JC.region ?_
            refine JL.pure rfl (PO.move (v := .pointer (some ⟨p, 0, none⟩)) rfl) ?_
            refine JL.pure rfl (PO.move (v := str from_) rfl) ?_
            refine JL.op rfl (JO.call [] Tryz.call115 rfl (N_nameKey from_ (by omega)) rfl (fun _ _ => trivial)) ?_
            rintro _ _ ⟨_, ⟨u_56, e_54, f_57, rfl, rfl⟩, rfl⟩
            refine JL.op rfl (JO.call [0, 0, 0, 0] Tryz.call90 rfl (N_layNil p x_52 m_53 k_51 (by omega) (by omega) u_56 (by omega)) rfl (fun _ _ => trivial)) ?_
            rintro _ _ ⟨_, ⟨x_60, m_61, e_58, k_59, rfl, rfl⟩, rfl⟩
            refine JL.nil ?_
            refine JQ.seq ?_
            refine JC.seq ?_
            refine JC.region ?_
            refine JL.pure rfl (PO.assign (v := .int .i64 0) rfl) ?_
            refine JL.nil ?_
            refine JQ.seq ?_
            refine JC.ret ?_
            refine Done.one (.inl rfl) rfl (RV.tmp (v := .int .i64 0) rfl) (List.Sublist.refl _) ?_
            exact ⟨x_60, m_61, 0, (by simp only [MS.renameName, e_1, h_4, e_5, h_8, e_9, h_15, e_16, h_22, h_23, e_40, e_46, e_50, e_54, e_58, if_true, if_false, Bool.false_eq_true, Bool.not_true, Bool.not_false]; (repeat (first | rw [if_pos (by omega)] | rw [if_neg (by omega)])); all_goals (first | rfl | simp only [if_true, if_false, Bool.false_eq_true, Bool.not_true, Bool.not_false, e_1, h_4, e_5, h_8, e_9, h_15, e_16, h_22, h_23, e_40, e_46, e_50, e_54, e_58])), (k_59.mono (by omega) (by omega)), (by first | omega | (simp only [List.length_append, List.length_cons, List.length_nil, List.length_take, List.length_drop]; omega)), rfl, rfl⟩
    · skip
      refine JC.condT (congrArg Value.bool (congrArg Bool.not h_8)) ?_
      refine JC.seq ?_
      refine JC.region ?_
      refine JL.pure rfl (PO.assign (v := .int .i64 4) rfl) ?_
      refine JL.nil ?_
      refine JQ.seq ?_
      refine JC.ret ?_
      refine JQ.thenRet ?_
      refine Done.one (.inl rfl) rfl (RV.tmp (v := .int .i64 4) rfl) (List.Sublist.refl _) ?_
      exact ⟨x, m, 4, (by simp only [MS.renameName, e_1, h_4, e_5, h_8, if_true, if_false, Bool.false_eq_true, Bool.not_true, Bool.not_false]; (repeat (first | rw [if_pos (by omega)] | rw [if_neg (by omega)])); all_goals (first | rfl | simp only [if_true, if_false, Bool.false_eq_true, Bool.not_true, Bool.not_false, e_1, h_4, e_5, h_8])), (hk.mono (by omega) (by omega)), (by first | omega | (simp only [List.length_append, List.length_cons, List.length_nil, List.length_take, List.length_drop]; omega)), rfl, rfl⟩
  · skip
    refine JL.guardOff (b := true) rfl rfl rfl (congrArg Value.bool (congrArg Bool.not h_4)) ?_
    refine JL.guardOff (b := true) rfl rfl rfl (congrArg Value.bool (congrArg Bool.not h_4)) ?_
    refine JL.guardOff (b := true) rfl rfl rfl (congrArg Value.bool (congrArg Bool.not h_4)) ?_
    refine JL.pure rfl (PO.pickT (v := .bool true) (congrArg Value.bool (congrArg Bool.not h_4)) rfl) ?_
    refine JL.nil ?_
    refine JQ.seq ?_
    refine JC.condT (congrArg Value.bool rfl) ?_
    refine JC.seq ?_
    refine JC.region ?_
    refine JL.pure rfl (PO.assign (v := .int .i64 4) rfl) ?_
    refine JL.nil ?_
    refine JQ.seq ?_
    refine JC.ret ?_
    refine JQ.thenRet ?_
    refine Done.one (.inl rfl) rfl (RV.tmp (v := .int .i64 4) rfl) (List.Sublist.refl _) ?_
    exact ⟨x, m, 4, (by simp only [MS.renameName, e_1, h_4, if_true, if_false, Bool.false_eq_true, Bool.not_true, Bool.not_false]; (repeat (first | rw [if_pos (by omega)] | rw [if_neg (by omega)])); all_goals (first | rfl | simp only [if_true, if_false, Bool.false_eq_true, Bool.not_true, Bool.not_false, e_1, h_4])), (hk.mono (by omega) (by omega)), (by first | omega | (simp only [List.length_append, List.length_cons, List.length_nil, List.length_take, List.length_drop]; omega)), rfl, rfl⟩

theorem M_renameName (x : MA) (m : MS) {S T : Nat} (hk : m.ok S T) (hS : S ≤ 30000000) (hT : T ≤ 30000000) (from_ : Str) (to_ : Str) (hfrom_ : from_.length ≤ 100000000) (hto_ : to_.length ≤ 100000000) :
    Ct Tryz.prog 73 [mv x m, str from_, str to_] (mr x m) (fun _ => True) (fun v A' => ∃ x' m' r0, MS.renameName m from_ to_ = (m', r0) ∧ m'.ok (S + 2) (T + S + 8) ∧ (0 ≤ r0 ∧ r0 ≤ 9) ∧ v = .tuple #[mv x' m', .int .i64 r0] ∧ A' = mr x' m') := by
  refine Ct.intro Tryz.func73 rfl Tryz.ntmps73 (Nat.le_of_ble_eq_true rfl) fun w0 hpre => ?_
  refine JC.seq ?_
  refine JC.region ?_
  refine JL.op rfl (JO.box (cs := [.slice x.a0 m.s.length x.c0, .slice x.a1 m.r.length x.c1, .slice x.a2 m.w.length x.c2]) rfl rfl) ?_
  rintro _ _ ⟨b_1, rfl, rfl⟩
  refine JL.op rfl (JO.alloc (z := .agg #[.slice none 0 0, .slice none 0 0, .slice none 0 0]) (cs := [.slice none 0 0, .slice none 0 0, .slice none 0 0]) Tryz.zeroValue32 rfl) ?_
  rintro _ _ ⟨b_2, rfl, rfl⟩
  refine JL.pure rfl (PO.assign (v := .int .i64 0) rfl) ?_
  refine JL.nil ?_
  refine JQ.seq ?_
  refine JC.seq ?_
  refine JC.seq ?_
  refine JC.region ?_
  refine JL.pure rfl (PO.move (v := str from_) rfl) ?_
  refine JL.op rfl (JO.call [] Tryz.call109 rfl (N_sNameOk from_ (by omega)) rfl (fun _ _ => trivial)) ?_
  rintro _ _ ⟨_, ⟨b_5, e_3, rfl, rfl⟩, rfl⟩
  refine JL.pure rfl (PO.not rfl) ?_
  refine JL.pure rfl (PO.move (v := .bool (!b_5)) rfl) ?_
  rcases Bool.eq_false_or_eq_true (b_5) with h_6 | h_6
  · skip
    refine JL.guardOn rfl rfl rfl (congrArg Value.bool (congrArg Bool.not h_6)) (JO.ofLO (LO.pure (PO.move (v := str to_) rfl))) ?_
    rintro _ _ ⟨rfl, rfl⟩
    refine JL.guardOn rfl rfl rfl (congrArg Value.bool (congrArg Bool.not h_6)) (JO.call [] Tryz.call109 rfl (N_sNameOk to_ (by omega)) rfl (fun _ _ => trivial)) ?_
    rintro _ _ ⟨_, ⟨b_9, e_7, rfl, rfl⟩, rfl⟩
    refine JL.guardOn rfl rfl rfl (congrArg Value.bool (congrArg Bool.not h_6)) (JO.ofLO (LO.pure (PO.not rfl))) ?_
    rintro _ _ ⟨rfl, rfl⟩
    refine JL.pure rfl (PO.pickF (v := .bool (!b_9)) (congrArg Value.bool (congrArg Bool.not h_6)) rfl) ?_
    refine JL.nil ?_
    refine JQ.seq ?_
    rcases Bool.eq_false_or_eq_true (b_9) with h_10 | h_10
    · skip
      refine JC.condF (congrArg Value.bool (congrArg Bool.not h_10)) ?_
      refine JC.skip ?_
      refine JQ.seq ?_
      refine JC.seq ?_
      refine JC.region ?_
      refine JL.ld rfl (LO.loadK 1 (vs := [.slice x.a0 m.s.length x.c0, .slice x.a1 m.r.length x.c1, .slice x.a2 m.w.length x.c2]) rfl rfl Tryz.isAgg32 Tryz.sizeOf32 rfl rfl) ?_
      refine JL.pure rfl (PO.move (v := str from_) rfl) ?_
      refine JL.op rfl (JO.call [2, 2, 2] Tryz.call110 rfl (M_fileOf x m hk (by omega) (by omega) from_ (by omega)) rfl (fun _ _ => trivial)) ?_
      rintro _ _ ⟨_, ⟨x_13, m_14, n_15, e_11, k_12, f_16, rfl, rfl⟩, rfl⟩
      refine JL.pure rfl (PO.move (v := .tuple #[mv x_13 m_14, .int .i64 n_15]) rfl) ?_
      refine JL.pure rfl (PO.extract (v := mv x_13 m_14) rfl rfl) ?_
      refine JL.pure rfl (PO.extract (v := .int .i64 n_15) rfl rfl) ?_
      refine JL.op rfl (JO.store 4 (vs := [.slice x_13.a0 m_14.s.length x_13.c0, .slice x_13.a1 m_14.r.length x_13.c1, .slice x_13.a2 m_14.w.length x_13.c2]) (cs' := [.slice x_13.a0 m_14.s.length x_13.c0, .slice x_13.a1 m_14.r.length x_13.c1, .slice x_13.a2 m_14.w.length x_13.c2]) rfl rfl rfl rfl Tryz.sizeOf32 rfl rfl (Nat.le_of_ble_eq_true rfl) rfl) ?_
      rintro _ _ rfl
      refine JL.pure rfl (PO.assign (v := .int .i64 n_15) rfl) ?_
      refine JL.nil ?_
      refine JQ.seq ?_
      refine JC.seq ?_
      refine JC.seq ?_
      refine JC.region ?_
      refine JL.pure rfl (PO.move (v := .int .i64 n_15) rfl) ?_
      refine JL.pure rfl (PO.eqlI rfl rfl) ?_
      refine JL.nil ?_
      refine JQ.seq ?_
      by_cases h_17 : n_15 = 0
      · skip
        refine JC.condT (congrArg Value.bool (decide_eq_true h_17)) ?_
        refine JC.seq ?_
        refine JC.region ?_
        refine JL.ld rfl (LO.loadK 4 (vs := [.slice x_13.a0 m_14.s.length x_13.c0, .slice x_13.a1 m_14.r.length x_13.c1, .slice x_13.a2 m_14.w.length x_13.c2]) rfl rfl Tryz.isAgg32 Tryz.sizeOf32 rfl rfl) ?_
        refine JL.op rfl (JO.store 3 (vs := [.slice x_13.a0 m_14.s.length x_13.c0, .slice x_13.a1 m_14.r.length x_13.c1, .slice x_13.a2 m_14.w.length x_13.c2]) (cs' := [.slice x_13.a0 m_14.s.length x_13.c0, .slice x_13.a1 m_14.r.length x_13.c1, .slice x_13.a2 m_14.w.length x_13.c2]) rfl rfl rfl rfl Tryz.sizeOf32 rfl rfl (Nat.le_of_ble_eq_true rfl) rfl) ?_
        rintro _ _ rfl
        refine JL.pure rfl (PO.assign (v := .int .i64 2) rfl) ?_
        refine JL.nil ?_
        refine JQ.seq ?_
        refine JC.ret ?_
        refine JQ.thenRet ?_
        refine Done.two (.inl rfl) rfl (RV.cell1 (LO.loadK 3 (vs := [.slice x_13.a0 m_14.s.length x_13.c0, .slice x_13.a1 m_14.r.length x_13.c1, .slice x_13.a2 m_14.w.length x_13.c2]) rfl rfl Tryz.isAgg32 Tryz.sizeOf32 rfl rfl) ⟨_, rfl⟩) (RV.tmp (v := .int .i64 2) rfl) (List.sublist_append_left [rC x_13.a0 x_13.c0 m_14.s, rS x_13.a1 x_13.c1 m_14.r, rS x_13.a2 x_13.c2 m_14.w] [mb b_2 x_13 m_14, mb b_1 x_13 m_14]) ?_
        exact ⟨x_13, m_14, 2, (by simp only [MS.renameName, e_3, h_6, e_7, h_10, e_11, h_17, if_true, if_false, Bool.false_eq_true, Bool.not_true, Bool.not_false]; (repeat (first | rw [if_pos (by omega)] | rw [if_neg (by omega)])); all_goals (first | rfl | simp only [if_true, if_false, Bool.false_eq_true, Bool.not_true, Bool.not_false, e_3, h_6, e_7, h_10, e_11, h_17])), (k_12.mono (by omega) (by omega)), (by first | omega | (simp only [List.length_append, List.length_cons, List.length_nil, List.length_take, List.length_drop]; omega)), rfl, rfl⟩
      · skip
        refine JC.condF (congrArg Value.bool (decide_eq_false h_17)) ?_
        refine JC.skip ?_
        refine JQ.seq ?_
        refine JC.seq ?_
        refine JC.region ?_
        refine JL.ld rfl (LO.loadK 4 (vs := [.slice x_13.a0 m_14.s.length x_13.c0, .slice x_13.a1 m_14.r.length x_13.c1, .slice x_13.a2 m_14.w.length x_13.c2]) rfl rfl Tryz.isAgg32 Tryz.sizeOf32 rfl rfl) ?_
        refine JL.pure rfl (PO.move (v := str to_) rfl) ?_
        refine JL.op rfl (JO.call [0, 0, 0] Tryz.call110 rfl (M_fileOf x_13 m_14 k_12 (by omega) (by omega) to_ (by omega)) rfl (fun _ _ => trivial)) ?_
        rintro _ _ ⟨_, ⟨x_20, m_21, n_22, e_18, k_19, f_23, rfl, rfl⟩, rfl⟩
        refine JL.pure rfl (PO.move (v := .tuple #[mv x_20 m_21, .int .i64 n_22]) rfl) ?_
        refine JL.pure rfl (PO.extract (v := mv x_20 m_21) rfl rfl) ?_
        refine JL.pure rfl (PO.extract (v := .int .i64 n_22) rfl rfl) ?_
        refine JL.op rfl (JO.store 4 (vs := [.slice x_20.a0 m_21.s.length x_20.c0, .slice x_20.a1 m_21.r.length x_20.c1, .slice x_20.a2 m_21.w.length x_20.c2]) (cs' := [.slice x_20.a0 m_21.s.length x_20.c0, .slice x_20.a1 m_21.r.length x_20.c1, .slice x_20.a2 m_21.w.length x_20.c2]) rfl rfl rfl rfl Tryz.sizeOf32 rfl rfl (Nat.le_of_ble_eq_true rfl) rfl) ?_
        rintro _ _ rfl
        refine JL.pure rfl (PO.assign (v := .int .i64 n_22) rfl) ?_
        refine JL.nil ?_
        refine JQ.seq ?_
        refine JC.seq ?_
        refine JC.seq ?_
        refine JC.region ?_
        refine JL.pure rfl (PO.move (v := .int .i64 n_22) rfl) ?_
        refine JL.pure rfl (PO.move (v := .int .i64 n_15) rfl) ?_
        refine JL.pure rfl (PO.eqlI rfl rfl) ?_
        refine JL.nil ?_
        refine JQ.seq ?_
        by_cases h_24 : n_22 = n_15
        · skip
          refine JC.condT (congrArg Value.bool (decide_eq_true h_24)) ?_
          refine JC.seq ?_
          refine JC.region ?_
          refine JL.ld rfl (LO.loadK 4 (vs := [.slice x_20.a0 m_21.s.length x_20.c0, .slice x_20.a1 m_21.r.length x_20.c1, .slice x_20.a2 m_21.w.length x_20.c2]) rfl rfl Tryz.isAgg32 Tryz.sizeOf32 rfl rfl) ?_
          refine JL.op rfl (JO.store 3 (vs := [.slice x_20.a0 m_21.s.length x_20.c0, .slice x_20.a1 m_21.r.length x_20.c1, .slice x_20.a2 m_21.w.length x_20.c2]) (cs' := [.slice x_20.a0 m_21.s.length x_20.c0, .slice x_20.a1 m_21.r.length x_20.c1, .slice x_20.a2 m_21.w.length x_20.c2]) rfl rfl rfl rfl Tryz.sizeOf32 rfl rfl (Nat.le_of_ble_eq_true rfl) rfl) ?_
          rintro _ _ rfl
          refine JL.pure rfl (PO.assign (v := .int .i64 0) rfl) ?_
          refine JL.nil ?_
          refine JQ.seq ?_
          refine JC.ret ?_
          refine JQ.thenRet ?_
          refine Done.two (.inl rfl) rfl (RV.cell1 (LO.loadK 3 (vs := [.slice x_20.a0 m_21.s.length x_20.c0, .slice x_20.a1 m_21.r.length x_20.c1, .slice x_20.a2 m_21.w.length x_20.c2]) rfl rfl Tryz.isAgg32 Tryz.sizeOf32 rfl rfl) ⟨_, rfl⟩) (RV.tmp (v := .int .i64 0) rfl) (List.sublist_append_left [rC x_20.a0 x_20.c0 m_21.s, rS x_20.a1 x_20.c1 m_21.r, rS x_20.a2 x_20.c2 m_21.w] [mb b_2 x_20 m_21, mb b_1 x_20 m_21]) ?_
          exact ⟨x_20, m_21, 0, (by simp only [MS.renameName, e_3, h_6, e_7, h_10, e_11, h_17, e_18, h_24, if_true, if_false, Bool.false_eq_true, Bool.not_true, Bool.not_false]; (repeat (first | rw [if_pos (by omega)] | rw [if_neg (by omega)])); all_goals (first | rfl | simp only [if_true, if_false, Bool.false_eq_true, Bool.not_true, Bool.not_false, e_3, h_6, e_7, h_10, e_11, h_17, e_18, h_24])), (k_19.mono (by omega) (by omega)), (by first | omega | (simp only [List.length_append, List.length_cons, List.length_nil, List.length_take, List.length_drop]; omega)), rfl, rfl⟩
        · skip
          refine JC.condF (congrArg Value.bool (decide_eq_false h_24)) ?_
          refine JC.skip ?_
          refine JQ.seq ?_
          refine JC.seq ?_
          refine JC.seq ?_
          refine JC.region ?_
          refine JL.pure rfl (PO.move (v := .int .i64 n_22) rfl) ?_
          refine JL.pure rfl (PO.neqI rfl rfl) ?_
          refine JL.nil ?_
          refine JQ.seq ?_
          by_cases h_25 : n_22 = 0
          · skip
            refine JC.condF (congrArg Value.bool (congrArg Bool.not (decide_eq_true h_25))) ?_
            refine JC.skip ?_
            refine JQ.seq ?_
            refine JC.seq ?_
            refine JC.region ?_
            refine JL.ld rfl (LO.loadK 4 (vs := [.slice x_20.a0 m_21.s.length x_20.c0, .slice x_20.a1 m_21.r.length x_20.c1, .slice x_20.a2 m_21.w.length x_20.c2]) rfl rfl Tryz.isAgg32 Tryz.sizeOf32 rfl rfl) ?_
            refine JL.pure rfl (PO.move (v := str to_) rfl) ?_
            refine JL.pure rfl (PO.addS rfl rfl (by (try simp only [List.length_append, List.length_cons, List.length_nil, List.length_drop, List.length_take]); omega)) ?_
            refine JL.pure rfl (PO.move (v := .int .i64 n_15) rfl) ?_
            refine JL.op rfl (JO.call [0, 0, 0] Tryz.call81 rfl (N_sSetNum x_20 m_21 k_19 (by omega) (by omega) ([110, 47] ++ to_) n_15 (by first | omega | (simp only [List.length_append, List.length_cons, List.length_nil, List.length_take, List.length_drop]; omega)) (by omega)) rfl (fun _ _ => trivial)) ?_
            rintro _ _ ⟨_, ⟨x_28, m_29, e_26, k_27, rfl, rfl⟩, rfl⟩
            refine JL.op rfl (JO.store 4 (vs := [.slice x_28.a0 m_29.s.length x_28.c0, .slice x_28.a1 m_29.r.length x_28.c1, .slice x_28.a2 m_29.w.length x_28.c2]) (cs' := [.slice x_28.a0 m_29.s.length x_28.c0, .slice x_28.a1 m_29.r.length x_28.c1, .slice x_28.a2 m_29.w.length x_28.c2]) rfl rfl rfl rfl Tryz.sizeOf32 rfl rfl (Nat.le_of_ble_eq_true rfl) rfl) ?_
            rintro _ _ rfl
            refine JL.nil ?_
            refine JQ.seq ?_
            refine JC.seq ?_
            refine JC.region ?_
            refine JL.ld rfl (LO.loadK 4 (vs := [.slice x_28.a0 m_29.s.length x_28.c0, .slice x_28.a1 m_29.r.length x_28.c1, .slice x_28.a2 m_29.w.length x_28.c2]) rfl rfl Tryz.isAgg32 Tryz.sizeOf32 rfl rfl) ?_
            refine JL.pure rfl (PO.move (v := str from_) rfl) ?_
            refine JL.pure rfl (PO.addS rfl rfl (by (try simp only [List.length_append, List.length_cons, List.length_nil, List.length_drop, List.length_take]); omega)) ?_
            refine JL.op rfl (JO.call [0, 0, 0] Tryz.call80 rfl (N_sLayNil x_28 m_29 k_27 (by omega) (by omega) ([110, 47] ++ from_) (by first | omega | (simp only [List.length_append, List.length_cons, List.length_nil, List.length_take, List.length_drop]; omega))) rfl (fun _ _ => trivial)) ?_
            rintro _ _ ⟨_, ⟨x_32, m_33, e_30, k_31, rfl, rfl⟩, rfl⟩
            refine JL.op rfl (JO.store 3 (vs := [.slice x_32.a0 m_33.s.length x_32.c0, .slice x_32.a1 m_33.r.length x_32.c1, .slice x_32.a2 m_33.w.length x_32.c2]) (cs' := [.slice x_32.a0 m_33.s.length x_32.c0, .slice x_32.a1 m_33.r.length x_32.c1, .slice x_32.a2 m_33.w.length x_32.c2]) rfl rfl rfl rfl Tryz.sizeOf32 rfl rfl (Nat.le_of_ble_eq_true rfl) rfl) ?_
            rintro _ _ rfl
            refine JL.pure rfl (PO.assign (v := .int .i64 0) rfl) ?_
            refine JL.nil ?_
            refine JQ.seq ?_
            refine JC.ret ?_
            refine Done.two (.inl rfl) rfl (RV.cell1 (LO.loadK 3 (vs := [.slice x_32.a0 m_33.s.length x_32.c0, .slice x_32.a1 m_33.r.length x_32.c1, .slice x_32.a2 m_33.w.length x_32.c2]) rfl rfl Tryz.isAgg32 Tryz.sizeOf32 rfl rfl) ⟨_, rfl⟩) (RV.tmp (v := .int .i64 0) rfl) (List.sublist_append_left [rC x_32.a0 x_32.c0 m_33.s, rS x_32.a1 x_32.c1 m_33.r, rS x_32.a2 x_32.c2 m_33.w] [mb b_2 x_32 m_33, mb b_1 x_28 m_29]) ?_
            exact ⟨x_32, m_33, 0, (by simp only [MS.renameName, e_3, h_6, e_7, h_10, e_11, h_17, e_18, h_24, h_25, e_26, e_30, if_true, if_false, Bool.false_eq_true, Bool.not_true, Bool.not_false]; (repeat (first | rw [if_pos (by omega)] | rw [if_neg (by omega)])); all_goals (first | rfl | simp only [if_true, if_false, Bool.false_eq_true, Bool.not_true, Bool.not_false, e_3, h_6, e_7, h_10, e_11, h_17, e_18, h_24, h_25, e_26, e_30])), (k_31.mono (by omega) (by omega)), (by first | omega | (simp only [List.length_append, List.length_cons, List.length_nil, List.length_take, List.length_drop]; omega)), rfl, rfl⟩
          · skip
            refine JC.condT (congrArg Value.bool (congrArg Bool.not (decide_eq_false h_25))) ?_
            refine JC.region ?_
            refine JL.ld rfl (LO.loadK 4 (vs := [.slice x_20.a0 m_21.s.length x_20.c0, .slice x_20.a1 m_21.r.length x_20.c1, .slice x_20.a2 m_21.w.length x_20.c2]) rfl rfl Tryz.isAgg32 Tryz.sizeOf32 rfl rfl) ?_
            refine JL.pure rfl (PO.move (v := str to_) rfl) ?_
            refine JL.op rfl (JO.call [0, 0, 0] Tryz.call69 rfl (M_unlinkName x_20 m_21 k_19 (by omega) (by omega) to_ (by omega)) rfl (fun _ _ => trivial)) ?_
            rintro _ _ ⟨_, ⟨x_36, m_37, n_38, e_34, k_35, f_39, rfl, rfl⟩, rfl⟩
            refine JL.pure rfl (PO.move (v := .tuple #[mv x_36 m_37, .int .i64 n_38]) rfl) ?_
            refine JL.pure rfl (PO.extract (v := mv x_36 m_37) rfl rfl) ?_
            refine JL.pure rfl (PO.extract (v := .int .i64 n_38) rfl rfl) ?_
            refine JL.op rfl (JO.store 4 (vs := [.slice x_36.a0 m_37.s.length x_36.c0, .slice x_36.a1 m_37.r.length x_36.c1, .slice x_36.a2 m_37.w.length x_36.c2]) (cs' := [.slice x_36.a0 m_37.s.length x_36.c0, .slice x_36.a1 m_37.r.length x_36.c1, .slice x_36.a2 m_37.w.length x_36.c2]) rfl rfl rfl rfl Tryz.sizeOf32 rfl rfl (Nat.le_of_ble_eq_true rfl) rfl) ?_
            rintro _ _ rfl
            refine JL.nil ?_
            refine JQ.seq ?_
            refine JC.seq ?_
            refine JC.region ?_
            refine JL.ld rfl (LO.loadK 4 (vs := [.slice x_36.a0 m_37.s.length x_36.c0, .slice x_36.a1 m_37.r.length x_36.c1, .slice x_36.a2 m_37.w.length x_36.c2]) rfl rfl Tryz.isAgg32 Tryz.sizeOf32 rfl rfl) ?_
            refine JL.pure rfl (PO.move (v := str to_) rfl) ?_
            refine JL.pure rfl (PO.addS rfl rfl (by (try simp only [List.length_append, List.length_cons, List.length_nil, List.length_drop, List.length_take]); omega)) ?_
            refine JL.pure rfl (PO.move (v := .int .i64 n_15) rfl) ?_
            refine JL.op rfl (JO.call [0, 0, 0] Tryz.call81 rfl (N_sSetNum x_36 m_37 k_35 (by omega) (by omega) ([110, 47] ++ to_) n_15 (by first | omega | (simp only [List.length_append, List.length_cons, List.length_nil, List.length_take, List.length_drop]; omega)) (by omega)) rfl (fun _ _ => trivial)) ?_
            rintro _ _ ⟨_, ⟨x_42, m_43, e_40, k_41, rfl, rfl⟩, rfl⟩
            refine JL.op rfl (JO.store 4 (vs := [.slice x_42.a0 m_43.s.length x_42.c0, .slice x_42.a1 m_43.r.length x_42.c1, .slice x_42.a2 m_43.w.length x_42.c2]) (cs' := [.slice x_42.a0 m_43.s.length x_42.c0, .slice x_42.a1 m_43.r.length x_42.c1, .slice x_42.a2 m_43.w.length x_42.c2]) rfl rfl rfl rfl Tryz.sizeOf32 rfl rfl (Nat.le_of_ble_eq_true rfl) rfl) ?_
            rintro _ _ rfl
            refine JL.nil ?_
            refine JQ.seq ?_
            refine JC.seq ?_
            refine JC.region ?_
            refine JL.ld rfl (LO.loadK 4 (vs := [.slice x_42.a0 m_43.s.length x_42.c0, .slice x_42.a1 m_43.r.length x_42.c1, .slice x_42.a2 m_43.w.length x_42.c2]) rfl rfl Tryz.isAgg32 Tryz.sizeOf32 rfl rfl) ?_
            refine JL.pure rfl (PO.move (v := str from_) rfl) ?_
            refine JL.pure rfl (PO.addS rfl rfl (by (try simp only [List.length_append, List.length_cons, List.length_nil, List.length_drop, List.length_take]); omega)) ?_
            refine JL.op rfl (JO.call [0, 0, 0] Tryz.call80 rfl (N_sLayNil x_42 m_43 k_41 (by omega) (by omega) ([110, 47] ++ from_) (by first | omega | (simp only [List.length_append, List.length_cons, List.length_nil, List.length_take, List.length_drop]; omega))) rfl (fun _ _ => trivial)) ?_
            rintro _ _ ⟨_, ⟨x_46, m_47, e_44, k_45, rfl, rfl⟩, rfl⟩
            refine JL.op rfl (JO.store 3 (vs := [.slice x_46.a0 m_47.s.length x_46.c0, .slice x_46.a1 m_47.r.length x_46.c1, .slice x_46.a2 m_47.w.length x_46.c2]) (cs' := [.slice x_46.a0 m_47.s.length x_46.c0, .slice x_46.a1 m_47.r.length x_46.c1, .slice x_46.a2 m_47.w.length x_46.c2]) rfl rfl rfl rfl Tryz.sizeOf32 rfl rfl (Nat.le_of_ble_eq_true rfl) rfl) ?_
            rintro _ _ rfl
            refine JL.pure rfl (PO.assign (v := .int .i64 0) rfl) ?_
            refine JL.nil ?_
            refine JQ.seq ?_
            refine JC.ret ?_
            refine Done.two (.inl rfl) rfl (RV.cell1 (LO.loadK 3 (vs := [.slice x_46.a0 m_47.s.length x_46.c0, .slice x_46.a1 m_47.r.length x_46.c1, .slice x_46.a2 m_47.w.length x_46.c2]) rfl rfl Tryz.isAgg32 Tryz.sizeOf32 rfl rfl) ⟨_, rfl⟩) (RV.tmp (v := .int .i64 0) rfl) (List.sublist_append_left [rC x_46.a0 x_46.c0 m_47.s, rS x_46.a1 x_46.c1 m_47.r, rS x_46.a2 x_46.c2 m_47.w] [mb b_2 x_46 m_47, mb b_1 x_42 m_43]) ?_
            exact ⟨x_46, m_47, 0, (by simp only [MS.renameName, e_3, h_6, e_7, h_10, e_11, h_17, e_18, h_24, h_25, e_34, e_40, e_44, if_true, if_false, Bool.false_eq_true, Bool.not_true, Bool.not_false]; (repeat (first | rw [if_pos (by omega)] | rw [if_neg (by omega)])); all_goals (first | rfl | simp only [if_true, if_false, Bool.false_eq_true, Bool.not_true, Bool.not_false, e_3, h_6, e_7, h_10, e_11, h_17, e_18, h_24, h_25, e_34, e_40, e_44])), (k_45.mono (by omega) (by omega)), (by first | omega | (simp only [List.length_append, List.length_cons, List.length_nil, List.length_take, List.length_drop]; omega)), rfl, rfl⟩
    · skip
      refine JC.condT (congrArg Value.bool (congrArg Bool.not h_10)) ?_
      refine JC.seq ?_
      refine JC.region ?_
      refine JL.ld rfl (LO.loadK 1 (vs := [.slice x.a0 m.s.length x.c0, .slice x.a1 m.r.length x.c1, .slice x.a2 m.w.length x.c2]) rfl rfl Tryz.isAgg32 Tryz.sizeOf32 rfl rfl) ?_
      refine JL.op rfl (JO.store 0 (vs := [.slice x.a0 m.s.length x.c0, .slice x.a1 m.r.length x.c1, .slice x.a2 m.w.length x.c2]) (cs' := [.slice x.a0 m.s.length x.c0, .slice x.a1 m.r.length x.c1, .slice x.a2 m.w.length x.c2]) rfl rfl rfl rfl Tryz.sizeOf32 rfl rfl (Nat.le_of_ble_eq_true rfl) rfl) ?_
      rintro _ _ rfl
      refine JL.pure rfl (PO.assign (v := .int .i64 4) rfl) ?_
      refine JL.nil ?_
      refine JQ.seq ?_
      refine JC.ret ?_
      refine JQ.thenRet ?_
      refine JQ.perm (pick_perm [2, 2, 2] (A := [rC x.a0 x.c0 m.s, rS x.a1 x.c1 m.r, rS x.a2 x.c2 m.w]) (F := [mb b_2 x m, mb b_1 x m]) rfl).symm ?_
      refine Done.two (.inl rfl) rfl (RV.cell1 (LO.loadK 3 (vs := [.slice x.a0 m.s.length x.c0, .slice x.a1 m.r.length x.c1, .slice x.a2 m.w.length x.c2]) rfl rfl Tryz.isAgg32 Tryz.sizeOf32 rfl rfl) ⟨_, rfl⟩) (RV.tmp (v := .int .i64 4) rfl) (List.sublist_append_left [rC x.a0 x.c0 m.s, rS x.a1 x.c1 m.r, rS x.a2 x.c2 m.w] [mb b_2 x m, mb b_1 x m]) ?_
      exact ⟨x, m, 4, (by simp only [MS.renameName, e_3, h_6, e_7, h_10, if_true, if_false, Bool.false_eq_true, Bool.not_true, Bool.not_false]; (repeat (first | rw [if_pos (by omega)] | rw [if_neg (by omega)])); all_goals (first | rfl | simp only [if_true, if_false, Bool.false_eq_true, Bool.not_true, Bool.not_false, e_3, h_6, e_7, h_10])), (hk.mono (by omega) (by omega)), (by first | omega | (simp only [List.length_append, List.length_cons, List.length_nil, List.length_take, List.length_drop]; omega)), rfl, rfl⟩
  · skip
    refine JL.guardOff (b := true) rfl rfl rfl (congrArg Value.bool (congrArg Bool.not h_6)) ?_
    refine JL.guardOff (b := true) rfl rfl rfl (congrArg Value.bool (congrArg Bool.not h_6)) ?_
    refine JL.guardOff (b := true) rfl rfl rfl (congrArg Value.bool (congrArg Bool.not h_6)) ?_
    refine JL.pure rfl (PO.pickT (v := .bool true) (congrArg Value.bool (congrArg Bool.not h_6)) rfl) ?_
    refine JL.nil ?_
    refine JQ.seq ?_
    refine JC.condT (congrArg Value.bool rfl) ?_
    refine JC.seq ?_
    refine JC.region ?_
    refine JL.ld rfl (LO.loadK 1 (vs := [.slice x.a0 m.s.length x.c0, .slice x.a1 m.r.length x.c1, .slice x.a2 m.w.length x.c2]) rfl rfl Tryz.isAgg32 Tryz.sizeOf32 rfl rfl) ?_
    refine JL.op rfl (JO.store 0 (vs := [.slice x.a0 m.s.length x.c0, .slice x.a1 m.r.length x.c1, .slice x.a2 m.w.length x.c2]) (cs' := [.slice x.a0 m.s.length x.c0, .slice x.a1 m.r.length x.c1, .slice x.a2 m.w.length x.c2]) rfl rfl rfl rfl Tryz.sizeOf32 rfl rfl (Nat.le_of_ble_eq_true rfl) rfl) ?_
    rintro _ _ rfl
    refine JL.pure rfl (PO.assign (v := .int .i64 4) rfl) ?_
    refine JL.nil ?_
    refine JQ.seq ?_
    refine JC.ret ?_
    refine JQ.thenRet ?_
    refine JQ.perm (pick_perm [2, 2, 2] (A := [rC x.a0 x.c0 m.s, rS x.a1 x.c1 m.r, rS x.a2 x.c2 m.w]) (F := [mb b_2 x m, mb b_1 x m]) rfl).symm ?_
    refine Done.two (.inl rfl) rfl (RV.cell1 (LO.loadK 3 (vs := [.slice x.a0 m.s.length x.c0, .slice x.a1 m.r.length x.c1, .slice x.a2 m.w.length x.c2]) rfl rfl Tryz.isAgg32 Tryz.sizeOf32 rfl rfl) ⟨_, rfl⟩) (RV.tmp (v := .int .i64 4) rfl) (List.sublist_append_left [rC x.a0 x.c0 m.s, rS x.a1 x.c1 m.r, rS x.a2 x.c2 m.w] [mb b_2 x m, mb b_1 x m]) ?_
    exact ⟨x, m, 4, (by simp only [MS.renameName, e_3, h_6, if_true, if_false, Bool.false_eq_true, Bool.not_true, Bool.not_false]; (repeat (first | rw [if_pos (by omega)] | rw [if_neg (by omega)])); all_goals (first | rfl | simp only [if_true, if_false, Bool.false_eq_true, Bool.not_true, Bool.not_false, e_3, h_6])), (hk.mono (by omega) (by omega)), (by first | omega | (simp only [List.length_append, List.length_cons, List.length_nil, List.length_take, List.length_drop]; omega)), rfl, rfl⟩

theorem P_renameName (x : MA) (m : MS) {S T : Nat} (hk : m.ok S T) (hS : S ≤ 29000000) (hT : T ≤ 29000000) (from_ : Str) (to_ : Str) (hfrom_ : from_.length ≤ 100000000) (hto_ : to_.length ≤ 100000000) :
    Ct Tryz.prog 40 [mv x m, str from_, str to_] ([]) (fun w => seesM w x m) (fun v A' => ∃ x' m' r0, MS.renameName m from_ to_ = (m', r0) ∧ m'.ok (S + 2) (T + S + 8) ∧ (0 ≤ r0 ∧ r0 ≤ 9) ∧ v = .tuple #[mv x' m', .int .i64 r0] ∧ A' = mr x' m') := by
  refine Ct.intro Tryz.func40 rfl Tryz.ntmps40 (Nat.le_of_ble_eq_true rfl) fun w0 hpre => ?_
  have hs_x_a0 : Sees w0 _ _ _ _ := hpre.1
  have hs_x_a1 : Sees w0 _ _ _ _ := hpre.2.1
  have hs_x_a2 : Sees w0 _ _ _ _ := hpre.2.2
  refine JC.seq ?_
  refine JC.region ?_
  refine JL.op rfl (JO.box (cs := [.slice x.a0 m.s.length x.c0, .slice x.a1 m.r.length x.c1, .slice x.a2 m.w.length x.c2]) rfl rfl) ?_
  rintro _ _ ⟨b_1, rfl, rfl⟩
  refine JL.op rfl (JO.alloc (z := .agg #[.slice none 0 0, .slice none 0 0, .slice none 0 0]) (cs := [.slice none 0 0, .slice none 0 0, .slice none 0 0]) Tryz.zeroValue32 rfl) ?_
  rintro _ _ ⟨b_2, rfl, rfl⟩
  refine JL.pure rfl (PO.assign (v := .int .i64 0) rfl) ?_
  refine JL.nil ?_
  refine JQ.seq ?_
  refine JC.seq ?_
  refine JC.region ?_
  refine JL.ld rfl (LO.loadK 1 (vs := [.slice x.a0 m.s.length x.c0, .slice x.a1 m.r.length x.c1, .slice x.a2 m.w.length x.c2]) rfl rfl Tryz.isAgg32 Tryz.sizeOf32 rfl rfl) ?_
  refine JL.op rfl (JO.call [] Tryz.call47 rfl (N_clone x m hk (by omega) (by omega)) rfl (fun w hw => ⟨hw.seeOut_ hs_x_a0 (fun _ _ => List.not_mem_nil), hw.seeOut_ hs_x_a1 (fun _ _ => List.not_mem_nil), hw.seeOut_ hs_x_a2 (fun _ _ => List.not_mem_nil)⟩)) ?_
  rintro _ _ ⟨_, ⟨x_5, m_6, rfl, k_4, rfl, rfl⟩, rfl⟩
  refine JL.op rfl (JO.store 4 (vs := [.slice x_5.a0 m.s.length x_5.c0, .slice x_5.a1 m.r.length x_5.c1, .slice x_5.a2 m.w.length x_5.c2]) (cs' := [.slice x_5.a0 m.s.length x_5.c0, .slice x_5.a1 m.r.length x_5.c1, .slice x_5.a2 m.w.length x_5.c2]) rfl rfl rfl rfl Tryz.sizeOf32 rfl rfl (Nat.le_of_ble_eq_true rfl) rfl) ?_
  rintro _ _ rfl
  refine JL.nil ?_
  refine JQ.seq ?_
  refine JC.seq ?_
  refine JC.region ?_
  refine JL.pure rfl (PO.move (v := str from_) rfl) ?_
  refine JL.pure rfl (PO.move (v := str to_) rfl) ?_
  refine JL.op rfl (JO.call [4, 0, 0, 0] Tryz.call74 rfl (N_renameName b_1 x_5 m k_4 (by omega) (by omega) from_ to_ (by omega) (by omega)) rfl (fun _ _ => trivial)) ?_
  rintro _ _ ⟨_, ⟨x_9, m_10, n_11, e_7, k_8, f_12, rfl, rfl⟩, rfl⟩
  refine JL.pure rfl (PO.assign (v := .int .i64 n_11) rfl) ?_
  refine JL.nil ?_
  refine JQ.seq ?_
  refine JC.seq ?_
  refine JC.region ?_
  refine JL.ld rfl (LO.loadK 0 (vs := [.slice x_9.a0 m_10.s.length x_9.c0, .slice x_9.a1 m_10.r.length x_9.c1, .slice x_9.a2 m_10.w.length x_9.c2]) rfl rfl Tryz.isAgg32 Tryz.sizeOf32 rfl rfl) ?_
  refine JL.pure rfl (PO.move (v := .int .i64 n_11) rfl) ?_
  refine JL.op rfl (JO.store 4 (vs := [.slice x_9.a0 m_10.s.length x_9.c0, .slice x_9.a1 m_10.r.length x_9.c1, .slice x_9.a2 m_10.w.length x_9.c2]) (cs' := [.slice x_9.a0 m_10.s.length x_9.c0, .slice x_9.a1 m_10.r.length x_9.c1, .slice x_9.a2 m_10.w.length x_9.c2]) rfl rfl rfl rfl Tryz.sizeOf32 rfl rfl (Nat.le_of_ble_eq_true rfl) rfl) ?_
  rintro _ _ rfl
  refine JL.pure rfl (PO.assign (v := .int .i64 n_11) rfl) ?_
  refine JL.nil ?_
  refine JQ.seq ?_
  refine JC.ret ?_
  refine JQ.perm (pick_perm [1, 1, 1] (A := [rC x_9.a0 x_9.c0 m_10.s, rS x_9.a1 x_9.c1 m_10.r, rS x_9.a2 x_9.c2 m_10.w]) (F := [mb b_1 x_9 m_10, mb b_2 x_9 m_10]) rfl).symm ?_
  refine Done.two (.inl rfl) rfl (RV.cell1 (LO.loadK 4 (vs := [.slice x_9.a0 m_10.s.length x_9.c0, .slice x_9.a1 m_10.r.length x_9.c1, .slice x_9.a2 m_10.w.length x_9.c2]) rfl rfl Tryz.isAgg32 Tryz.sizeOf32 rfl rfl) ⟨_, rfl⟩) (RV.tmp (v := .int .i64 n_11) rfl) (List.sublist_append_left [rC x_9.a0 x_9.c0 m_10.s, rS x_9.a1 x_9.c1 m_10.r, rS x_9.a2 x_9.c2 m_10.w] [mb b_1 x_9 m_10, mb b_2 x_9 m_10]) ?_
  exact ⟨x_9, m_10, n_11, (by simp only [if_true, e_7, if_true, if_false, Bool.false_eq_true, Bool.not_true, Bool.not_false]; (repeat (first | rw [if_pos (by omega)] | rw [if_neg (by omega)])); all_goals (first | rfl | simp only [if_true, if_false, Bool.false_eq_true, Bool.not_true, Bool.not_false, e_7])), (k_8.mono (by omega) (by omega)), (by first | omega | (simp only [List.length_append, List.length_cons, List.length_nil, List.length_take, List.length_drop]; omega)), rfl, rfl⟩

theorem Q_renameName (x : MA) (m : MS) {S T : Nat} (hk : m.ok S T) (hS : S ≤ 29000000) (hT : T ≤ 29000000) (from_ : Str) (to_ : Str) (hfrom_ : from_.length ≤ 100000000) (hto_ : to_.length ≤ 100000000) :
    Ct Tryz.prog 39 [mv x m, str from_, str to_] ([]) (fun w => seesM w x m) (fun v A' => ∃ x' m' r0, MS.renameName m from_ to_ = (m', r0) ∧ m'.ok (S + 2) (T + S + 8) ∧ (0 ≤ r0 ∧ r0 ≤ 9) ∧ v = .tuple #[mv x' m', .int .i64 r0] ∧ A' = mr x' m') := by
  refine Ct.intro Tryz.func39 rfl Tryz.ntmps39 (Nat.le_of_ble_eq_true rfl) fun w0 hpre => ?_
  have hs_x_a0 : Sees w0 _ _ _ _ := hpre.1
  have hs_x_a1 : Sees w0 _ _ _ _ := hpre.2.1
  have hs_x_a2 : Sees w0 _ _ _ _ := hpre.2.2
  refine JC.seq ?_
  refine JC.region ?_
  refine JL.op rfl (JO.box (cs := [.slice x.a0 m.s.length x.c0, .slice x.a1 m.r.length x.c1, .slice x.a2 m.w.length x.c2]) rfl rfl) ?_
  rintro _ _ ⟨b_1, rfl, rfl⟩
  refine JL.op rfl (JO.alloc (z := .agg #[.slice none 0 0, .slice none 0 0, .slice none 0 0]) (cs := [.slice none 0 0, .slice none 0 0, .slice none 0 0]) Tryz.zeroValue32 rfl) ?_
  rintro _ _ ⟨b_2, rfl, rfl⟩
  refine JL.pure rfl (PO.assign (v := .int .i64 0) rfl) ?_
  refine JL.nil ?_
  refine JQ.seq ?_
  refine JC.seq ?_
  refine JC.region ?_
  refine JL.ld rfl (LO.loadK 1 (vs := [.slice x.a0 m.s.length x.c0, .slice x.a1 m.r.length x.c1, .slice x.a2 m.w.length x.c2]) rfl rfl Tryz.isAgg32 Tryz.sizeOf32 rfl rfl) ?_
  refine JL.op rfl (JO.call [] Tryz.call44 rfl (N_copy x m hk (by omega) (by omega)) rfl (fun w hw => ⟨hw.seeOut_ hs_x_a0 (fun _ _ => List.not_mem_nil), hw.seeOut_ hs_x_a1 (fun _ _ => List.not_mem_nil), hw.seeOut_ hs_x_a2 (fun _ _ => List.not_mem_nil)⟩)) ?_
  rintro _ _ ⟨_, ⟨x_5, m_6, rfl, k_4, rfl, rfl⟩, rfl⟩
  refine JL.pure rfl (PO.move (v := str from_) rfl) ?_
  refine JL.pure rfl (PO.move (v := str to_) rfl) ?_
  refine JL.op rfl (JO.call [0, 0, 0] Tryz.call73 rfl (M_renameName x_5 m k_4 (by omega) (by omega) from_ to_ (by omega) (by omega)) rfl (fun _ _ => trivial)) ?_
  rintro _ _ ⟨_, ⟨x_9, m_10, n_11, e_7, k_8, f_12, rfl, rfl⟩, rfl⟩
  refine JL.pure rfl (PO.extract (v := mv x_9 m_10) rfl rfl) ?_
  refine JL.pure rfl (PO.extract (v := .int .i64 n_11) rfl rfl) ?_
  refine JL.op rfl (JO.store 3 (vs := [.slice x_9.a0 m_10.s.length x_9.c0, .slice x_9.a1 m_10.r.length x_9.c1, .slice x_9.a2 m_10.w.length x_9.c2]) (cs' := [.slice x_9.a0 m_10.s.length x_9.c0, .slice x_9.a1 m_10.r.length x_9.c1, .slice x_9.a2 m_10.w.length x_9.c2]) rfl rfl rfl rfl Tryz.sizeOf32 rfl rfl (Nat.le_of_ble_eq_true rfl) rfl) ?_
  rintro _ _ rfl
  refine JL.pure rfl (PO.assign (v := .int .i64 n_11) rfl) ?_
  refine JL.nil ?_
  refine JQ.seq ?_
  refine JC.ret ?_
  refine Done.two (.inl rfl) rfl (RV.cell1 (LO.loadK 3 (vs := [.slice x_9.a0 m_10.s.length x_9.c0, .slice x_9.a1 m_10.r.length x_9.c1, .slice x_9.a2 m_10.w.length x_9.c2]) rfl rfl Tryz.isAgg32 Tryz.sizeOf32 rfl rfl) ⟨_, rfl⟩) (RV.tmp (v := .int .i64 n_11) rfl) (List.sublist_append_left [rC x_9.a0 x_9.c0 m_10.s, rS x_9.a1 x_9.c1 m_10.r, rS x_9.a2 x_9.c2 m_10.w] [mb b_2 x_9 m_10, mb b_1 x m]) ?_
  exact ⟨x_9, m_10, n_11, (by simp only [if_true, e_7, if_true, if_false, Bool.false_eq_true, Bool.not_true, Bool.not_false]; (repeat (first | rw [if_pos (by omega)] | rw [if_neg (by omega)])); all_goals (first | rfl | simp only [if_true, if_false, Bool.false_eq_true, Bool.not_true, Bool.not_false, e_7])), (k_8.mono (by omega) (by omega)), (by first | omega | (simp only [List.length_append, List.length_cons, List.length_nil, List.length_take, List.length_drop]; omega)), rfl, rfl⟩

end Go.Proofs.YtdjecfpmjjjplaaGreatDoor
