/-
  Names, clocks, pages (part 17).
-/
import Derived.Test.YtdjecfpmjjjplaaGreatDoorS13KEYS
import Derived.Test.YtdjecfpmjjjplaaGreatDoorDatD
set_option linter.unusedSimpArgs false
set_option linter.unusedVariables false
set_option linter.unnecessarySimpa false
namespace Go.Proofs.YtdjecfpmjjjplaaGreatDoor
open Go Go.RowKit
attribute [local irreducible] JL JC JQ JO LO PO JA JX Ct

theorem N_fileOf (p : Nat) (x : MA) (m : MS) {S T : Nat} (hk : m.ok S T) (hS : S ≤ 80000000) (hT : T ≤ 80000000) (name : Str) (hname : name.length ≤ 100000000) :
    Ct Tryz.prog 113 [.pointer (some ⟨p, 0, none⟩), str name] (mb p x m :: mr x m) (fun _ => True) (fun v A' => ∃ x' m' r0, MS.fileOf m name = (m', r0) ∧ m'.ok (S) (T + 1) ∧ (0 ≤ r0 ∧ r0 ≤ 999) ∧ v = .int .i64 r0 ∧ A' = mb p x' m' :: mr x' m') := by
  refine Ct.intro Tryz.func113 rfl Tryz.ntmps113 (Nat.le_of_ble_eq_true rfl) fun w0 hpre => ?_
  refine JC.seq ?_
  refine JC.region ?_
  refine JL.pure rfl (PO.assign (v := .int .i64 0) rfl) ?_
  refine JL.nil ?_
  refine JQ.seq ?_
  refine JC.seq ?_
  refine JC.seq ?_
  refine JC.region ?_
  refine JL.pure rfl (PO.move (v := str name) rfl) ?_
  refine JL.op rfl (JO.call [] Tryz.call112 rfl (N_nameOk name (by omega)) rfl (fun _ _ => trivial)) ?_
  rintro _ _ ⟨_, ⟨b_3, e_1, rfl, rfl⟩, rfl⟩
  refine JL.pure rfl (PO.not rfl) ?_
  refine JL.nil ?_
  refine JQ.seq ?_
  rcases Bool.eq_false_or_eq_true (b_3) with h_4 | h_4
  · skip
    refine JC.condF (congrArg Value.bool (congrArg Bool.not h_4)) ?_
    refine JC.skip ?_
    refine JQ.seq ?_
    refine JC.seq ?_
    refine JC.region ?_
    refine JL.pure rfl (PO.move (v := .pointer (some ⟨p, 0, none⟩)) rfl) ?_
    refine JL.pure rfl (PO.move (v := str name) rfl) ?_
    refine JL.op rfl (JO.call [] Tryz.call115 rfl (N_nameKey name (by omega)) rfl (fun _ _ => trivial)) ?_
    rintro _ _ ⟨_, ⟨u_7, e_5, f_8, rfl, rfl⟩, rfl⟩
    refine JL.op rfl (JO.call [0, 0, 0, 0] Tryz.call87 rfl (N_num p x m hk (by omega) (by omega) u_7) rfl (fun _ _ => trivial)) ?_
    rintro _ _ ⟨_, ⟨x_11, m_12, n_13, e_9, k_10, f_14, rfl, rfl⟩, rfl⟩
    refine JL.pure rfl (PO.assign (v := .int .i64 n_13) rfl) ?_
    refine JL.nil ?_
    refine JQ.seq ?_
    refine JC.ret ?_
    refine Done.one (.inl rfl) rfl (RV.tmp (v := .int .i64 n_13) rfl) (List.Sublist.refl _) ?_
    exact ⟨x_11, m_12, n_13, (by simp only [MS.fileOf, e_1, h_4, e_5, e_9, if_true, if_false, Bool.false_eq_true, Bool.not_true, Bool.not_false]; (repeat (first | rw [if_pos (by omega)] | rw [if_neg (by omega)])); all_goals (first | rfl | simp only [if_true, if_false, Bool.false_eq_true, Bool.not_true, Bool.not_false, e_1, h_4, e_5, e_9])), (k_10.mono (by omega) (by omega)), (by first | omega | (simp only [List.length_append, List.length_cons, List.length_nil, List.length_take, List.length_drop]; omega)), rfl, rfl⟩
  · skip
    refine JC.condT (congrArg Value.bool (congrArg Bool.not h_4)) ?_
    refine JC.seq ?_
    refine JC.region ?_
    refine JL.pure rfl (PO.assign (v := .int .i64 0) rfl) ?_
    refine JL.nil ?_
    refine JQ.seq ?_
    refine JC.ret ?_
    refine JQ.thenRet ?_
    refine Done.one (.inl rfl) rfl (RV.tmp (v := .int .i64 0) rfl) (List.Sublist.refl _) ?_
    exact ⟨x, m, 0, (by simp only [MS.fileOf, e_1, h_4, if_true, if_false, Bool.false_eq_true, Bool.not_true, Bool.not_false]; (repeat (first | rw [if_pos (by omega)] | rw [if_neg (by omega)])); all_goals (first | rfl | simp only [if_true, if_false, Bool.false_eq_true, Bool.not_true, Bool.not_false, e_1, h_4])), (hk.mono (by omega) (by omega)), (by first | omega | (simp only [List.length_append, List.length_cons, List.length_nil, List.length_take, List.length_drop]; omega)), rfl, rfl⟩

theorem M_fileOf (x : MA) (m : MS) {S T : Nat} (hk : m.ok S T) (hS : S ≤ 80000000) (hT : T ≤ 80000000) (name : Str) (hname : name.length ≤ 100000000) :
    Ct Tryz.prog 110 [mv x m, str name] (mr x m) (fun _ => True) (fun v A' => ∃ x' m' r0, MS.fileOf m name = (m', r0) ∧ m'.ok (S) (T + 1) ∧ (0 ≤ r0 ∧ r0 ≤ 999) ∧ v = .tuple #[mv x' m', .int .i64 r0] ∧ A' = mr x' m') := by
  refine Ct.intro Tryz.func110 rfl Tryz.ntmps110 (Nat.le_of_ble_eq_true rfl) fun w0 hpre => ?_
  refine JC.seq ?_
  refine JC.region ?_
  refine JL.op rfl (JO.box (cs := [.slice x.a0 m.s.length x.c0, .slice x.a1 m.r.length x.c1, .slice x.a2 m.w.length x.c2]) rfl rfl) ?_
  rintro _ _ ⟨b_1, rfl, rfl⟩
  refine JL.op rfl (JO.alloc (z := .agg #[.slice none 0 0, .slice none 0 0, .slice none 0 0]) (cs := [.slice none 0 0, .slice none 0 0, .slice none 0 0]) Tryz.zeroValue32 rfl) ?_
  rintro _ _ ⟨b_2, rfl, rfl⟩
  refine JL.pure rfl (PO.assign (v := .int .i64 0) rfl) ?_
  refine JL.nil ?_
  refine JQ.seq ?_
  refine JC.seq ?_
  refine JC.seq ?_
  refine JC.region ?_
  refine JL.pure rfl (PO.move (v := str name) rfl) ?_
  refine JL.op rfl (JO.call [] Tryz.call109 rfl (N_sNameOk name (by omega)) rfl (fun _ _ => trivial)) ?_
  rintro _ _ ⟨_, ⟨b_5, e_3, rfl, rfl⟩, rfl⟩
  refine JL.pure rfl (PO.not rfl) ?_
  refine JL.nil ?_
  refine JQ.seq ?_
  rcases Bool.eq_false_or_eq_true (b_5) with h_6 | h_6
  · skip
    refine JC.condF (congrArg Value.bool (congrArg Bool.not h_6)) ?_
    refine JC.skip ?_
    refine JQ.seq ?_
    refine JC.seq ?_
    refine JC.region ?_
    refine JL.ld rfl (LO.loadK 1 (vs := [.slice x.a0 m.s.length x.c0, .slice x.a1 m.r.length x.c1, .slice x.a2 m.w.length x.c2]) rfl rfl Tryz.isAgg32 Tryz.sizeOf32 rfl rfl) ?_
    refine JL.pure rfl (PO.move (v := str name) rfl) ?_
    refine JL.pure rfl (PO.addS rfl rfl (by (try simp only [List.length_append, List.length_cons, List.length_nil, List.length_drop, List.length_take]); omega)) ?_
    refine JL.op rfl (JO.call [2, 2, 2] Tryz.call77 rfl (N_sNumAt x m hk (by omega) (by omega) ([110, 47] ++ name)) rfl (fun _ _ => trivial)) ?_
    rintro _ _ ⟨_, ⟨x_9, m_10, n_11, e_7, k_8, f_12, rfl, rfl⟩, rfl⟩
    refine JL.pure rfl (PO.extract (v := mv x_9 m_10) rfl rfl) ?_
    refine JL.pure rfl (PO.extract (v := .int .i64 n_11) rfl rfl) ?_
    refine JL.op rfl (JO.store 3 (vs := [.slice x_9.a0 m_10.s.length x_9.c0, .slice x_9.a1 m_10.r.length x_9.c1, .slice x_9.a2 m_10.w.length x_9.c2]) (cs' := [.slice x_9.a0 m_10.s.length x_9.c0, .slice x_9.a1 m_10.r.length x_9.c1, .slice x_9.a2 m_10.w.length x_9.c2]) rfl rfl rfl rfl Tryz.sizeOf32 rfl rfl (Nat.le_of_ble_eq_true rfl) rfl) ?_
    rintro _ _ rfl
    refine JL.pure rfl (PO.assign (v := .int .i64 n_11) rfl) ?_
    refine JL.nil ?_
    refine JQ.seq ?_
    refine JC.ret ?_
    refine Done.two (.inl rfl) rfl (RV.cell1 (LO.loadK 3 (vs := [.slice x_9.a0 m_10.s.length x_9.c0, .slice x_9.a1 m_10.r.length x_9.c1, .slice x_9.a2 m_10.w.length x_9.c2]) rfl rfl Tryz.isAgg32 Tryz.sizeOf32 rfl rfl) ⟨_, rfl⟩) (RV.tmp (v := .int .i64 n_11) rfl) (List.sublist_append_left [rC x_9.a0 x_9.c0 m_10.s, rS x_9.a1 x_9.c1 m_10.r, rS x_9.a2 x_9.c2 m_10.w] [mb b_2 x_9 m_10, mb b_1 x m]) ?_
    exact ⟨x_9, m_10, n_11, (by simp only [MS.fileOf, e_3, h_6, e_7, if_true, if_false, Bool.false_eq_true, Bool.not_true, Bool.not_false]; (repeat (first | rw [if_pos (by omega)] | rw [if_neg (by omega)])); all_goals (first | rfl | simp only [if_true, if_false, Bool.false_eq_true, Bool.not_true, Bool.not_false, e_3, h_6, e_7])), (k_8.mono (by omega) (by omega)), (by first | omega | (simp only [List.length_append, List.length_cons, List.length_nil, List.length_take, List.length_drop]; omega)), rfl, rfl⟩
  · skip
    refine JC.condT (congrArg Value.bool (congrArg Bool.not h_6)) ?_
    refine JC.seq ?_
    refine JC.region ?_
    refine JL.ld rfl (LO.loadK 1 (vs := [.slice x.a0 m.s.length x.c0, .slice x.a1 m.r.length x.c1, .slice x.a2 m.w.length x.c2]) rfl rfl Tryz.isAgg32 Tryz.sizeOf32 rfl rfl) ?_
    refine JL.op rfl (JO.store 0 (vs := [.slice x.a0 m.s.length x.c0, .slice x.a1 m.r.length x.c1, .slice x.a2 m.w.length x.c2]) (cs' := [.slice x.a0 m.s.length x.c0, .slice x.a1 m.r.length x.c1, .slice x.a2 m.w.length x.c2]) rfl rfl rfl rfl Tryz.sizeOf32 rfl rfl (Nat.le_of_ble_eq_true rfl) rfl) ?_
    rintro _ _ rfl
    refine JL.pure rfl (PO.assign (v := .int .i64 0) rfl) ?_
    refine JL.nil ?_
    refine JQ.seq ?_
    refine JC.ret ?_
    refine JQ.thenRet ?_
    refine JQ.perm (pick_perm [2, 2, 2] (A := [rC x.a0 x.c0 m.s, rS x.a1 x.c1 m.r, rS x.a2 x.c2 m.w]) (F := [mb b_2 x m, mb b_1 x m]) rfl).symm ?_
    refine Done.two (.inl rfl) rfl (RV.cell1 (LO.loadK 3 (vs := [.slice x.a0 m.s.length x.c0, .slice x.a1 m.r.length x.c1, .slice x.a2 m.w.length x.c2]) rfl rfl Tryz.isAgg32 Tryz.sizeOf32 rfl rfl) ⟨_, rfl⟩) (RV.tmp (v := .int .i64 0) rfl) (List.sublist_append_left [rC x.a0 x.c0 m.s, rS x.a1 x.c1 m.r, rS x.a2 x.c2 m.w] [mb b_2 x m, mb b_1 x m]) ?_
    exact ⟨x, m, 0, (by simp only [MS.fileOf, e_3, h_6, if_true, if_false, Bool.false_eq_true, Bool.not_true, Bool.not_false]; (repeat (first | rw [if_pos (by omega)] | rw [if_neg (by omega)])); all_goals (first | rfl | simp only [if_true, if_false, Bool.false_eq_true, Bool.not_true, Bool.not_false, e_3, h_6])), (hk.mono (by omega) (by omega)), (by first | omega | (simp only [List.length_append, List.length_cons, List.length_nil, List.length_take, List.length_drop]; omega)), rfl, rfl⟩

theorem N_linkName (p : Nat) (x : MA) (m : MS) {S T : Nat} (hk : m.ok S T) (hS : S ≤ 40000000) (hT : T ≤ 40000000) (from_ : Str) (to_ : Str) (hfrom_ : from_.length ≤ 100000000) (hto_ : to_.length ≤ 100000000) :
    Ct Tryz.prog 66 [.pointer (some ⟨p, 0, none⟩), str from_, str to_] (mb p x m :: mr x m) (fun _ => True) (fun v A' => ∃ x' m' r0, MS.linkName m from_ to_ = (m', r0) ∧ m'.ok (S + 2) (T + 5) ∧ (0 ≤ r0 ∧ r0 ≤ 9) ∧ v = .int .i64 r0 ∧ A' = mb p x' m' :: mr x' m') := by
  refine Ct.intro Tryz.func66 rfl Tryz.ntmps66 (Nat.le_of_ble_eq_true rfl) fun w0 hpre => ?_
  refine JC.seq ?_
  refine JC.region ?_
  refine JL.pure rfl (PO.assign (v := .int .i64 0) rfl) ?_
  refine JL.nil ?_
  refine JQ.seq ?_
  refine JC.seq ?_
  refine JC.seq ?_
  refine JC.region ?_
  refine JL.pure rfl (PO.move (v := str from_) rfl) ?_
  refine JL.op rfl (JO.call [] Tryz.call112 rfl (N_nameOk from_ (by omega)) rfl (fun _ _ => trivial)) ?_
  rintro _ _ ⟨_, ⟨b_3, e_1, rfl, rfl⟩, rfl⟩
  refine JL.pure rfl (PO.not rfl) ?_
  refine JL.pure rfl (PO.move (v := .bool (!b_3)) rfl) ?_
  rcases Bool.eq_false_or_eq_true (b_3) with h_4 | h_4
  · skip
    refine JL.guardOn rfl rfl rfl (congrArg Value.bool (congrArg Bool.not h_4)) (JO.ofLO (LO.pure (PO.move (v := str to_) rfl))) ?_
    rintro _ _ ⟨rfl, rfl⟩
    refine JL.guardOn rfl rfl rfl (congrArg Value.bool (congrArg Bool.not h_4)) (JO.call [] Tryz.call112 rfl (N_nameOk to_ (by omega)) rfl (fun _ _ => trivial)) ?_
    rintro _ _ ⟨_, ⟨b_7, e_5, rfl, rfl⟩, rfl⟩
    refine JL.guardOn rfl rfl rfl (congrArg Value.bool (congrArg Bool.not h_4)) (JO.ofLO (LO.pure (PO.not rfl))) ?_
    rintro _ _ ⟨rfl, rfl⟩
    refine JL.pure rfl (PO.pickF (v := .bool (!b_7)) (congrArg Value.bool (congrArg Bool.not h_4)) rfl) ?_
    refine JL.nil ?_
    refine JQ.seq ?_
    rcases Bool.eq_false_or_eq_true (b_7) with h_8 | h_8
    · skip
      refine JC.condF (congrArg Value.bool (congrArg Bool.not h_8)) ?_
      refine JC.skip ?_
      refine JQ.seq ?_
      refine JC.seq ?_
      refine JC.region ?_
      refine JL.pure rfl (PO.move (v := .pointer (some ⟨p, 0, none⟩)) rfl) ?_
      refine JL.pure rfl (PO.move (v := str from_) rfl) ?_
      refine JL.op rfl (JO.call [0, 0, 0, 0] Tryz.call113 rfl (N_fileOf p x m hk (by omega) (by omega) from_ (by omega)) rfl (fun _ _ => trivial)) ?_
      rintro _ _ ⟨_, ⟨x_11, m_12, n_13, e_9, k_10, f_14, rfl, rfl⟩, rfl⟩
      refine JL.pure rfl (PO.assign (v := .int .i64 n_13) rfl) ?_
      refine JL.nil ?_
      refine JQ.seq ?_
      refine JC.seq ?_
      refine JC.seq ?_
      refine JC.region ?_
      refine JL.pure rfl (PO.move (v := .int .i64 n_13) rfl) ?_
      refine JL.pure rfl (PO.eqlI rfl rfl) ?_
      refine JL.nil ?_
      refine JQ.seq ?_
      by_cases h_15 : n_13 = 0
      · skip
        refine JC.condT (congrArg Value.bool (decide_eq_true h_15)) ?_
        refine JC.seq ?_
        refine JC.region ?_
        refine JL.pure rfl (PO.assign (v := .int .i64 2) rfl) ?_
        refine JL.nil ?_
        refine JQ.seq ?_
        refine JC.ret ?_
        refine JQ.thenRet ?_
        refine Done.one (.inl rfl) rfl (RV.tmp (v := .int .i64 2) rfl) (List.Sublist.refl _) ?_
        exact ⟨x_11, m_12, 2, (by simp only [MS.linkName, e_1, h_4, e_5, h_8, e_9, h_15, if_true, if_false, Bool.false_eq_true, Bool.not_true, Bool.not_false]; (repeat (first | rw [if_pos (by omega)] | rw [if_neg (by omega)])); all_goals (first | rfl | simp only [if_true, if_false, Bool.false_eq_true, Bool.not_true, Bool.not_false, e_1, h_4, e_5, h_8, e_9, h_15])), (k_10.mono (by omega) (by omega)), (by first | omega | (simp only [List.length_append, List.length_cons, List.length_nil, List.length_take, List.length_drop]; omega)), rfl, rfl⟩
      · skip
        refine JC.condF (congrArg Value.bool (decide_eq_false h_15)) ?_
        refine JC.skip ?_
        refine JQ.seq ?_
        refine JC.seq ?_
        refine JC.seq ?_
        refine JC.region ?_
        refine JL.pure rfl (PO.move (v := .pointer (some ⟨p, 0, none⟩)) rfl) ?_
        refine JL.pure rfl (PO.move (v := str to_) rfl) ?_
        refine JL.op rfl (JO.call [0, 0, 0, 0] Tryz.call113 rfl (N_fileOf p x_11 m_12 k_10 (by omega) (by omega) to_ (by omega)) rfl (fun _ _ => trivial)) ?_
        rintro _ _ ⟨_, ⟨x_18, m_19, n_20, e_16, k_17, f_21, rfl, rfl⟩, rfl⟩
        refine JL.pure rfl (PO.neqI rfl rfl) ?_
        refine JL.nil ?_
        refine JQ.seq ?_
        by_cases h_22 : n_20 = 0
        · skip
          refine JC.condF (congrArg Value.bool (congrArg Bool.not (decide_eq_true h_22))) ?_
          refine JC.skip ?_
          refine JQ.seq ?_
          refine JC.seq ?_
          refine JC.region ?_
          refine JL.pure rfl (PO.move (v := .pointer (some ⟨p, 0, none⟩)) rfl) ?_
          refine JL.pure rfl (PO.move (v := .int .i64 n_13) rfl) ?_
          refine JL.op rfl (JO.call [] Tryz.call114 rfl (N_linksKey n_13 (by omega)) rfl (fun _ _ => trivial)) ?_
          rintro _ _ ⟨_, ⟨u_25, e_23, f_26, rfl, rfl⟩, rfl⟩
          refine JL.op rfl (JO.call [0, 0, 0, 0] Tryz.call87 rfl (N_num p x_18 m_19 k_17 (by omega) (by omega) u_25) rfl (fun _ _ => trivial)) ?_
          rintro _ _ ⟨_, ⟨x_29, m_30, n_31, e_27, k_28, f_32, rfl, rfl⟩, rfl⟩
          refine JL.pure rfl (PO.assign (v := .int .i64 n_31) rfl) ?_
          refine JL.nil ?_
          refine JQ.seq ?_
          refine JC.seq ?_
          refine JC.seq ?_
          refine JC.region ?_
          refine JL.pure rfl (PO.move (v := .int .i64 n_31) rfl) ?_
          refine JL.pure rfl (PO.geq rfl rfl) ?_
          refine JL.nil ?_
          refine JQ.seq ?_
          by_cases h_33 : 4 ≤ n_31
          · skip
            refine JC.condT (congrArg Value.bool (decide_eq_true h_33)) ?_
            refine JC.seq ?_
            refine JC.region ?_
            refine JL.pure rfl (PO.assign (v := .int .i64 3) rfl) ?_
            refine JL.nil ?_
            refine JQ.seq ?_
            refine JC.ret ?_
            refine JQ.thenRet ?_
            refine Done.one (.inl rfl) rfl (RV.tmp (v := .int .i64 3) rfl) (List.Sublist.refl _) ?_
            exact ⟨x_29, m_30, 3, (by simp only [MS.linkName, e_1, h_4, e_5, h_8, e_9, h_15, e_16, h_22, e_23, e_27, h_33, if_true, if_false, Bool.false_eq_true, Bool.not_true, Bool.not_false]; (repeat (first | rw [if_pos (by omega)] | rw [if_neg (by omega)])); all_goals (first | rfl | simp only [if_true, if_false, Bool.false_eq_true, Bool.not_true, Bool.not_false, e_1, h_4, e_5, h_8, e_9, h_15, e_16, h_22, e_23, e_27, h_33])), (k_28.mono (by omega) (by omega)), (by first | omega | (simp only [List.length_append, List.length_cons, List.length_nil, List.length_take, List.length_drop]; omega)), rfl, rfl⟩
          · skip
            refine JC.condF (congrArg Value.bool (decide_eq_false h_33)) ?_
            refine JC.skip ?_
            refine JQ.seq ?_
            refine JC.seq ?_
            refine JC.region ?_
            refine JL.pure rfl (PO.move (v := .pointer (some ⟨p, 0, none⟩)) rfl) ?_
            refine JL.pure rfl (PO.move (v := str to_) rfl) ?_
            refine JL.op rfl (JO.call [] Tryz.call115 rfl (N_nameKey to_ (by omega)) rfl (fun _ _ => trivial)) ?_
            rintro _ _ ⟨_, ⟨u_36, e_34, f_37, rfl, rfl⟩, rfl⟩
            refine JL.pure rfl (PO.move (v := .int .i64 n_13) rfl) ?_
            refine JL.op rfl (JO.call [0, 0, 0, 0] Tryz.call91 rfl (N_setNum p x_29 m_30 k_28 (by omega) (by omega) u_36 n_13 (by omega) (by omega)) rfl (fun _ _ => trivial)) ?_
            rintro _ _ ⟨_, ⟨x_40, m_41, e_38, k_39, rfl, rfl⟩, rfl⟩
            refine JL.nil ?_
            refine JQ.seq ?_
            refine JC.seq ?_
            refine JC.region ?_
            refine JL.pure rfl (PO.move (v := .pointer (some ⟨p, 0, none⟩)) rfl) ?_
            refine JL.pure rfl (PO.move (v := .int .i64 n_13) rfl) ?_
            refine JL.op rfl (JO.call [] Tryz.call114 rfl (N_linksKey n_13 (by omega)) rfl (fun _ _ => trivial)) ?_
            rintro _ _ ⟨_, ⟨u_44, e_42, f_45, rfl, rfl⟩, rfl⟩
            have hqe_42 := e_23.symm.trans e_42
            subst hqe_42
            refine JL.pure rfl (PO.move (v := .int .i64 n_31) rfl) ?_
            refine JL.pure rfl (PO.add (c := n_31 + 1) rfl rfl (wr (by omega))) ?_
            refine JL.op rfl (JO.call [0, 0, 0, 0] Tryz.call91 rfl (N_setNum p x_40 m_41 k_39 (by omega) (by omega) u_25 (n_31 + 1) (by omega) (by omega)) rfl (fun _ _ => trivial)) ?_
            rintro _ _ ⟨_, ⟨x_48, m_49, e_46, k_47, rfl, rfl⟩, rfl⟩
            refine JL.nil ?_
            refine JQ.seq ?_
            refine JC.seq ?_
            refine JC.region ?_
            refine JL.pure rfl (PO.assign (v := .int .i64 0) rfl) ?_
            refine JL.nil ?_
            refine JQ.seq ?_
            refine JC.ret ?_
            refine Done.one (.inl rfl) rfl (RV.tmp (v := .int .i64 0) rfl) (List.Sublist.refl _) ?_
            exact ⟨x_48, m_49, 0, (by simp only [MS.linkName, e_1, h_4, e_5, h_8, e_9, h_15, e_16, h_22, e_23, e_27, h_33, e_34, e_38, e_46, if_true, if_false, Bool.false_eq_true, Bool.not_true, Bool.not_false]; (repeat (first | rw [if_pos (by omega)] | rw [if_neg (by omega)])); all_goals (first | rfl | simp only [if_true, if_false, Bool.false_eq_true, Bool.not_true, Bool.not_false, e_1, h_4, e_5, h_8, e_9, h_15, e_16, h_22, e_23, e_27, h_33, e_34, e_38, e_46])), (k_47.mono (by omega) (by omega)), (by first | omega | (simp only [List.length_append, List.length_cons, List.length_nil, List.length_take, List.length_drop]; omega)), rfl, rfl⟩
        · skip
          refine JC.condT (congrArg Value.bool (congrArg Bool.not (decide_eq_false h_22))) ?_
          refine JC.seq ?_
          refine JC.region ?_
          refine JL.pure rfl (PO.assign (v := .int .i64 1) rfl) ?_
          refine JL.nil ?_
          refine JQ.seq ?_
          refine JC.ret ?_
          refine JQ.thenRet ?_
          refine Done.one (.inl rfl) rfl (RV.tmp (v := .int .i64 1) rfl) (List.Sublist.refl _) ?_
          exact ⟨x_18, m_19, 1, (by simp only [MS.linkName, e_1, h_4, e_5, h_8, e_9, h_15, e_16, h_22, if_true, if_false, Bool.false_eq_true, Bool.not_true, Bool.not_false]; (repeat (first | rw [if_pos (by omega)] | rw [if_neg (by omega)])); all_goals (first | rfl | simp only [if_true, if_false, Bool.false_eq_true, Bool.not_true, Bool.not_false, e_1, h_4, e_5, h_8, e_9, h_15, e_16, h_22])), (k_17.mono (by omega) (by omega)), (by first | omega | (simp only [List.length_append, List.length_cons, List.length_nil, List.length_take, List.length_drop]; omega)), rfl, rfl⟩
    · skip
      refine JC.condT (congrArg Value.bool (congrArg Bool.not h_8)) ?_
      refine JC.seq ?_
      refine JC.region ?_
      refine JL.pure rfl (PO.assign (v := .int .i64 4) rfl) ?_
      refine JL.nil ?_
      refine JQ.seq ?_
      refine JC.ret ?_
      refine JQ.thenRet ?_
      refine Done.one (.inl rfl) rfl (RV.tmp (v := .int .i64 4) rfl) (List.Sublist.refl _) ?_
      exact ⟨x, m, 4, (by simp only [MS.linkName, e_1, h_4, e_5, h_8, if_true, if_false, Bool.false_eq_true, Bool.not_true, Bool.not_false]; (repeat (first | rw [if_pos (by omega)] | rw [if_neg (by omega)])); all_goals (first | rfl | simp only [if_true, if_false, Bool.false_eq_true, Bool.not_true, Bool.not_false, e_1, h_4, e_5, h_8])), (hk.mono (by omega) (by omega)), (by first | omega | (simp only [List.length_append, List.length_cons, List.length_nil, List.length_take, List.length_drop]; omega)), rfl, rfl⟩
  · skip
    refine JL.guardOff (b := true) rfl rfl rfl (congrArg Value.bool (congrArg Bool.not h_4)) ?_
    refine JL.guardOff (b := true) rfl rfl rfl (congrArg Value.bool (congrArg Bool.not h_4)) ?_
    refine JL.guardOff (b := true) rfl rfl rfl (congrArg Value.bool (congrArg Bool.not h_4)) ?_
    refine JL.pure rfl (PO.pickT (v := .bool true) (congrArg Value.bool (congrArg Bool.not h_4)) rfl) ?_
    refine JL.nil ?_
    refine JQ.seq ?_
    refine JC.condT (congrArg Value.bool rfl) ?_
    refine JC.seq ?_
    refine JC.region ?_
    refine JL.pure rfl (PO.assign (v := .int .i64 4) rfl) ?_
    refine JL.nil ?_
    refine JQ.seq ?_
    refine JC.ret ?_
    refine JQ.thenRet ?_
    refine Done.one (.inl rfl) rfl (RV.tmp (v := .int .i64 4) rfl) (List.Sublist.refl _) ?_
    exact ⟨x, m, 4, (by simp only [MS.linkName, e_1, h_4, if_true, if_false, Bool.false_eq_true, Bool.not_true, Bool.not_false]; (repeat (first | rw [if_pos (by omega)] | rw [if_neg (by omega)])); all_goals (first | rfl | simp only [if_true, if_false, Bool.false_eq_true, Bool.not_true, Bool.not_false, e_1, h_4])), (hk.mono (by omega) (by omega)), (by first | omega | (simp only [List.length_append, List.length_cons, List.length_nil, List.length_take, List.length_drop]; omega)), rfl, rfl⟩

theorem M_linkName (x : MA) (m : MS) {S T : Nat} (hk : m.ok S T) (hS : S ≤ 40000000) (hT : T ≤ 40000000) (from_ : Str) (to_ : Str) (hfrom_ : from_.length ≤ 100000000) (hto_ : to_.length ≤ 100000000) :
    Ct Tryz.prog 65 [mv x m, str from_, str to_] (mr x m) (fun _ => True) (fun v A' => ∃ x' m' r0, MS.linkName m from_ to_ = (m', r0) ∧ m'.ok (S + 2) (T + 5) ∧ (0 ≤ r0 ∧ r0 ≤ 9) ∧ v = .tuple #[mv x' m', .int .i64 r0] ∧ A' = mr x' m') := by
  refine Ct.intro Tryz.func65 rfl Tryz.ntmps65 (Nat.le_of_ble_eq_true rfl) fun w0 hpre => ?_
  refine JC.seq ?_
  refine JC.region ?_
  refine JL.op rfl (JO.box (cs := [.slice x.a0 m.s.length x.c0, .slice x.a1 m.r.length x.c1, .slice x.a2 m.w.length x.c2]) rfl rfl) ?_
  rintro _ _ ⟨b_1, rfl, rfl⟩
  refine JL.op rfl (JO.alloc (z := .agg #[.slice none 0 0, .slice none 0 0, .slice none 0 0]) (cs := [.slice none 0 0, .slice none 0 0, .slice none 0 0]) Tryz.zeroValue32 rfl) ?_
  rintro _ _ ⟨b_2, rfl, rfl⟩
  refine JL.pure rfl (PO.assign (v := .int .i64 0) rfl) ?_
  refine JL.nil ?_
  refine JQ.seq ?_
  refine JC.seq ?_
  refine JC.seq ?_
  refine JC.region ?_
  refine JL.pure rfl (PO.move (v := str from_) rfl) ?_
  refine JL.op rfl (JO.call [] Tryz.call109 rfl (N_sNameOk from_ (by omega)) rfl (fun _ _ => trivial)) ?_
  rintro _ _ ⟨_, ⟨b_5, e_3, rfl, rfl⟩, rfl⟩
  refine JL.pure rfl (PO.not rfl) ?_
  refine JL.pure rfl (PO.move (v := .bool (!b_5)) rfl) ?_
  rcases Bool.eq_false_or_eq_true (b_5) with h_6 | h_6
  · skip
    refine JL.guardOn rfl rfl rfl (congrArg Value.bool (congrArg Bool.not h_6)) (JO.ofLO (LO.pure (PO.move (v := str to_) rfl))) ?_
    rintro _ _ ⟨rfl, rfl⟩
    refine JL.guardOn rfl rfl rfl (congrArg Value.bool (congrArg Bool.not h_6)) (JO.call [] Tryz.call109 rfl (N_sNameOk to_ (by omega)) rfl (fun _ _ => trivial)) ?_
    rintro _ _ ⟨_, ⟨b_9, e_7, rfl, rfl⟩, rfl⟩
    refine JL.guardOn rfl rfl rfl (congrArg Value.bool (congrArg Bool.not h_6)) (JO.ofLO (LO.pure (PO.not rfl))) ?_
    rintro _ _ ⟨rfl, rfl⟩
    refine JL.pure rfl (PO.pickF (v := .bool (!b_9)) (congrArg Value.bool (congrArg Bool.not h_6)) rfl) ?_
    refine JL.nil ?_
    refine JQ.seq ?_
    rcases Bool.eq_false_or_eq_true (b_9) with h_10 | h_10
    · skip
      refine JC.condF (congrArg Value.bool (congrArg Bool.not h_10)) ?_
      refine JC.skip ?_
      refine JQ.seq ?_
      refine JC.seq ?_
      refine JC.region ?_
      refine JL.ld rfl (LO.loadK 1 (vs := [.slice x.a0 m.s.length x.c0, .slice x.a1 m.r.length x.c1, .slice x.a2 m.w.length x.c2]) rfl rfl Tryz.isAgg32 Tryz.sizeOf32 rfl rfl) ?_
      refine JL.pure rfl (PO.move (v := str from_) rfl) ?_
      refine JL.op rfl (JO.call [2, 2, 2] Tryz.call110 rfl (M_fileOf x m hk (by omega) (by omega) from_ (by omega)) rfl (fun _ _ => trivial)) ?_
      rintro _ _ ⟨_, ⟨x_13, m_14, n_15, e_11, k_12, f_16, rfl, rfl⟩, rfl⟩
      refine JL.pure rfl (PO.move (v := .tuple #[mv x_13 m_14, .int .i64 n_15]) rfl) ?_
      refine JL.pure rfl (PO.extract (v := mv x_13 m_14) rfl rfl) ?_
      refine JL.pure rfl (PO.extract (v := .int .i64 n_15) rfl rfl) ?_
      refine JL.op rfl (JO.store 4 (vs := [.slice x_13.a0 m_14.s.length x_13.c0, .slice x_13.a1 m_14.r.length x_13.c1, .slice x_13.a2 m_14.w.length x_13.c2]) (cs' := [.slice x_13.a0 m_14.s.length x_13.c0, .slice x_13.a1 m_14.r.length x_13.c1, .slice x_13.a2 m_14.w.length x_13.c2]) rfl rfl rfl rfl Tryz.sizeOf32 rfl rfl (Nat.le_of_ble_eq_true rfl) rfl) ?_
      rintro _ _ rfl
      refine JL.pure rfl (PO.assign (v := .int .i64 n_15) rfl) ?_
      refine JL.nil ?_
      refine JQ.seq ?_
      refine JC.seq ?_
      refine JC.seq ?_
      refine JC.region ?_
      refine JL.pure rfl (PO.move (v := .int .i64 n_15) rfl) ?_
      refine JL.pure rfl (PO.eqlI rfl rfl) ?_
      refine JL.nil ?_
      refine JQ.seq ?_
      by_cases h_17 : n_15 = 0
      · skip
        refine JC.condT (congrArg Value.bool (decide_eq_true h_17)) ?_
        refine JC.seq ?_
        refine JC.region ?_
        refine JL.ld rfl (LO.loadK 4 (vs := [.slice x_13.a0 m_14.s.length x_13.c0, .slice x_13.a1 m_14.r.length x_13.c1, .slice x_13.a2 m_14.w.length x_13.c2]) rfl rfl Tryz.isAgg32 Tryz.sizeOf32 rfl rfl) ?_
        refine JL.op rfl (JO.store 3 (vs := [.slice x_13.a0 m_14.s.length x_13.c0, .slice x_13.a1 m_14.r.length x_13.c1, .slice x_13.a2 m_14.w.length x_13.c2]) (cs' := [.slice x_13.a0 m_14.s.length x_13.c0, .slice x_13.a1 m_14.r.length x_13.c1, .slice x_13.a2 m_14.w.length x_13.c2]) rfl rfl rfl rfl Tryz.sizeOf32 rfl rfl (Nat.le_of_ble_eq_true rfl) rfl) ?_
        rintro _ _ rfl
        refine JL.pure rfl (PO.assign (v := .int .i64 2) rfl) ?_
        refine JL.nil ?_
        refine JQ.seq ?_
        refine JC.ret ?_
        refine JQ.thenRet ?_
        refine Done.two (.inl rfl) rfl (RV.cell1 (LO.loadK 3 (vs := [.slice x_13.a0 m_14.s.length x_13.c0, .slice x_13.a1 m_14.r.length x_13.c1, .slice x_13.a2 m_14.w.length x_13.c2]) rfl rfl Tryz.isAgg32 Tryz.sizeOf32 rfl rfl) ⟨_, rfl⟩) (RV.tmp (v := .int .i64 2) rfl) (List.sublist_append_left [rC x_13.a0 x_13.c0 m_14.s, rS x_13.a1 x_13.c1 m_14.r, rS x_13.a2 x_13.c2 m_14.w] [mb b_2 x_13 m_14, mb b_1 x_13 m_14]) ?_
        exact ⟨x_13, m_14, 2, (by simp only [MS.linkName, e_3, h_6, e_7, h_10, e_11, h_17, if_true, if_false, Bool.false_eq_true, Bool.not_true, Bool.not_false]; (repeat (first | rw [if_pos (by omega)] | rw [if_neg (by omega)])); all_goals (first | rfl | simp only [if_true, if_false, Bool.false_eq_true, Bool.not_true, Bool.not_false, e_3, h_6, e_7, h_10, e_11, h_17])), (k_12.mono (by omega) (by omega)), (by first | omega | (simp only [List.length_append, List.length_cons, List.length_nil, List.length_take, List.length_drop]; omega)), rfl, rfl⟩
      · skip
        refine JC.condF (congrArg Value.bool (decide_eq_false h_17)) ?_
        refine JC.skip ?_
        refine JQ.seq ?_
        refine JC.seq ?_
        refine JC.region ?_
        refine JL.ld rfl (LO.loadK 4 (vs := [.slice x_13.a0 m_14.s.length x_13.c0, .slice x_13.a1 m_14.r.length x_13.c1, .slice x_13.a2 m_14.w.length x_13.c2]) rfl rfl Tryz.isAgg32 Tryz.sizeOf32 rfl rfl) ?_
        refine JL.pure rfl (PO.move (v := str to_) rfl) ?_
        refine JL.op rfl (JO.call [0, 0, 0] Tryz.call110 rfl (M_fileOf x_13 m_14 k_12 (by omega) (by omega) to_ (by omega)) rfl (fun _ _ => trivial)) ?_
        rintro _ _ ⟨_, ⟨x_20, m_21, n_22, e_18, k_19, f_23, rfl, rfl⟩, rfl⟩
        refine JL.pure rfl (PO.move (v := .tuple #[mv x_20 m_21, .int .i64 n_22]) rfl) ?_
        refine JL.pure rfl (PO.extract (v := mv x_20 m_21) rfl rfl) ?_
        refine JL.pure rfl (PO.extract (v := .int .i64 n_22) rfl rfl) ?_
        refine JL.op rfl (JO.store 4 (vs := [.slice x_20.a0 m_21.s.length x_20.c0, .slice x_20.a1 m_21.r.length x_20.c1, .slice x_20.a2 m_21.w.length x_20.c2]) (cs' := [.slice x_20.a0 m_21.s.length x_20.c0, .slice x_20.a1 m_21.r.length x_20.c1, .slice x_20.a2 m_21.w.length x_20.c2]) rfl rfl rfl rfl Tryz.sizeOf32 rfl rfl (Nat.le_of_ble_eq_true rfl) rfl) ?_
        rintro _ _ rfl
        refine JL.pure rfl (PO.assign (v := .int .i64 n_22) rfl) ?_
        refine JL.nil ?_
        refine JQ.seq ?_
        refine JC.seq ?_
        refine JC.seq ?_
        refine JC.region ?_
        refine JL.pure rfl (PO.move (v := .int .i64 n_22) rfl) ?_
        refine JL.pure rfl (PO.neqI rfl rfl) ?_
        refine JL.nil ?_
        refine JQ.seq ?_
        by_cases h_24 : n_22 = 0
        · skip
          refine JC.condF (congrArg Value.bool (congrArg Bool.not (decide_eq_true h_24))) ?_
          refine JC.skip ?_
          refine JQ.seq ?_
          refine JC.seq ?_
          refine JC.regionA [] 8 mixed (by simp) ?_
          refine JA.take 1 rfl (by kernel_rfl) (NP.th NP.body) (by kernel_rfl) (by kernel_rfl) (by kernel_rfl) rfl (LO.pure (PO.move (v := .int .i64 n_15) rfl)) ?_
          refine JA.two (i := 0) (j := 2) (by kernel_rfl) ?_ ?_
          · skip
            refine JX.op rfl rfl (JO.ofLO (LO.loadK 4 (vs := [.slice x_20.a0 m_21.s.length x_20.c0, .slice x_20.a1 m_21.r.length x_20.c1, .slice x_20.a2 m_21.w.length x_20.c2]) rfl rfl Tryz.isAgg32 Tryz.sizeOf32 rfl rfl)) ?_
            rintro _ _ ⟨rfl, rfl⟩
            refine ⟨(fun _ h => by cases h), ?_⟩
            refine JA.one (i := 2) (by kernel_rfl) ?_
            refine JX.op rfl rfl (JO.call [] Tryz.call111 rfl (N_sKeyNum [105, 47] n_15 [47, 108] (show List.length ([105, 47] : Str) ≤ 2 by decide) (by omega) (show List.length ([47, 108] : Str) ≤ 2 by decide) (by omega)) rfl (fun _ _ => trivial)) ?_
            rintro _ _ ⟨_, ⟨u_35, e_33, f_36, rfl, rfl⟩, rfl⟩
            refine ⟨(fun _ h => by cases h), ?_⟩
            refine JA.one (i := 3) (by kernel_rfl) ?_
            refine JX.op rfl rfl (JO.call [0, 0, 0] Tryz.call77 rfl (N_sNumAt x_20 m_21 k_19 (by omega) (by omega) u_35) rfl (fun _ _ => trivial)) ?_
            rintro _ _ ⟨_, ⟨x_45, m_46, n_47, e_43, k_44, f_48, rfl, rfl⟩, rfl⟩
            refine ⟨(fun _ h => by cases h), ?_⟩
            refine JA.take 4 rfl (by kernel_rfl) (NP.th NP.body) (by kernel_rfl) (by kernel_rfl) (by kernel_rfl) rfl (LO.pure (PO.move (v := .tuple #[mv x_45 m_46, .int .i64 n_47]) rfl)) ?_
            refine JA.take 5 rfl (by kernel_rfl) (NP.th NP.body) (by kernel_rfl) (by kernel_rfl) (by kernel_rfl) rfl (LO.pure (PO.extract (v := mv x_45 m_46) rfl rfl)) ?_
            refine JA.take 6 rfl (by kernel_rfl) (NP.th NP.body) (by kernel_rfl) (by kernel_rfl) (by kernel_rfl) rfl (LO.pure (PO.extract (v := .int .i64 n_47) rfl rfl)) ?_
            refine JA.one (i := 7) (by kernel_rfl) ?_
            refine JX.op rfl rfl (JO.store 4 (vs := [.slice x_45.a0 m_46.s.length x_45.c0, .slice x_45.a1 m_46.r.length x_45.c1, .slice x_45.a2 m_46.w.length x_45.c2]) (cs' := [.slice x_45.a0 m_46.s.length x_45.c0, .slice x_45.a1 m_46.r.length x_45.c1, .slice x_45.a2 m_46.w.length x_45.c2]) rfl rfl rfl rfl Tryz.sizeOf32 rfl rfl (Nat.le_of_ble_eq_true rfl) rfl) ?_
            rintro _ _ rfl
            refine ⟨(fun _ h => by cases h), ?_⟩
            refine JA.take 8 rfl (by kernel_rfl) (NP.th NP.body) (by kernel_rfl) (by kernel_rfl) (by kernel_rfl) rfl (LO.pure (PO.assign (v := .int .i64 n_47) rfl)) ?_
            refine JA.done (by kernel_rfl) ?_
            refine JQ.seq ?_
            refine JC.seq ?_
            refine JC.seq ?_
            refine JC.region ?_
            refine JL.pure rfl (PO.move (v := .int .i64 n_47) rfl) ?_
            refine JL.pure rfl (PO.geq rfl rfl) ?_
            refine JL.nil ?_
            refine JQ.seq ?_
            by_cases h_49 : 4 ≤ n_47
            · skip
              refine JC.condT (congrArg Value.bool (decide_eq_true h_49)) ?_
              refine JC.seq ?_
              refine JC.region ?_
              refine JL.ld rfl (LO.loadK 4 (vs := [.slice x_45.a0 m_46.s.length x_45.c0, .slice x_45.a1 m_46.r.length x_45.c1, .slice x_45.a2 m_46.w.length x_45.c2]) rfl rfl Tryz.isAgg32 Tryz.sizeOf32 rfl rfl) ?_
              refine JL.op rfl (JO.store 3 (vs := [.slice x_45.a0 m_46.s.length x_45.c0, .slice x_45.a1 m_46.r.length x_45.c1, .slice x_45.a2 m_46.w.length x_45.c2]) (cs' := [.slice x_45.a0 m_46.s.length x_45.c0, .slice x_45.a1 m_46.r.length x_45.c1, .slice x_45.a2 m_46.w.length x_45.c2]) rfl rfl rfl rfl Tryz.sizeOf32 rfl rfl (Nat.le_of_ble_eq_true rfl) rfl) ?_
              rintro _ _ rfl
              refine JL.pure rfl (PO.assign (v := .int .i64 3) rfl) ?_
              refine JL.nil ?_
              refine JQ.seq ?_
              refine JC.ret ?_
              refine JQ.thenRet ?_
              refine Done.two (.inl rfl) rfl (RV.cell1 (LO.loadK 3 (vs := [.slice x_45.a0 m_46.s.length x_45.c0, .slice x_45.a1 m_46.r.length x_45.c1, .slice x_45.a2 m_46.w.length x_45.c2]) rfl rfl Tryz.isAgg32 Tryz.sizeOf32 rfl rfl) ⟨_, rfl⟩) (RV.tmp (v := .int .i64 3) rfl) (List.sublist_append_left [rC x_45.a0 x_45.c0 m_46.s, rS x_45.a1 x_45.c1 m_46.r, rS x_45.a2 x_45.c2 m_46.w] [mb b_2 x_45 m_46, mb b_1 x_45 m_46]) ?_
              exact ⟨x_45, m_46, 3, (by simp only [MS.linkName, e_3, h_6, e_7, h_10, e_11, h_17, e_18, h_24, e_33, e_43, h_49, if_true, if_false, Bool.false_eq_true, Bool.not_true, Bool.not_false]; (repeat (first | rw [if_pos (by omega)] | rw [if_neg (by omega)])); all_goals (first | rfl | simp only [if_true, if_false, Bool.false_eq_true, Bool.not_true, Bool.not_false, e_3, h_6, e_7, h_10, e_11, h_17, e_18, h_24, e_33, e_43, h_49])), (k_44.mono (by omega) (by omega)), (by first | omega | (simp only [List.length_append, List.length_cons, List.length_nil, List.length_take, List.length_drop]; omega)), rfl, rfl⟩
            · skip
              refine JC.condF (congrArg Value.bool (decide_eq_false h_49)) ?_
              refine JC.skip ?_
              refine JQ.seq ?_
              refine JC.seq ?_
              refine JC.region ?_
              refine JL.ld rfl (LO.loadK 4 (vs := [.slice x_45.a0 m_46.s.length x_45.c0, .slice x_45.a1 m_46.r.length x_45.c1, .slice x_45.a2 m_46.w.length x_45.c2]) rfl rfl Tryz.isAgg32 Tryz.sizeOf32 rfl rfl) ?_
              refine JL.pure rfl (PO.move (v := str to_) rfl) ?_
              refine JL.pure rfl (PO.addS rfl rfl (by (try simp only [List.length_append, List.length_cons, List.length_nil, List.length_drop, List.length_take]); omega)) ?_
              refine JL.pure rfl (PO.move (v := .int .i64 n_15) rfl) ?_
              refine JL.op rfl (JO.call [0, 0, 0] Tryz.call81 rfl (N_sSetNum x_45 m_46 k_44 (by omega) (by omega) ([110, 47] ++ to_) n_15 (by first | omega | (simp only [List.length_append, List.length_cons, List.length_nil, List.length_take, List.length_drop]; omega)) (by omega)) rfl (fun _ _ => trivial)) ?_
              rintro _ _ ⟨_, ⟨x_52, m_53, e_50, k_51, rfl, rfl⟩, rfl⟩
              refine JL.op rfl (JO.store 4 (vs := [.slice x_52.a0 m_53.s.length x_52.c0, .slice x_52.a1 m_53.r.length x_52.c1, .slice x_52.a2 m_53.w.length x_52.c2]) (cs' := [.slice x_52.a0 m_53.s.length x_52.c0, .slice x_52.a1 m_53.r.length x_52.c1, .slice x_52.a2 m_53.w.length x_52.c2]) rfl rfl rfl rfl Tryz.sizeOf32 rfl rfl (Nat.le_of_ble_eq_true rfl) rfl) ?_
              rintro _ _ rfl
              refine JL.nil ?_
              refine JQ.seq ?_
              refine JC.seq ?_
              refine JC.regionA [mb b_1 x_52 m_53] 7 mixed (by simp) ?_
              refine JA.take 0 rfl (by kernel_rfl) (NP.th NP.body) (by kernel_rfl) (by kernel_rfl) (by kernel_rfl) rfl (LO.loadK 0 (vs := [.slice x_52.a0 m_53.s.length x_52.c0, .slice x_52.a1 m_53.r.length x_52.c1, .slice x_52.a2 m_53.w.length x_52.c2]) rfl rfl Tryz.isAgg32 Tryz.sizeOf32 rfl rfl) ?_
              refine JA.take 1 rfl (by kernel_rfl) (NP.th NP.body) (by kernel_rfl) (by kernel_rfl) (by kernel_rfl) rfl (LO.pure (PO.move (v := .int .i64 n_15) rfl)) ?_
              refine JA.take 3 rfl (by kernel_rfl) (NP.th NP.body) (by kernel_rfl) (by kernel_rfl) (by kernel_rfl) rfl (LO.pure (PO.move (v := .int .i64 n_47) rfl)) ?_
              refine JA.take 4 rfl (by kernel_rfl) (NP.th NP.body) (by kernel_rfl) (by kernel_rfl) (by kernel_rfl) rfl (LO.pure (PO.add (c := n_47 + 1) rfl rfl (wr (by omega)))) ?_
              refine JA.one (i := 2) (by kernel_rfl) ?_
              refine JX.op rfl rfl (JO.call [] Tryz.call111 rfl (N_sKeyNum [105, 47] n_15 [47, 108] (show List.length ([105, 47] : Str) ≤ 2 by decide) (by omega) (show List.length ([47, 108] : Str) ≤ 2 by decide) (by omega)) rfl (fun _ _ => trivial)) ?_
              rintro _ _ ⟨_, ⟨u_68, e_66, f_69, rfl, rfl⟩, rfl⟩
              have hqe_66 := e_33.symm.trans e_66
              subst hqe_66
              refine ⟨(by simp), ?_⟩
              refine JA.one (i := 5) (by kernel_rfl) ?_
              refine JX.op rfl rfl (JO.call [0, 0, 0] Tryz.call81 rfl (N_sSetNum x_52 m_53 k_51 (by omega) (by omega) u_35 (n_47 + 1) (by omega) (by omega)) rfl (fun _ _ => trivial)) ?_
              rintro _ _ ⟨_, ⟨x_76, m_77, e_74, k_75, rfl, rfl⟩, rfl⟩
              refine ⟨(by simp), ?_⟩
              refine JA.one (i := 6) (by kernel_rfl) ?_
              refine JX.op rfl rfl (JO.store 3 (vs := [.slice x_76.a0 m_77.s.length x_76.c0, .slice x_76.a1 m_77.r.length x_76.c1, .slice x_76.a2 m_77.w.length x_76.c2]) (cs' := [.slice x_76.a0 m_77.s.length x_76.c0, .slice x_76.a1 m_77.r.length x_76.c1, .slice x_76.a2 m_77.w.length x_76.c2]) rfl rfl rfl rfl Tryz.sizeOf32 rfl rfl (Nat.le_of_ble_eq_true rfl) rfl) ?_
              rintro _ _ rfl
              refine ⟨(by simp), ?_⟩
              refine JA.take 7 rfl (by kernel_rfl) (NP.th NP.body) (by kernel_rfl) (by kernel_rfl) (by kernel_rfl) rfl (LO.pure (PO.assign (v := .int .i64 0) rfl)) ?_
              refine JA.done (by kernel_rfl) ?_
              refine JQ.seq ?_
              refine JC.ret ?_
              refine Done.two (.inl rfl) rfl (RV.cell1 (LO.loadK 3 (vs := [.slice x_76.a0 m_77.s.length x_76.c0, .slice x_76.a1 m_77.r.length x_76.c1, .slice x_76.a2 m_77.w.length x_76.c2]) rfl rfl Tryz.isAgg32 Tryz.sizeOf32 rfl rfl) ⟨_, rfl⟩) (RV.tmp (v := .int .i64 0) rfl) (List.sublist_append_left [rC x_76.a0 x_76.c0 m_77.s, rS x_76.a1 x_76.c1 m_77.r, rS x_76.a2 x_76.c2 m_77.w] [mb b_2 x_76 m_77, mb b_1 x_52 m_53]) ?_
              exact ⟨x_76, m_77, 0, (by simp only [MS.linkName, e_3, h_6, e_7, h_10, e_11, h_17, e_18, h_24, e_33, e_43, h_49, e_50, e_74, if_true, if_false, Bool.false_eq_true, Bool.not_true, Bool.not_false]; (repeat (first | rw [if_pos (by omega)] | rw [if_neg (by omega)])); all_goals (first | rfl | simp only [if_true, if_false, Bool.false_eq_true, Bool.not_true, Bool.not_false, e_3, h_6, e_7, h_10, e_11, h_17, e_18, h_24, e_33, e_43, h_49, e_50, e_74])), (k_75.mono (by omega) (by omega)), (by first | omega | (simp only [List.length_append, List.length_cons, List.length_nil, List.length_take, List.length_drop]; omega)), rfl, rfl⟩
          · skip
            refine JX.op rfl rfl (JO.call [] Tryz.call111 rfl (N_sKeyNum [105, 47] n_15 [47, 108] (show List.length ([105, 47] : Str) ≤ 2 by decide) (by omega) (show List.length ([47, 108] : Str) ≤ 2 by decide) (by omega)) rfl (fun _ _ => trivial)) ?_
            rintro _ _ ⟨_, ⟨u_80, e_78, f_81, rfl, rfl⟩, rfl⟩
            refine ⟨(fun _ h => by cases h), ?_⟩
            refine JA.one (i := 0) (by kernel_rfl) ?_
            refine JX.op rfl rfl (JO.ofLO (LO.loadK 4 (vs := [.slice x_20.a0 m_21.s.length x_20.c0, .slice x_20.a1 m_21.r.length x_20.c1, .slice x_20.a2 m_21.w.length x_20.c2]) rfl rfl Tryz.isAgg32 Tryz.sizeOf32 rfl rfl)) ?_
            rintro _ _ ⟨rfl, rfl⟩
            refine ⟨(fun _ h => by cases h), ?_⟩
            refine JA.one (i := 3) (by kernel_rfl) ?_
            refine JX.op rfl rfl (JO.call [0, 0, 0] Tryz.call77 rfl (N_sNumAt x_20 m_21 k_19 (by omega) (by omega) u_80) rfl (fun _ _ => trivial)) ?_
            rintro _ _ ⟨_, ⟨x_90, m_91, n_92, e_88, k_89, f_93, rfl, rfl⟩, rfl⟩
            refine ⟨(fun _ h => by cases h), ?_⟩
            refine JA.take 4 rfl (by kernel_rfl) (NP.th NP.body) (by kernel_rfl) (by kernel_rfl) (by kernel_rfl) rfl (LO.pure (PO.move (v := .tuple #[mv x_90 m_91, .int .i64 n_92]) rfl)) ?_
            refine JA.take 5 rfl (by kernel_rfl) (NP.th NP.body) (by kernel_rfl) (by kernel_rfl) (by kernel_rfl) rfl (LO.pure (PO.extract (v := mv x_90 m_91) rfl rfl)) ?_
            refine JA.take 6 rfl (by kernel_rfl) (NP.th NP.body) (by kernel_rfl) (by kernel_rfl) (by kernel_rfl) rfl (LO.pure (PO.extract (v := .int .i64 n_92) rfl rfl)) ?_
            refine JA.one (i := 7) (by kernel_rfl) ?_
            refine JX.op rfl rfl (JO.store 4 (vs := [.slice x_90.a0 m_91.s.length x_90.c0, .slice x_90.a1 m_91.r.length x_90.c1, .slice x_90.a2 m_91.w.length x_90.c2]) (cs' := [.slice x_90.a0 m_91.s.length x_90.c0, .slice x_90.a1 m_91.r.length x_90.c1, .slice x_90.a2 m_91.w.length x_90.c2]) rfl rfl rfl rfl Tryz.sizeOf32 rfl rfl (Nat.le_of_ble_eq_true rfl) rfl) ?_
            rintro _ _ rfl
            refine ⟨(fun _ h => by cases h), ?_⟩
            refine JA.take 8 rfl (by kernel_rfl) (NP.th NP.body) (by kernel_rfl) (by kernel_rfl) (by kernel_rfl) rfl (LO.pure (PO.assign (v := .int .i64 n_92) rfl)) ?_
            refine JA.done (by kernel_rfl) ?_
            refine JQ.seq ?_
            refine JC.seq ?_
            refine JC.seq ?_
            refine JC.region ?_
            refine JL.pure rfl (PO.move (v := .int .i64 n_92) rfl) ?_
            refine JL.pure rfl (PO.geq rfl rfl) ?_
            refine JL.nil ?_
            refine JQ.seq ?_
            by_cases h_94 : 4 ≤ n_92
            · skip
              refine JC.condT (congrArg Value.bool (decide_eq_true h_94)) ?_
              refine JC.seq ?_
              refine JC.region ?_
              refine JL.ld rfl (LO.loadK 4 (vs := [.slice x_90.a0 m_91.s.length x_90.c0, .slice x_90.a1 m_91.r.length x_90.c1, .slice x_90.a2 m_91.w.length x_90.c2]) rfl rfl Tryz.isAgg32 Tryz.sizeOf32 rfl rfl) ?_
              refine JL.op rfl (JO.store 3 (vs := [.slice x_90.a0 m_91.s.length x_90.c0, .slice x_90.a1 m_91.r.length x_90.c1, .slice x_90.a2 m_91.w.length x_90.c2]) (cs' := [.slice x_90.a0 m_91.s.length x_90.c0, .slice x_90.a1 m_91.r.length x_90.c1, .slice x_90.a2 m_91.w.length x_90.c2]) rfl rfl rfl rfl Tryz.sizeOf32 rfl rfl (Nat.le_of_ble_eq_true rfl) rfl) ?_
              rintro _ _ rfl
              refine JL.pure rfl (PO.assign (v := .int .i64 3) rfl) ?_
              refine JL.nil ?_
              refine JQ.seq ?_
              refine JC.ret ?_
              refine JQ.thenRet ?_
              refine Done.two (.inl rfl) rfl (RV.cell1 (LO.loadK 3 (vs := [.slice x_90.a0 m_91.s.length x_90.c0, .slice x_90.a1 m_91.r.length x_90.c1, .slice x_90.a2 m_91.w.length x_90.c2]) rfl rfl Tryz.isAgg32 Tryz.sizeOf32 rfl rfl) ⟨_, rfl⟩) (RV.tmp (v := .int .i64 3) rfl) (List.sublist_append_left [rC x_90.a0 x_90.c0 m_91.s, rS x_90.a1 x_90.c1 m_91.r, rS x_90.a2 x_90.c2 m_91.w] [mb b_2 x_90 m_91, mb b_1 x_90 m_91]) ?_
              exact ⟨x_90, m_91, 3, (by simp only [MS.linkName, e_3, h_6, e_7, h_10, e_11, h_17, e_18, h_24, e_78, e_88, h_94, if_true, if_false, Bool.false_eq_true, Bool.not_true, Bool.not_false]; (repeat (first | rw [if_pos (by omega)] | rw [if_neg (by omega)])); all_goals (first | rfl | simp only [if_true, if_false, Bool.false_eq_true, Bool.not_true, Bool.not_false, e_3, h_6, e_7, h_10, e_11, h_17, e_18, h_24, e_78, e_88, h_94])), (k_89.mono (by omega) (by omega)), (by first | omega | (simp only [List.length_append, List.length_cons, List.length_nil, List.length_take, List.length_drop]; omega)), rfl, rfl⟩
            · skip
              refine JC.condF (congrArg Value.bool (decide_eq_false h_94)) ?_
              refine JC.skip ?_
              refine JQ.seq ?_
              refine JC.seq ?_
              refine JC.region ?_
              refine JL.ld rfl (LO.loadK 4 (vs := [.slice x_90.a0 m_91.s.length x_90.c0, .slice x_90.a1 m_91.r.length x_90.c1, .slice x_90.a2 m_91.w.length x_90.c2]) rfl rfl Tryz.isAgg32 Tryz.sizeOf32 rfl rfl) ?_
              refine JL.pure rfl (PO.move (v := str to_) rfl) ?_
              refine JL.pure rfl (PO.addS rfl rfl (by (try simp only [List.length_append, List.length_cons, List.length_nil, List.length_drop, List.length_take]); omega)) ?_
              refine JL.pure rfl (PO.move (v := .int .i64 n_15) rfl) ?_
              refine JL.op rfl (JO.call [0, 0, 0] Tryz.call81 rfl (N_sSetNum x_90 m_91 k_89 (by omega) (by omega) ([110, 47] ++ to_) n_15 (by first | omega | (simp only [List.length_append, List.length_cons, List.length_nil, List.length_take, List.length_drop]; omega)) (by omega)) rfl (fun _ _ => trivial)) ?_
              rintro _ _ ⟨_, ⟨x_97, m_98, e_95, k_96, rfl, rfl⟩, rfl⟩
              refine JL.op rfl (JO.store 4 (vs := [.slice x_97.a0 m_98.s.length x_97.c0, .slice x_97.a1 m_98.r.length x_97.c1, .slice x_97.a2 m_98.w.length x_97.c2]) (cs' := [.slice x_97.a0 m_98.s.length x_97.c0, .slice x_97.a1 m_98.r.length x_97.c1, .slice x_97.a2 m_98.w.length x_97.c2]) rfl rfl rfl rfl Tryz.sizeOf32 rfl rfl (Nat.le_of_ble_eq_true rfl) rfl) ?_
              rintro _ _ rfl
              refine JL.nil ?_
              refine JQ.seq ?_
              refine JC.seq ?_
              refine JC.regionA [mb b_1 x_97 m_98] 7 mixed (by simp) ?_
              refine JA.take 0 rfl (by kernel_rfl) (NP.th NP.body) (by kernel_rfl) (by kernel_rfl) (by kernel_rfl) rfl (LO.loadK 0 (vs := [.slice x_97.a0 m_98.s.length x_97.c0, .slice x_97.a1 m_98.r.length x_97.c1, .slice x_97.a2 m_98.w.length x_97.c2]) rfl rfl Tryz.isAgg32 Tryz.sizeOf32 rfl rfl) ?_
              refine JA.take 1 rfl (by kernel_rfl) (NP.th NP.body) (by kernel_rfl) (by kernel_rfl) (by kernel_rfl) rfl (LO.pure (PO.move (v := .int .i64 n_15) rfl)) ?_
              refine JA.take 3 rfl (by kernel_rfl) (NP.th NP.body) (by kernel_rfl) (by kernel_rfl) (by kernel_rfl) rfl (LO.pure (PO.move (v := .int .i64 n_92) rfl)) ?_
              refine JA.take 4 rfl (by kernel_rfl) (NP.th NP.body) (by kernel_rfl) (by kernel_rfl) (by kernel_rfl) rfl (LO.pure (PO.add (c := n_92 + 1) rfl rfl (wr (by omega)))) ?_
              refine JA.one (i := 2) (by kernel_rfl) ?_
              refine JX.op rfl rfl (JO.call [] Tryz.call111 rfl (N_sKeyNum [105, 47] n_15 [47, 108] (show List.length ([105, 47] : Str) ≤ 2 by decide) (by omega) (show List.length ([47, 108] : Str) ≤ 2 by decide) (by omega)) rfl (fun _ _ => trivial)) ?_
              rintro _ _ ⟨_, ⟨u_113, e_111, f_114, rfl, rfl⟩, rfl⟩
              have hqe_111 := e_78.symm.trans e_111
              subst hqe_111
              refine ⟨(by simp), ?_⟩
              refine JA.one (i := 5) (by kernel_rfl) ?_
              refine JX.op rfl rfl (JO.call [0, 0, 0] Tryz.call81 rfl (N_sSetNum x_97 m_98 k_96 (by omega) (by omega) u_80 (n_92 + 1) (by omega) (by omega)) rfl (fun _ _ => trivial)) ?_
              rintro _ _ ⟨_, ⟨x_121, m_122, e_119, k_120, rfl, rfl⟩, rfl⟩
              refine ⟨(by simp), ?_⟩
              refine JA.one (i := 6) (by kernel_rfl) ?_
              refine JX.op rfl rfl (JO.store 3 (vs := [.slice x_121.a0 m_122.s.length x_121.c0, .slice x_121.a1 m_122.r.length x_121.c1, .slice x_121.a2 m_122.w.length x_121.c2]) (cs' := [.slice x_121.a0 m_122.s.length x_121.c0, .slice x_121.a1 m_122.r.length x_121.c1, .slice x_121.a2 m_122.w.length x_121.c2]) rfl rfl rfl rfl Tryz.sizeOf32 rfl rfl (Nat.le_of_ble_eq_true rfl) rfl) ?_
              rintro _ _ rfl
              refine ⟨(by simp), ?_⟩
              refine JA.take 7 rfl (by kernel_rfl) (NP.th NP.body) (by kernel_rfl) (by kernel_rfl) (by kernel_rfl) rfl (LO.pure (PO.assign (v := .int .i64 0) rfl)) ?_
              refine JA.done (by kernel_rfl) ?_
              refine JQ.seq ?_
              refine JC.ret ?_
              refine Done.two (.inl rfl) rfl (RV.cell1 (LO.loadK 3 (vs := [.slice x_121.a0 m_122.s.length x_121.c0, .slice x_121.a1 m_122.r.length x_121.c1, .slice x_121.a2 m_122.w.length x_121.c2]) rfl rfl Tryz.isAgg32 Tryz.sizeOf32 rfl rfl) ⟨_, rfl⟩) (RV.tmp (v := .int .i64 0) rfl) (List.sublist_append_left [rC x_121.a0 x_121.c0 m_122.s, rS x_121.a1 x_121.c1 m_122.r, rS x_121.a2 x_121.c2 m_122.w] [mb b_2 x_121 m_122, mb b_1 x_97 m_98]) ?_
              exact ⟨x_121, m_122, 0, (by simp only [MS.linkName, e_3, h_6, e_7, h_10, e_11, h_17, e_18, h_24, e_78, e_88, h_94, e_95, e_119, if_true, if_false, Bool.false_eq_true, Bool.not_true, Bool.not_false]; (repeat (first | rw [if_pos (by omega)] | rw [if_neg (by omega)])); all_goals (first | rfl | simp only [if_true, if_false, Bool.false_eq_true, Bool.not_true, Bool.not_false, e_3, h_6, e_7, h_10, e_11, h_17, e_18, h_24, e_78, e_88, h_94, e_95, e_119])), (k_120.mono (by omega) (by omega)), (by first | omega | (simp only [List.length_append, List.length_cons, List.length_nil, List.length_take, List.length_drop]; omega)), rfl, rfl⟩
        · skip
          refine JC.condT (congrArg Value.bool (congrArg Bool.not (decide_eq_false h_24))) ?_
          refine JC.seq ?_
          refine JC.region ?_
          refine JL.ld rfl (LO.loadK 4 (vs := [.slice x_20.a0 m_21.s.length x_20.c0, .slice x_20.a1 m_21.r.length x_20.c1, .slice x_20.a2 m_21.w.length x_20.c2]) rfl rfl Tryz.isAgg32 Tryz.sizeOf32 rfl rfl) ?_
          refine JL.op rfl (JO.store 3 (vs := [.slice x_20.a0 m_21.s.length x_20.c0, .slice x_20.a1 m_21.r.length x_20.c1, .slice x_20.a2 m_21.w.length x_20.c2]) (cs' := [.slice x_20.a0 m_21.s.length x_20.c0, .slice x_20.a1 m_21.r.length x_20.c1, .slice x_20.a2 m_21.w.length x_20.c2]) rfl rfl rfl rfl Tryz.sizeOf32 rfl rfl (Nat.le_of_ble_eq_true rfl) rfl) ?_
          rintro _ _ rfl
          refine JL.pure rfl (PO.assign (v := .int .i64 1) rfl) ?_
          refine JL.nil ?_
          refine JQ.seq ?_
          refine JC.ret ?_
          refine JQ.thenRet ?_
          refine Done.two (.inl rfl) rfl (RV.cell1 (LO.loadK 3 (vs := [.slice x_20.a0 m_21.s.length x_20.c0, .slice x_20.a1 m_21.r.length x_20.c1, .slice x_20.a2 m_21.w.length x_20.c2]) rfl rfl Tryz.isAgg32 Tryz.sizeOf32 rfl rfl) ⟨_, rfl⟩) (RV.tmp (v := .int .i64 1) rfl) (List.sublist_append_left [rC x_20.a0 x_20.c0 m_21.s, rS x_20.a1 x_20.c1 m_21.r, rS x_20.a2 x_20.c2 m_21.w] [mb b_2 x_20 m_21, mb b_1 x_20 m_21]) ?_
          exact ⟨x_20, m_21, 1, (by simp only [MS.linkName, e_3, h_6, e_7, h_10, e_11, h_17, e_18, h_24, if_true, if_false, Bool.false_eq_true, Bool.not_true, Bool.not_false]; (repeat (first | rw [if_pos (by omega)] | rw [if_neg (by omega)])); all_goals (first | rfl | simp only [if_true, if_false, Bool.false_eq_true, Bool.not_true, Bool.not_false, e_3, h_6, e_7, h_10, e_11, h_17, e_18, h_24])), (k_19.mono (by omega) (by omega)), (by first | omega | (simp only [List.length_append, List.length_cons, List.length_nil, List.length_take, List.length_drop]; omega)), rfl, rfl⟩
    · skip
      refine JC.condT (congrArg Value.bool (congrArg Bool.not h_10)) ?_
      refine JC.seq ?_
      refine JC.region ?_
      refine JL.ld rfl (LO.loadK 1 (vs := [.slice x.a0 m.s.length x.c0, .slice x.a1 m.r.length x.c1, .slice x.a2 m.w.length x.c2]) rfl rfl Tryz.isAgg32 Tryz.sizeOf32 rfl rfl) ?_
      refine JL.op rfl (JO.store 0 (vs := [.slice x.a0 m.s.length x.c0, .slice x.a1 m.r.length x.c1, .slice x.a2 m.w.length x.c2]) (cs' := [.slice x.a0 m.s.length x.c0, .slice x.a1 m.r.length x.c1, .slice x.a2 m.w.length x.c2]) rfl rfl rfl rfl Tryz.sizeOf32 rfl rfl (Nat.le_of_ble_eq_true rfl) rfl) ?_
      rintro _ _ rfl
      refine JL.pure rfl (PO.assign (v := .int .i64 4) rfl) ?_
      refine JL.nil ?_
      refine JQ.seq ?_
      refine JC.ret ?_
      refine JQ.thenRet ?_
      refine JQ.perm (pick_perm [2, 2, 2] (A := [rC x.a0 x.c0 m.s, rS x.a1 x.c1 m.r, rS x.a2 x.c2 m.w]) (F := [mb b_2 x m, mb b_1 x m]) rfl).symm ?_
      refine Done.two (.inl rfl) rfl (RV.cell1 (LO.loadK 3 (vs := [.slice x.a0 m.s.length x.c0, .slice x.a1 m.r.length x.c1, .slice x.a2 m.w.length x.c2]) rfl rfl Tryz.isAgg32 Tryz.sizeOf32 rfl rfl) ⟨_, rfl⟩) (RV.tmp (v := .int .i64 4) rfl) (List.sublist_append_left [rC x.a0 x.c0 m.s, rS x.a1 x.c1 m.r, rS x.a2 x.c2 m.w] [mb b_2 x m, mb b_1 x m]) ?_
      exact ⟨x, m, 4, (by simp only [MS.linkName, e_3, h_6, e_7, h_10, if_true, if_false, Bool.false_eq_true, Bool.not_true, Bool.not_false]; (repeat (first | rw [if_pos (by omega)] | rw [if_neg (by omega)])); all_goals (first | rfl | simp only [if_true, if_false, Bool.false_eq_true, Bool.not_true, Bool.not_false, e_3, h_6, e_7, h_10])), (hk.mono (by omega) (by omega)), (by first | omega | (simp only [List.length_append, List.length_cons, List.length_nil, List.length_take, List.length_drop]; omega)), rfl, rfl⟩
  · skip
    refine JL.guardOff (b := true) rfl rfl rfl (congrArg Value.bool (congrArg Bool.not h_6)) ?_
    refine JL.guardOff (b := true) rfl rfl rfl (congrArg Value.bool (congrArg Bool.not h_6)) ?_
    refine JL.guardOff (b := true) rfl rfl rfl (congrArg Value.bool (congrArg Bool.not h_6)) ?_
    refine JL.pure rfl (PO.pickT (v := .bool true) (congrArg Value.bool (congrArg Bool.not h_6)) rfl) ?_
    refine JL.nil ?_
    refine JQ.seq ?_
    refine JC.condT (congrArg Value.bool rfl) ?_
    refine JC.seq ?_
    refine JC.region ?_
    refine JL.ld rfl (LO.loadK 1 (vs := [.slice x.a0 m.s.length x.c0, .slice x.a1 m.r.length x.c1, .slice x.a2 m.w.length x.c2]) rfl rfl Tryz.isAgg32 Tryz.sizeOf32 rfl rfl) ?_
    refine JL.op rfl (JO.store 0 (vs := [.slice x.a0 m.s.length x.c0, .slice x.a1 m.r.length x.c1, .slice x.a2 m.w.length x.c2]) (cs' := [.slice x.a0 m.s.length x.c0, .slice x.a1 m.r.length x.c1, .slice x.a2 m.w.length x.c2]) rfl rfl rfl rfl Tryz.sizeOf32 rfl rfl (Nat.le_of_ble_eq_true rfl) rfl) ?_
    rintro _ _ rfl
    refine JL.pure rfl (PO.assign (v := .int .i64 4) rfl) ?_
    refine JL.nil ?_
    refine JQ.seq ?_
    refine JC.ret ?_
    refine JQ.thenRet ?_
    refine JQ.perm (pick_perm [2, 2, 2] (A := [rC x.a0 x.c0 m.s, rS x.a1 x.c1 m.r, rS x.a2 x.c2 m.w]) (F := [mb b_2 x m, mb b_1 x m]) rfl).symm ?_
    refine Done.two (.inl rfl) rfl (RV.cell1 (LO.loadK 3 (vs := [.slice x.a0 m.s.length x.c0, .slice x.a1 m.r.length x.c1, .slice x.a2 m.w.length x.c2]) rfl rfl Tryz.isAgg32 Tryz.sizeOf32 rfl rfl) ⟨_, rfl⟩) (RV.tmp (v := .int .i64 4) rfl) (List.sublist_append_left [rC x.a0 x.c0 m.s, rS x.a1 x.c1 m.r, rS x.a2 x.c2 m.w] [mb b_2 x m, mb b_1 x m]) ?_
    exact ⟨x, m, 4, (by simp only [MS.linkName, e_3, h_6, if_true, if_false, Bool.false_eq_true, Bool.not_true, Bool.not_false]; (repeat (first | rw [if_pos (by omega)] | rw [if_neg (by omega)])); all_goals (first | rfl | simp only [if_true, if_false, Bool.false_eq_true, Bool.not_true, Bool.not_false, e_3, h_6])), (hk.mono (by omega) (by omega)), (by first | omega | (simp only [List.length_append, List.length_cons, List.length_nil, List.length_take, List.length_drop]; omega)), rfl, rfl⟩

theorem P_linkName (x : MA) (m : MS) {S T : Nat} (hk : m.ok S T) (hS : S ≤ 39000000) (hT : T ≤ 39000000) (from_ : Str) (to_ : Str) (hfrom_ : from_.length ≤ 100000000) (hto_ : to_.length ≤ 100000000) :
    Ct Tryz.prog 32 [mv x m, str from_, str to_] ([]) (fun w => seesM w x m) (fun v A' => ∃ x' m' r0, MS.linkName m from_ to_ = (m', r0) ∧ m'.ok (S + 2) (T + 5) ∧ (0 ≤ r0 ∧ r0 ≤ 9) ∧ v = .tuple #[mv x' m', .int .i64 r0] ∧ A' = mr x' m') := by
  refine Ct.intro Tryz.func32 rfl Tryz.ntmps32 (Nat.le_of_ble_eq_true rfl) fun w0 hpre => ?_
  have hs_x_a0 : Sees w0 _ _ _ _ := hpre.1
  have hs_x_a1 : Sees w0 _ _ _ _ := hpre.2.1
  have hs_x_a2 : Sees w0 _ _ _ _ := hpre.2.2
  refine JC.seq ?_
  refine JC.region ?_
  refine JL.op rfl (JO.box (cs := [.slice x.a0 m.s.length x.c0, .slice x.a1 m.r.length x.c1, .slice x.a2 m.w.length x.c2]) rfl rfl) ?_
  rintro _ _ ⟨b_1, rfl, rfl⟩
  refine JL.op rfl (JO.alloc (z := .agg #[.slice none 0 0, .slice none 0 0, .slice none 0 0]) (cs := [.slice none 0 0, .slice none 0 0, .slice none 0 0]) Tryz.zeroValue32 rfl) ?_
  rintro _ _ ⟨b_2, rfl, rfl⟩
  refine JL.pure rfl (PO.assign (v := .int .i64 0) rfl) ?_
  refine JL.nil ?_
  refine JQ.seq ?_
  refine JC.seq ?_
  refine JC.region ?_
  refine JL.ld rfl (LO.loadK 1 (vs := [.slice x.a0 m.s.length x.c0, .slice x.a1 m.r.length x.c1, .slice x.a2 m.w.length x.c2]) rfl rfl Tryz.isAgg32 Tryz.sizeOf32 rfl rfl) ?_
  refine JL.op rfl (JO.call [] Tryz.call47 rfl (N_clone x m hk (by omega) (by omega)) rfl (fun w hw => ⟨hw.seeOut_ hs_x_a0 (fun _ _ => List.not_mem_nil), hw.seeOut_ hs_x_a1 (fun _ _ => List.not_mem_nil), hw.seeOut_ hs_x_a2 (fun _ _ => List.not_mem_nil)⟩)) ?_
  rintro _ _ ⟨_, ⟨x_5, m_6, rfl, k_4, rfl, rfl⟩, rfl⟩
  refine JL.op rfl (JO.store 4 (vs := [.slice x_5.a0 m.s.length x_5.c0, .slice x_5.a1 m.r.length x_5.c1, .slice x_5.a2 m.w.length x_5.c2]) (cs' := [.slice x_5.a0 m.s.length x_5.c0, .slice x_5.a1 m.r.length x_5.c1, .slice x_5.a2 m.w.length x_5.c2]) rfl rfl rfl rfl Tryz.sizeOf32 rfl rfl (Nat.le_of_ble_eq_true rfl) rfl) ?_
  rintro _ _ rfl
  refine JL.nil ?_
  refine JQ.seq ?_
  refine JC.seq ?_
  refine JC.region ?_
  refine JL.pure rfl (PO.move (v := str from_) rfl) ?_
  refine JL.pure rfl (PO.move (v := str to_) rfl) ?_
  refine JL.op rfl (JO.call [4, 0, 0, 0] Tryz.call66 rfl (N_linkName b_1 x_5 m k_4 (by omega) (by omega) from_ to_ (by omega) (by omega)) rfl (fun _ _ => trivial)) ?_
  rintro _ _ ⟨_, ⟨x_9, m_10, n_11, e_7, k_8, f_12, rfl, rfl⟩, rfl⟩
  refine JL.pure rfl (PO.assign (v := .int .i64 n_11) rfl) ?_
  refine JL.nil ?_
  refine JQ.seq ?_
  refine JC.seq ?_
  refine JC.region ?_
  refine JL.ld rfl (LO.loadK 0 (vs := [.slice x_9.a0 m_10.s.length x_9.c0, .slice x_9.a1 m_10.r.length x_9.c1, .slice x_9.a2 m_10.w.length x_9.c2]) rfl rfl Tryz.isAgg32 Tryz.sizeOf32 rfl rfl) ?_
  refine JL.pure rfl (PO.move (v := .int .i64 n_11) rfl) ?_
  refine JL.op rfl (JO.store 4 (vs := [.slice x_9.a0 m_10.s.length x_9.c0, .slice x_9.a1 m_10.r.length x_9.c1, .slice x_9.a2 m_10.w.length x_9.c2]) (cs' := [.slice x_9.a0 m_10.s.length x_9.c0, .slice x_9.a1 m_10.r.length x_9.c1, .slice x_9.a2 m_10.w.length x_9.c2]) rfl rfl rfl rfl Tryz.sizeOf32 rfl rfl (Nat.le_of_ble_eq_true rfl) rfl) ?_
  rintro _ _ rfl
  refine JL.pure rfl (PO.assign (v := .int .i64 n_11) rfl) ?_
  refine JL.nil ?_
  refine JQ.seq ?_
  refine JC.ret ?_
  refine JQ.perm (pick_perm [1, 1, 1] (A := [rC x_9.a0 x_9.c0 m_10.s, rS x_9.a1 x_9.c1 m_10.r, rS x_9.a2 x_9.c2 m_10.w]) (F := [mb b_1 x_9 m_10, mb b_2 x_9 m_10]) rfl).symm ?_
  refine Done.two (.inl rfl) rfl (RV.cell1 (LO.loadK 4 (vs := [.slice x_9.a0 m_10.s.length x_9.c0, .slice x_9.a1 m_10.r.length x_9.c1, .slice x_9.a2 m_10.w.length x_9.c2]) rfl rfl Tryz.isAgg32 Tryz.sizeOf32 rfl rfl) ⟨_, rfl⟩) (RV.tmp (v := .int .i64 n_11) rfl) (List.sublist_append_left [rC x_9.a0 x_9.c0 m_10.s, rS x_9.a1 x_9.c1 m_10.r, rS x_9.a2 x_9.c2 m_10.w] [mb b_1 x_9 m_10, mb b_2 x_9 m_10]) ?_
  exact ⟨x_9, m_10, n_11, (by simp only [if_true, e_7, if_true, if_false, Bool.false_eq_true, Bool.not_true, Bool.not_false]; (repeat (first | rw [if_pos (by omega)] | rw [if_neg (by omega)])); all_goals (first | rfl | simp only [if_true, if_false, Bool.false_eq_true, Bool.not_true, Bool.not_false, e_7])), (k_8.mono (by omega) (by omega)), (by first | omega | (simp only [List.length_append, List.length_cons, List.length_nil, List.length_take, List.length_drop]; omega)), rfl, rfl⟩

theorem Q_linkName (x : MA) (m : MS) {S T : Nat} (hk : m.ok S T) (hS : S ≤ 39000000) (hT : T ≤ 39000000) (from_ : Str) (to_ : Str) (hfrom_ : from_.length ≤ 100000000) (hto_ : to_.length ≤ 100000000) :
    Ct Tryz.prog 31 [mv x m, str from_, str to_] ([]) (fun w => seesM w x m) (fun v A' => ∃ x' m' r0, MS.linkName m from_ to_ = (m', r0) ∧ m'.ok (S + 2) (T + 5) ∧ (0 ≤ r0 ∧ r0 ≤ 9) ∧ v = .tuple #[mv x' m', .int .i64 r0] ∧ A' = mr x' m') := by
  refine Ct.intro Tryz.func31 rfl Tryz.ntmps31 (Nat.le_of_ble_eq_true rfl) fun w0 hpre => ?_
  have hs_x_a0 : Sees w0 _ _ _ _ := hpre.1
  have hs_x_a1 : Sees w0 _ _ _ _ := hpre.2.1
  have hs_x_a2 : Sees w0 _ _ _ _ := hpre.2.2
  refine JC.seq ?_
  refine JC.region ?_
  refine JL.op rfl (JO.box (cs := [.slice x.a0 m.s.length x.c0, .slice x.a1 m.r.length x.c1, .slice x.a2 m.w.length x.c2]) rfl rfl) ?_
  rintro _ _ ⟨b_1, rfl, rfl⟩
  refine JL.op rfl (JO.alloc (z := .agg #[.slice none 0 0, .slice none 0 0, .slice none 0 0]) (cs := [.slice none 0 0, .slice none 0 0, .slice none 0 0]) Tryz.zeroValue32 rfl) ?_
  rintro _ _ ⟨b_2, rfl, rfl⟩
  refine JL.pure rfl (PO.assign (v := .int .i64 0) rfl) ?_
  refine JL.nil ?_
  refine JQ.seq ?_
  refine JC.seq ?_
  refine JC.region ?_
  refine JL.ld rfl (LO.loadK 1 (vs := [.slice x.a0 m.s.length x.c0, .slice x.a1 m.r.length x.c1, .slice x.a2 m.w.length x.c2]) rfl rfl Tryz.isAgg32 Tryz.sizeOf32 rfl rfl) ?_
  refine JL.op rfl (JO.call [] Tryz.call44 rfl (N_copy x m hk (by omega) (by omega)) rfl (fun w hw => ⟨hw.seeOut_ hs_x_a0 (fun _ _ => List.not_mem_nil), hw.seeOut_ hs_x_a1 (fun _ _ => List.not_mem_nil), hw.seeOut_ hs_x_a2 (fun _ _ => List.not_mem_nil)⟩)) ?_
  rintro _ _ ⟨_, ⟨x_5, m_6, rfl, k_4, rfl, rfl⟩, rfl⟩
  refine JL.pure rfl (PO.move (v := str from_) rfl) ?_
  refine JL.pure rfl (PO.move (v := str to_) rfl) ?_
  refine JL.op rfl (JO.call [0, 0, 0] Tryz.call65 rfl (M_linkName x_5 m k_4 (by omega) (by omega) from_ to_ (by omega) (by omega)) rfl (fun _ _ => trivial)) ?_
  rintro _ _ ⟨_, ⟨x_9, m_10, n_11, e_7, k_8, f_12, rfl, rfl⟩, rfl⟩
  refine JL.pure rfl (PO.extract (v := mv x_9 m_10) rfl rfl) ?_
  refine JL.pure rfl (PO.extract (v := .int .i64 n_11) rfl rfl) ?_
  refine JL.op rfl (JO.store 3 (vs := [.slice x_9.a0 m_10.s.length x_9.c0, .slice x_9.a1 m_10.r.length x_9.c1, .slice x_9.a2 m_10.w.length x_9.c2]) (cs' := [.slice x_9.a0 m_10.s.length x_9.c0, .slice x_9.a1 m_10.r.length x_9.c1, .slice x_9.a2 m_10.w.length x_9.c2]) rfl rfl rfl rfl Tryz.sizeOf32 rfl rfl (Nat.le_of_ble_eq_true rfl) rfl) ?_
  rintro _ _ rfl
  refine JL.pure rfl (PO.assign (v := .int .i64 n_11) rfl) ?_
  refine JL.nil ?_
  refine JQ.seq ?_
  refine JC.ret ?_
  refine Done.two (.inl rfl) rfl (RV.cell1 (LO.loadK 3 (vs := [.slice x_9.a0 m_10.s.length x_9.c0, .slice x_9.a1 m_10.r.length x_9.c1, .slice x_9.a2 m_10.w.length x_9.c2]) rfl rfl Tryz.isAgg32 Tryz.sizeOf32 rfl rfl) ⟨_, rfl⟩) (RV.tmp (v := .int .i64 n_11) rfl) (List.sublist_append_left [rC x_9.a0 x_9.c0 m_10.s, rS x_9.a1 x_9.c1 m_10.r, rS x_9.a2 x_9.c2 m_10.w] [mb b_2 x_9 m_10, mb b_1 x m]) ?_
  exact ⟨x_9, m_10, n_11, (by simp only [if_true, e_7, if_true, if_false, Bool.false_eq_true, Bool.not_true, Bool.not_false]; (repeat (first | rw [if_pos (by omega)] | rw [if_neg (by omega)])); all_goals (first | rfl | simp only [if_true, if_false, Bool.false_eq_true, Bool.not_true, Bool.not_false, e_7])), (k_8.mono (by omega) (by omega)), (by first | omega | (simp only [List.length_append, List.length_cons, List.length_nil, List.length_take, List.length_drop]; omega)), rfl, rfl⟩

end Go.Proofs.YtdjecfpmjjjplaaGreatDoor
