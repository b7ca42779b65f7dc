/-
  Output, messages in pipes, pages (part 19).
-/
import Derived.Test.YthkffdkkffddeaaGreatDoorS18HEX
set_option linter.unusedSimpArgs false
set_option linter.unusedVariables false
set_option linter.unnecessarySimpa false
namespace Go.Proofs.YthkffdkkffddeaaGreatDoor
open Go Go.RowKit
attribute [local irreducible] JL JC JQ JO LO PO JA JX Ct

theorem N_putPipe (p : Nat) (x : MA) (m : MS) {S T : Nat} (hk : m.ok S T) (hS : S ≤ 50000000) (hT : T ≤ 50000000) (id : Int) (text : Str) (hid : -9223372036854775808 ≤ id ∧ id ≤ 9223372036854775807) (htext : text.length ≤ 1000000000000) :
    Ct Tryz.prog 78 [.pointer (some ⟨p, 0, none⟩), .int .i64 id, str text] (mb p x m :: mr x m) (fun _ => True) (fun v A' => ∃ x' m' r0, MS.putPipe m id text = (m', r0) ∧ m'.ok (S + 2) (T + 5) ∧ (0 ≤ r0 ∧ r0 ≤ 9) ∧ v = .int .i64 r0 ∧ A' = mb p x' m' :: mr x' m') := by
  refine Ct.intro Tryz.func78 rfl Tryz.ntmps78 (Nat.le_of_ble_eq_true rfl) fun w0 hpre => ?_
  refine JC.seq ?_
  refine JC.region ?_
  refine JL.pure rfl (PO.assign (v := .int .i64 0) rfl) ?_
  refine JL.nil ?_
  refine JQ.seq ?_
  refine JC.seq ?_
  refine JC.seq ?_
  refine JC.region ?_
  refine JL.pure rfl (PO.move (v := .pointer (some ⟨p, 0, none⟩)) rfl) ?_
  refine JL.pure rfl (PO.move (v := .int .i64 id) rfl) ?_
  refine JL.op rfl (JO.call [0, 0, 0, 0] Tryz.call128 rfl (N_isPipe p x m hk (by omega) (by omega) id (by omega)) rfl (fun _ _ => trivial)) ?_
  rintro _ _ ⟨_, ⟨x_3, m_4, b_5, e_1, k_2, rfl, rfl⟩, rfl⟩
  refine JL.pure rfl (PO.not rfl) ?_
  refine JL.nil ?_
  refine JQ.seq ?_
  rcases Bool.eq_false_or_eq_true (b_5) with h_6 | h_6
  · skip
    refine JC.condF (congrArg Value.bool (congrArg Bool.not h_6)) ?_
    refine JC.skip ?_
    refine JQ.seq ?_
    refine JC.seq ?_
    refine JC.seq ?_
    refine JC.region ?_
    refine JL.pure rfl (PO.move (v := str text) rfl) ?_
    refine JL.pure rfl (PO.lenS Tryz.underlying9 rfl) ?_
    refine JL.pure rfl (PO.gtr rfl rfl) ?_
    refine JL.nil ?_
    refine JQ.seq ?_
    by_cases h_7 : 20 < (text.length : Int)
    · skip
      refine JC.condT (congrArg Value.bool (decide_eq_true h_7)) ?_
      refine JC.seq ?_
      refine JC.region ?_
      refine JL.pure rfl (PO.assign (v := .int .i64 4) rfl) ?_
      refine JL.nil ?_
      refine JQ.seq ?_
      refine JC.ret ?_
      refine JQ.thenRet ?_
      refine Done.one (.inl rfl) rfl (RV.tmp (v := .int .i64 4) rfl) (List.Sublist.refl _) ?_
      exact ⟨x_3, m_4, 4, (by simp only [MS.putPipe, e_1, h_6, h_7, if_true, if_false, Bool.false_eq_true, Bool.not_true, Bool.not_false]; (repeat (first | rw [if_pos (by omega)] | rw [if_neg (by omega)])); all_goals (first | rfl | simp only [if_true, if_false, Bool.false_eq_true, Bool.not_true, Bool.not_false, e_1, h_6, h_7])), (k_2.mono (by omega) (by omega)), (by first | omega | (simp only [List.length_append, List.length_cons, List.length_nil, List.length_take, List.length_drop]; omega)), rfl, rfl⟩
    · skip
      refine JC.condF (congrArg Value.bool (decide_eq_false h_7)) ?_
      refine JC.skip ?_
      refine JQ.seq ?_
      refine JC.seq ?_
      refine JC.region ?_
      refine JL.pure rfl (PO.move (v := .pointer (some ⟨p, 0, none⟩)) rfl) ?_
      refine JL.pure rfl (PO.move (v := .int .i64 id) rfl) ?_
      refine JL.op rfl (JO.call [] Tryz.call110 rfl (N_pipeKey id [47, 116] (by omega) (show List.length ([47, 116] : Str) ≤ 2 by decide) (by omega)) rfl (fun _ _ => trivial)) ?_
      rintro _ _ ⟨_, ⟨u_10, e_8, f_11, rfl, rfl⟩, rfl⟩
      refine JL.op rfl (JO.call [0, 0, 0, 0] Tryz.call91 rfl (N_num p x_3 m_4 k_2 (by omega) (by omega) u_10) rfl (fun _ _ => trivial)) ?_
      rintro _ _ ⟨_, ⟨x_14, m_15, n_16, e_12, k_13, f_17, rfl, rfl⟩, rfl⟩
      refine JL.pure rfl (PO.assign (v := .int .i64 n_16) rfl) ?_
      refine JL.nil ?_
      refine JQ.seq ?_
      refine JC.seq ?_
      refine JC.region ?_
      refine JL.pure rfl (PO.move (v := .pointer (some ⟨p, 0, none⟩)) rfl) ?_
      refine JL.pure rfl (PO.move (v := .int .i64 id) rfl) ?_
      refine JL.op rfl (JO.call [] Tryz.call110 rfl (N_pipeKey id [47, 104] (by omega) (show List.length ([47, 104] : Str) ≤ 2 by decide) (by omega)) rfl (fun _ _ => trivial)) ?_
      rintro _ _ ⟨_, ⟨u_20, e_18, f_21, rfl, rfl⟩, rfl⟩
      refine JL.op rfl (JO.call [0, 0, 0, 0] Tryz.call91 rfl (N_num p x_14 m_15 k_13 (by omega) (by omega) u_20) rfl (fun _ _ => trivial)) ?_
      rintro _ _ ⟨_, ⟨x_24, m_25, n_26, e_22, k_23, f_27, rfl, rfl⟩, rfl⟩
      refine JL.pure rfl (PO.assign (v := .int .i64 n_26) rfl) ?_
      refine JL.nil ?_
      refine JQ.seq ?_
      refine JC.seq ?_
      refine JC.block ?_
      refine JC.seq ?_
      refine JC.region ?_
      refine JL.pure rfl (PO.move (v := .int .i64 n_16) rfl) ?_
      refine JL.pure rfl (PO.move (v := .int .i64 n_26) rfl) ?_
      refine JL.pure rfl (PO.sub (c := n_16 - n_26) rfl rfl (wr (by omega))) ?_
      refine JL.pure rfl (PO.geq rfl rfl) ?_
      refine JL.pure rfl (PO.assign (v := .bool (decide (4 ≤ (n_16 - n_26)))) rfl) ?_
      refine JL.nil ?_
      refine JQ.seq ?_
      by_cases h_28 : 4 ≤ (n_16 - n_26)
      · skip
        refine JC.condT (congrArg Value.bool (decide_eq_true h_28)) ?_
        refine JC.seq ?_
        refine JC.region ?_
        refine JL.pure rfl (PO.assign (v := .int .i64 5) rfl) ?_
        refine JL.nil ?_
        refine JQ.seq ?_
        refine JC.ret ?_
        refine JQ.blockRet ?_
        refine JQ.thenRet ?_
        refine Done.one (.inl rfl) rfl (RV.tmp (v := .int .i64 5) rfl) (List.Sublist.refl _) ?_
        exact ⟨x_24, m_25, 5, (by simp only [MS.putPipe, e_1, h_6, h_7, e_8, e_12, e_18, e_22, h_28, if_true, if_false, Bool.false_eq_true, Bool.not_true, Bool.not_false]; (repeat (first | rw [if_pos (by omega)] | rw [if_neg (by omega)])); all_goals (first | rfl | simp only [if_true, if_false, Bool.false_eq_true, Bool.not_true, Bool.not_false, e_1, h_6, h_7, e_8, e_12, e_18, e_22, h_28])), (k_23.mono (by omega) (by omega)), (by first | omega | (simp only [List.length_append, List.length_cons, List.length_nil, List.length_take, List.length_drop]; omega)), rfl, rfl⟩
      · skip
        refine JC.condF (congrArg Value.bool (decide_eq_false h_28)) ?_
        refine JC.seq ?_
        refine JC.region ?_
        refine JL.pure rfl (PO.move (v := .int .i64 n_16) rfl) ?_
        refine JL.pure rfl (PO.geq rfl rfl) ?_
        refine JL.pure rfl (PO.assign (v := .bool (decide (999 ≤ n_16))) rfl) ?_
        refine JL.nil ?_
        refine JQ.seq ?_
        by_cases h_29 : 999 ≤ n_16
        · skip
          refine JC.condT (congrArg Value.bool (decide_eq_true h_29)) ?_
          refine JC.seq ?_
          refine JC.region ?_
          refine JL.pure rfl (PO.assign (v := .int .i64 3) rfl) ?_
          refine JL.nil ?_
          refine JQ.seq ?_
          refine JC.ret ?_
          refine JQ.blockRet ?_
          refine JQ.thenRet ?_
          refine Done.one (.inl rfl) rfl (RV.tmp (v := .int .i64 3) rfl) (List.Sublist.refl _) ?_
          exact ⟨x_24, m_25, 3, (by simp only [MS.putPipe, e_1, h_6, h_7, e_8, e_12, e_18, e_22, h_28, h_29, if_true, if_false, Bool.false_eq_true, Bool.not_true, Bool.not_false]; (repeat (first | rw [if_pos (by omega)] | rw [if_neg (by omega)])); all_goals (first | rfl | simp only [if_true, if_false, Bool.false_eq_true, Bool.not_true, Bool.not_false, e_1, h_6, h_7, e_8, e_12, e_18, e_22, h_28, h_29])), (k_23.mono (by omega) (by omega)), (by first | omega | (simp only [List.length_append, List.length_cons, List.length_nil, List.length_take, List.length_drop]; omega)), rfl, rfl⟩
        · skip
          refine JC.condF (congrArg Value.bool (decide_eq_false h_29)) ?_
          refine JC.skip ?_
          refine JQ.blockN ?_
          refine JQ.seq ?_
          refine JC.seq ?_
          refine JC.region ?_
          refine JL.pure rfl (PO.move (v := .pointer (some ⟨p, 0, none⟩)) rfl) ?_
          refine JL.pure rfl (PO.move (v := .int .i64 id) rfl) ?_
          refine JL.op rfl (JO.call [] Tryz.call110 rfl (N_pipeKey id [47, 116] (by omega) (show List.length ([47, 116] : Str) ≤ 2 by decide) (by omega)) rfl (fun _ _ => trivial)) ?_
          rintro _ _ ⟨_, ⟨u_32, e_30, f_33, rfl, rfl⟩, rfl⟩
          have hqe_30 := e_8.symm.trans e_30
          subst hqe_30
          refine JL.pure rfl (PO.move (v := .int .i64 n_16) rfl) ?_
          refine JL.pure rfl (PO.add (c := n_16 + 1) rfl rfl (wr (by omega))) ?_
          refine JL.op rfl (JO.call [0, 0, 0, 0] Tryz.call95 rfl (N_setNum p x_24 m_25 k_23 (by omega) (by omega) u_10 (n_16 + 1) (by omega) (by omega)) rfl (fun _ _ => trivial)) ?_
          rintro _ _ ⟨_, ⟨x_36, m_37, e_34, k_35, rfl, rfl⟩, rfl⟩
          refine JL.nil ?_
          refine JQ.seq ?_
          refine JC.seq ?_
          refine JC.region ?_
          refine JL.pure rfl (PO.move (v := .pointer (some ⟨p, 0, none⟩)) rfl) ?_
          refine JL.pure rfl (PO.move (v := .int .i64 id) rfl) ?_
          refine JL.op rfl (JO.call [] Tryz.call110 rfl (N_pipeKey id [47, 113, 47] (by omega) (show List.length ([47, 113, 47] : Str) ≤ 3 by decide) (by omega)) rfl (fun _ _ => trivial)) ?_
          rintro _ _ ⟨_, ⟨u_40, e_38, f_41, rfl, rfl⟩, rfl⟩
          refine JL.pure rfl (PO.move (v := .int .i64 n_16) rfl) ?_
          refine JL.pure rfl (PO.add (c := n_16 + 1) rfl rfl (wr (by omega))) ?_
          refine JL.op rfl (JO.call [] Tryz.call93 rfl (N_keyNum u_40 (n_16 + 1) [] (Nat.le_refl _) (by omega) (show List.length ([] : Str) ≤ 0 by decide) (by omega)) rfl (fun _ _ => trivial)) ?_
          rintro _ _ ⟨_, ⟨u_44, e_42, f_45, rfl, rfl⟩, rfl⟩
          refine JL.pure rfl (PO.move (v := str text) rfl) ?_
          refine JL.op rfl (JO.call [] Tryz.call117 rfl (N_hexOf text (by omega)) rfl (fun _ _ => trivial)) ?_
          rintro _ _ ⟨_, ⟨u_48, e_46, f_49, rfl, rfl⟩, rfl⟩
          refine JL.pure rfl (PO.addS rfl rfl (by (try simp only [List.length_append, List.length_cons, List.length_nil, List.length_drop, List.length_take]); omega)) ?_
          refine JL.op rfl (JO.call [0, 0, 0, 0] Tryz.call94 rfl (N_lay p x_36 m_37 k_35 (by omega) (by omega) u_44 ([45] ++ u_48) (by omega)) rfl (fun _ _ => trivial)) ?_
          rintro _ _ ⟨_, ⟨x_52, m_53, e_50, k_51, rfl, rfl⟩, rfl⟩
          refine JL.nil ?_
          refine JQ.seq ?_
          refine JC.seq ?_
          refine JC.region ?_
          refine JL.pure rfl (PO.assign (v := .int .i64 0) rfl) ?_
          refine JL.nil ?_
          refine JQ.seq ?_
          refine JC.ret ?_
          refine Done.one (.inl rfl) rfl (RV.tmp (v := .int .i64 0) rfl) (List.Sublist.refl _) ?_
          exact ⟨x_52, m_53, 0, (by simp only [MS.putPipe, e_1, h_6, h_7, e_8, e_12, e_18, e_22, h_28, h_29, e_34, e_38, e_42, e_46, e_50, if_true, if_false, Bool.false_eq_true, Bool.not_true, Bool.not_false]; (repeat (first | rw [if_pos (by omega)] | rw [if_neg (by omega)])); all_goals (first | rfl | simp only [if_true, if_false, Bool.false_eq_true, Bool.not_true, Bool.not_false, e_1, h_6, h_7, e_8, e_12, e_18, e_22, h_28, h_29, e_34, e_38, e_42, e_46, e_50])), (k_51.mono (by omega) (by omega)), (by first | omega | (simp only [List.length_append, List.length_cons, List.length_nil, List.length_take, List.length_drop]; omega)), rfl, rfl⟩
  · skip
    refine JC.condT (congrArg Value.bool (congrArg Bool.not h_6)) ?_
    refine JC.seq ?_
    refine JC.region ?_
    refine JL.pure rfl (PO.assign (v := .int .i64 2) rfl) ?_
    refine JL.nil ?_
    refine JQ.seq ?_
    refine JC.ret ?_
    refine JQ.thenRet ?_
    refine Done.one (.inl rfl) rfl (RV.tmp (v := .int .i64 2) rfl) (List.Sublist.refl _) ?_
    exact ⟨x_3, m_4, 2, (by simp only [MS.putPipe, e_1, h_6, if_true, if_false, Bool.false_eq_true, Bool.not_true, Bool.not_false]; (repeat (first | rw [if_pos (by omega)] | rw [if_neg (by omega)])); all_goals (first | rfl | simp only [if_true, if_false, Bool.false_eq_true, Bool.not_true, Bool.not_false, e_1, h_6])), (k_2.mono (by omega) (by omega)), (by first | omega | (simp only [List.length_append, List.length_cons, List.length_nil, List.length_take, List.length_drop]; omega)), rfl, rfl⟩

theorem M_putPipe (x : MA) (m : MS) {S T : Nat} (hk : m.ok S T) (hS : S ≤ 50000000) (hT : T ≤ 50000000) (id : Int) (text : Str) (hid : -9223372036854775808 ≤ id ∧ id ≤ 9223372036854775807) (htext : text.length ≤ 1000000000000) :
    Ct Tryz.prog 77 [mv x m, .int .i64 id, str text] (mr x m) (fun _ => True) (fun v A' => ∃ x' m' r0, MS.putPipe m id text = (m', r0) ∧ m'.ok (S + 2) (T + 5) ∧ (0 ≤ r0 ∧ r0 ≤ 9) ∧ v = .tuple #[mv x' m', .int .i64 r0] ∧ A' = mr x' m') := by
  refine Ct.intro Tryz.func77 rfl Tryz.ntmps77 (Nat.le_of_ble_eq_true rfl) fun w0 hpre => ?_
  refine JC.seq ?_
  refine JC.region ?_
  refine JL.op rfl (JO.box (cs := [.slice x.a0 m.s.length x.c0, .slice x.a1 m.r.length x.c1, .slice x.a2 m.w.length x.c2]) rfl rfl) ?_
  rintro _ _ ⟨b_1, rfl, rfl⟩
  refine JL.op rfl (JO.alloc (z := .agg #[.slice none 0 0, .slice none 0 0, .slice none 0 0]) (cs := [.slice none 0 0, .slice none 0 0, .slice none 0 0]) Tryz.zeroValue32 rfl) ?_
  rintro _ _ ⟨b_2, rfl, rfl⟩
  refine JL.pure rfl (PO.assign (v := .int .i64 0) rfl) ?_
  refine JL.nil ?_
  refine JQ.seq ?_
  refine JC.seq ?_
  refine JC.region ?_
  refine JL.ld rfl (LO.loadK 1 (vs := [.slice x.a0 m.s.length x.c0, .slice x.a1 m.r.length x.c1, .slice x.a2 m.w.length x.c2]) rfl rfl Tryz.isAgg32 Tryz.sizeOf32 rfl rfl) ?_
  refine JL.pure rfl (PO.move (v := .int .i64 id) rfl) ?_
  refine JL.op rfl (JO.call [2, 2, 2] Tryz.call126 rfl (M_isPipe x m hk (by omega) (by omega) id (by omega)) rfl (fun _ _ => trivial)) ?_
  rintro _ _ ⟨_, ⟨x_5, m_6, b_7, e_3, k_4, rfl, rfl⟩, rfl⟩
  refine JL.pure rfl (PO.move (v := .tuple #[mv x_5 m_6, .bool b_7]) rfl) ?_
  refine JL.pure rfl (PO.extract (v := mv x_5 m_6) rfl rfl) ?_
  refine JL.pure rfl (PO.extract (v := .bool b_7) rfl rfl) ?_
  refine JL.op rfl (JO.store 4 (vs := [.slice x_5.a0 m_6.s.length x_5.c0, .slice x_5.a1 m_6.r.length x_5.c1, .slice x_5.a2 m_6.w.length x_5.c2]) (cs' := [.slice x_5.a0 m_6.s.length x_5.c0, .slice x_5.a1 m_6.r.length x_5.c1, .slice x_5.a2 m_6.w.length x_5.c2]) rfl rfl rfl rfl Tryz.sizeOf32 rfl rfl (Nat.le_of_ble_eq_true rfl) rfl) ?_
  rintro _ _ rfl
  refine JL.pure rfl (PO.assign (v := .bool b_7) rfl) ?_
  refine JL.nil ?_
  refine JQ.seq ?_
  refine JC.seq ?_
  refine JC.seq ?_
  refine JC.region ?_
  refine JL.pure rfl (PO.move (v := .bool b_7) rfl) ?_
  refine JL.pure rfl (PO.not rfl) ?_
  refine JL.nil ?_
  refine JQ.seq ?_
  rcases Bool.eq_false_or_eq_true (b_7) with h_8 | h_8
  · skip
    refine JC.condF (congrArg Value.bool (congrArg Bool.not h_8)) ?_
    refine JC.skip ?_
    refine JQ.seq ?_
    refine JC.seq ?_
    refine JC.seq ?_
    refine JC.region ?_
    refine JL.pure rfl (PO.move (v := str text) rfl) ?_
    refine JL.pure rfl (PO.lenS Tryz.underlying9 rfl) ?_
    refine JL.pure rfl (PO.gtr rfl rfl) ?_
    refine JL.nil ?_
    refine JQ.seq ?_
    by_cases h_9 : 20 < (text.length : Int)
    · skip
      refine JC.condT (congrArg Value.bool (decide_eq_true h_9)) ?_
      refine JC.seq ?_
      refine JC.region ?_
      refine JL.ld rfl (LO.loadK 4 (vs := [.slice x_5.a0 m_6.s.length x_5.c0, .slice x_5.a1 m_6.r.length x_5.c1, .slice x_5.a2 m_6.w.length x_5.c2]) rfl rfl Tryz.isAgg32 Tryz.sizeOf32 rfl rfl) ?_
      refine JL.op rfl (JO.store 3 (vs := [.slice x_5.a0 m_6.s.length x_5.c0, .slice x_5.a1 m_6.r.length x_5.c1, .slice x_5.a2 m_6.w.length x_5.c2]) (cs' := [.slice x_5.a0 m_6.s.length x_5.c0, .slice x_5.a1 m_6.r.length x_5.c1, .slice x_5.a2 m_6.w.length x_5.c2]) rfl rfl rfl rfl Tryz.sizeOf32 rfl rfl (Nat.le_of_ble_eq_true rfl) rfl) ?_
      rintro _ _ rfl
      refine JL.pure rfl (PO.assign (v := .int .i64 4) rfl) ?_
      refine JL.nil ?_
      refine JQ.seq ?_
      refine JC.ret ?_
      refine JQ.thenRet ?_
      refine Done.two (.inl rfl) rfl (RV.cell1 (LO.loadK 3 (vs := [.slice x_5.a0 m_6.s.length x_5.c0, .slice x_5.a1 m_6.r.length x_5.c1, .slice x_5.a2 m_6.w.length x_5.c2]) rfl rfl Tryz.isAgg32 Tryz.sizeOf32 rfl rfl) ⟨_, rfl⟩) (RV.tmp (v := .int .i64 4) rfl) (List.sublist_append_left [rC x_5.a0 x_5.c0 m_6.s, rS x_5.a1 x_5.c1 m_6.r, rS x_5.a2 x_5.c2 m_6.w] [mb b_2 x_5 m_6, mb b_1 x_5 m_6]) ?_
      exact ⟨x_5, m_6, 4, (by simp only [MS.putPipe, hexS_P, e_3, h_8, h_9, if_true, if_false, Bool.false_eq_true, Bool.not_true, Bool.not_false]; (repeat (first | rw [if_pos (by omega)] | rw [if_neg (by omega)])); all_goals (first | rfl | simp only [if_true, if_false, Bool.false_eq_true, Bool.not_true, Bool.not_false, e_3, h_8, h_9])), (k_4.mono (by omega) (by omega)), (by first | omega | (simp only [List.length_append, List.length_cons, List.length_nil, List.length_take, List.length_drop]; omega)), rfl, rfl⟩
    · skip
      refine JC.condF (congrArg Value.bool (decide_eq_false h_9)) ?_
      refine JC.skip ?_
      refine JQ.seq ?_
      refine JC.seq ?_
      refine JC.regionA [mb b_1 x_5 m_6] 7 mixed (by simp) ?_
      refine JA.take 0 rfl (by kernel_rfl) (NP.th NP.body) (by kernel_rfl) (by kernel_rfl) (by kernel_rfl) rfl (LO.loadK 0 (vs := [.slice x_5.a0 m_6.s.length x_5.c0, .slice x_5.a1 m_6.r.length x_5.c1, .slice x_5.a2 m_6.w.length x_5.c2]) rfl rfl Tryz.isAgg32 Tryz.sizeOf32 rfl rfl) ?_
      refine JA.takeP 1 rfl (by kernel_rfl) (NP.th NP.body) (by kernel_rfl) (by kernel_rfl) rfl (PO.move (v := .int .i64 id) rfl) ?_
      refine JA.one (i := 2) (by kernel_rfl) ?_
      refine JX.op rfl rfl (JO.call [] Tryz.call108 rfl (N_l08Key id [47, 116] (by omega) (show List.length ([47, 116] : Str) ≤ 2 by decide) (by omega)) rfl (fun _ _ => trivial)) ?_
      rintro _ _ ⟨_, ⟨u_16, e_14, f_17, rfl, rfl⟩, rfl⟩
      refine ⟨(by simp), ?_⟩
      refine JA.one (i := 3) (by kernel_rfl) ?_
      refine JX.op rfl rfl (JO.call [0, 0, 0] Tryz.call81 rfl (N_sNumAt x_5 m_6 k_4 (by omega) (by omega) u_16) rfl (fun _ _ => trivial)) ?_
      rintro _ _ ⟨_, ⟨x_26, m_27, n_28, e_24, k_25, f_29, rfl, rfl⟩, rfl⟩
      refine ⟨(by simp), ?_⟩
      refine JA.takeP 4 rfl (by kernel_rfl) (NP.th NP.body) (by kernel_rfl) (by kernel_rfl) rfl (PO.move (v := .tuple #[mv x_26 m_27, .int .i64 n_28]) rfl) ?_
      refine JA.takeP 5 rfl (by kernel_rfl) (NP.th NP.body) (by kernel_rfl) (by kernel_rfl) rfl (PO.extract (v := mv x_26 m_27) rfl rfl) ?_
      refine JA.takeP 6 rfl (by kernel_rfl) (NP.th NP.body) (by kernel_rfl) (by kernel_rfl) rfl (PO.extract (v := .int .i64 n_28) rfl rfl) ?_
      refine JA.one (i := 7) (by kernel_rfl) ?_
      refine JX.late rfl rfl (by decide) (by kernel_rfl) (JO.store 4 (vs := [.slice x_26.a0 m_27.s.length x_26.c0, .slice x_26.a1 m_27.r.length x_26.c1, .slice x_26.a2 m_27.w.length x_26.c2]) (cs' := [.slice x_26.a0 m_27.s.length x_26.c0, .slice x_26.a1 m_27.r.length x_26.c1, .slice x_26.a2 m_27.w.length x_26.c2]) rfl rfl rfl rfl Tryz.sizeOf32 rfl rfl (Nat.le_of_ble_eq_true rfl) rfl) ?_
      rintro _ _ rfl
      refine JA.takeP 8 rfl (by kernel_rfl) (NP.th NP.body) (by kernel_rfl) (by kernel_rfl) rfl (PO.assign (v := .int .i64 n_28) rfl) ?_
      refine JA.done (by kernel_rfl) ?_
      refine JQ.seq ?_
      refine JC.seq ?_
      refine JC.regionA [mb b_1 x_26 m_27] 7 mixed (by simp) ?_
      refine JA.take 0 rfl (by kernel_rfl) (NP.th NP.body) (by kernel_rfl) (by kernel_rfl) (by kernel_rfl) rfl (LO.loadK 0 (vs := [.slice x_26.a0 m_27.s.length x_26.c0, .slice x_26.a1 m_27.r.length x_26.c1, .slice x_26.a2 m_27.w.length x_26.c2]) rfl rfl Tryz.isAgg32 Tryz.sizeOf32 rfl rfl) ?_
      refine JA.takeP 1 rfl (by kernel_rfl) (NP.th NP.body) (by kernel_rfl) (by kernel_rfl) rfl (PO.move (v := .int .i64 id) rfl) ?_
      refine JA.one (i := 2) (by kernel_rfl) ?_
      refine JX.op rfl rfl (JO.call [] Tryz.call108 rfl (N_l08Key id [47, 104] (by omega) (show List.length ([47, 104] : Str) ≤ 2 by decide) (by omega)) rfl (fun _ _ => trivial)) ?_
      rintro _ _ ⟨_, ⟨u_36, e_34, f_37, rfl, rfl⟩, rfl⟩
      refine ⟨(by simp), ?_⟩
      refine JA.one (i := 3) (by kernel_rfl) ?_
      refine JX.op rfl rfl (JO.call [0, 0, 0] Tryz.call81 rfl (N_sNumAt x_26 m_27 k_25 (by omega) (by omega) u_36) rfl (fun _ _ => trivial)) ?_
      rintro _ _ ⟨_, ⟨x_46, m_47, n_48, e_44, k_45, f_49, rfl, rfl⟩, rfl⟩
      refine ⟨(by simp), ?_⟩
      refine JA.takeP 4 rfl (by kernel_rfl) (NP.th NP.body) (by kernel_rfl) (by kernel_rfl) rfl (PO.move (v := .tuple #[mv x_46 m_47, .int .i64 n_48]) rfl) ?_
      refine JA.takeP 5 rfl (by kernel_rfl) (NP.th NP.body) (by kernel_rfl) (by kernel_rfl) rfl (PO.extract (v := mv x_46 m_47) rfl rfl) ?_
      refine JA.takeP 6 rfl (by kernel_rfl) (NP.th NP.body) (by kernel_rfl) (by kernel_rfl) rfl (PO.extract (v := .int .i64 n_48) rfl rfl) ?_
      refine JA.one (i := 7) (by kernel_rfl) ?_
      refine JX.late rfl rfl (by decide) (by kernel_rfl) (JO.store 4 (vs := [.slice x_46.a0 m_47.s.length x_46.c0, .slice x_46.a1 m_47.r.length x_46.c1, .slice x_46.a2 m_47.w.length x_46.c2]) (cs' := [.slice x_46.a0 m_47.s.length x_46.c0, .slice x_46.a1 m_47.r.length x_46.c1, .slice x_46.a2 m_47.w.length x_46.c2]) rfl rfl rfl rfl Tryz.sizeOf32 rfl rfl (Nat.le_of_ble_eq_true rfl) rfl) ?_
      rintro _ _ rfl
      refine JA.takeP 8 rfl (by kernel_rfl) (NP.th NP.body) (by kernel_rfl) (by kernel_rfl) rfl (PO.assign (v := .int .i64 n_48) rfl) ?_
      refine JA.done (by kernel_rfl) ?_
      refine JQ.seq ?_
      refine JC.seq ?_
      refine JC.seq ?_
      refine JC.region ?_
      refine JL.pure rfl (PO.move (v := .int .i64 n_28) rfl) ?_
      refine JL.pure rfl (PO.move (v := .int .i64 n_48) rfl) ?_
      refine JL.pure rfl (PO.sub (c := n_28 - n_48) rfl rfl (wr (by omega))) ?_
      refine JL.pure rfl (PO.geq rfl rfl) ?_
      refine JL.nil ?_
      refine JQ.seq ?_
      by_cases h_50 : 4 ≤ (n_28 - n_48)
      · skip
        refine JC.condT (congrArg Value.bool (decide_eq_true h_50)) ?_
        refine JC.seq ?_
        refine JC.region ?_
        refine JL.ld rfl (LO.loadK 4 (vs := [.slice x_46.a0 m_47.s.length x_46.c0, .slice x_46.a1 m_47.r.length x_46.c1, .slice x_46.a2 m_47.w.length x_46.c2]) rfl rfl Tryz.isAgg32 Tryz.sizeOf32 rfl rfl) ?_
        refine JL.op rfl (JO.store 3 (vs := [.slice x_46.a0 m_47.s.length x_46.c0, .slice x_46.a1 m_47.r.length x_46.c1, .slice x_46.a2 m_47.w.length x_46.c2]) (cs' := [.slice x_46.a0 m_47.s.length x_46.c0, .slice x_46.a1 m_47.r.length x_46.c1, .slice x_46.a2 m_47.w.length x_46.c2]) rfl rfl rfl rfl Tryz.sizeOf32 rfl rfl (Nat.le_of_ble_eq_true rfl) rfl) ?_
        rintro _ _ rfl
        refine JL.pure rfl (PO.assign (v := .int .i64 5) rfl) ?_
        refine JL.nil ?_
        refine JQ.seq ?_
        refine JC.ret ?_
        refine JQ.thenRet ?_
        refine Done.two (.inl rfl) rfl (RV.cell1 (LO.loadK 3 (vs := [.slice x_46.a0 m_47.s.length x_46.c0, .slice x_46.a1 m_47.r.length x_46.c1, .slice x_46.a2 m_47.w.length x_46.c2]) rfl rfl Tryz.isAgg32 Tryz.sizeOf32 rfl rfl) ⟨_, rfl⟩) (RV.tmp (v := .int .i64 5) rfl) (List.sublist_append_left [rC x_46.a0 x_46.c0 m_47.s, rS x_46.a1 x_46.c1 m_47.r, rS x_46.a2 x_46.c2 m_47.w] [mb b_2 x_46 m_47, mb b_1 x_46 m_47]) ?_
        exact ⟨x_46, m_47, 5, (by simp only [MS.putPipe, hexS_P, e_3, h_8, h_9, e_14, e_24, e_34, e_44, h_50, if_true, if_false, Bool.false_eq_true, Bool.not_true, Bool.not_false]; (repeat (first | rw [if_pos (by omega)] | rw [if_neg (by omega)])); all_goals (first | rfl | simp only [if_true, if_false, Bool.false_eq_true, Bool.not_true, Bool.not_false, e_3, h_8, h_9, e_14, e_24, e_34, e_44, h_50])), (k_45.mono (by omega) (by omega)), (by first | omega | (simp only [List.length_append, List.length_cons, List.length_nil, List.length_take, List.length_drop]; omega)), rfl, rfl⟩
      · skip
        refine JC.condF (congrArg Value.bool (decide_eq_false h_50)) ?_
        refine JC.skip ?_
        refine JQ.seq ?_
        refine JC.seq ?_
        refine JC.seq ?_
        refine JC.region ?_
        refine JL.pure rfl (PO.move (v := .int .i64 n_28) rfl) ?_
        refine JL.pure rfl (PO.geq rfl rfl) ?_
        refine JL.nil ?_
        refine JQ.seq ?_
        by_cases h_51 : 999 ≤ n_28
        · skip
          refine JC.condT (congrArg Value.bool (decide_eq_true h_51)) ?_
          refine JC.seq ?_
          refine JC.region ?_
          refine JL.ld rfl (LO.loadK 4 (vs := [.slice x_46.a0 m_47.s.length x_46.c0, .slice x_46.a1 m_47.r.length x_46.c1, .slice x_46.a2 m_47.w.length x_46.c2]) rfl rfl Tryz.isAgg32 Tryz.sizeOf32 rfl rfl) ?_
          refine JL.op rfl (JO.store 3 (vs := [.slice x_46.a0 m_47.s.length x_46.c0, .slice x_46.a1 m_47.r.length x_46.c1, .slice x_46.a2 m_47.w.length x_46.c2]) (cs' := [.slice x_46.a0 m_47.s.length x_46.c0, .slice x_46.a1 m_47.r.length x_46.c1, .slice x_46.a2 m_47.w.length x_46.c2]) rfl rfl rfl rfl Tryz.sizeOf32 rfl rfl (Nat.le_of_ble_eq_true rfl) rfl) ?_
          rintro _ _ rfl
          refine JL.pure rfl (PO.assign (v := .int .i64 3) rfl) ?_
          refine JL.nil ?_
          refine JQ.seq ?_
          refine JC.ret ?_
          refine JQ.thenRet ?_
          refine Done.two (.inl rfl) rfl (RV.cell1 (LO.loadK 3 (vs := [.slice x_46.a0 m_47.s.length x_46.c0, .slice x_46.a1 m_47.r.length x_46.c1, .slice x_46.a2 m_47.w.length x_46.c2]) rfl rfl Tryz.isAgg32 Tryz.sizeOf32 rfl rfl) ⟨_, rfl⟩) (RV.tmp (v := .int .i64 3) rfl) (List.sublist_append_left [rC x_46.a0 x_46.c0 m_47.s, rS x_46.a1 x_46.c1 m_47.r, rS x_46.a2 x_46.c2 m_47.w] [mb b_2 x_46 m_47, mb b_1 x_46 m_47]) ?_
          exact ⟨x_46, m_47, 3, (by simp only [MS.putPipe, hexS_P, e_3, h_8, h_9, e_14, e_24, e_34, e_44, h_50, h_51, if_true, if_false, Bool.false_eq_true, Bool.not_true, Bool.not_false]; (repeat (first | rw [if_pos (by omega)] | rw [if_neg (by omega)])); all_goals (first | rfl | simp only [if_true, if_false, Bool.false_eq_true, Bool.not_true, Bool.not_false, e_3, h_8, h_9, e_14, e_24, e_34, e_44, h_50, h_51])), (k_45.mono (by omega) (by omega)), (by first | omega | (simp only [List.length_append, List.length_cons, List.length_nil, List.length_take, List.length_drop]; omega)), rfl, rfl⟩
        · skip
          refine JC.condF (congrArg Value.bool (decide_eq_false h_51)) ?_
          refine JC.skip ?_
          refine JQ.seq ?_
          refine JC.seq ?_
          refine JC.region ?_
          refine JL.pure rfl (PO.move (v := str text) rfl) ?_
          refine JL.op rfl (JO.call [] Tryz.call115 rfl (N_sHex text (by omega)) rfl (fun _ _ => trivial)) ?_
          rintro _ _ ⟨_, ⟨u_54, b_56, e_52, f_55, rfl, rfl⟩, rfl⟩
          refine JL.pure rfl (PO.move (v := .tuple #[str u_54, .bool b_56]) rfl) ?_
          refine JL.pure rfl (PO.extract (v := str u_54) rfl rfl) ?_
          refine JL.pure rfl (PO.extract (v := .bool b_56) rfl rfl) ?_
          refine JL.pure rfl (PO.assign (v := str u_54) rfl) ?_
          refine JL.pure rfl (PO.assign (v := .bool b_56) rfl) ?_
          refine JL.nil ?_
          refine JQ.seq ?_
          refine JC.seq ?_
          refine JC.regionA [mb b_1 x_46 m_47] 5 mixed (by simp) ?_
          refine JA.take 0 rfl (by kernel_rfl) (NP.th NP.body) (by kernel_rfl) (by kernel_rfl) (by kernel_rfl) rfl (LO.loadK 0 (vs := [.slice x_46.a0 m_47.s.length x_46.c0, .slice x_46.a1 m_47.r.length x_46.c1, .slice x_46.a2 m_47.w.length x_46.c2]) rfl rfl Tryz.isAgg32 Tryz.sizeOf32 rfl rfl) ?_
          refine JA.takeP 1 rfl (by kernel_rfl) (NP.th NP.body) (by kernel_rfl) (by kernel_rfl) rfl (PO.move (v := .int .i64 id) rfl) ?_
          refine JA.takeP 3 rfl (by kernel_rfl) (NP.th NP.body) (by kernel_rfl) (by kernel_rfl) rfl (PO.move (v := .int .i64 n_28) rfl) ?_
          refine JA.takeP 4 rfl (by kernel_rfl) (NP.th NP.body) (by kernel_rfl) (by kernel_rfl) rfl (PO.add (c := n_28 + 1) rfl rfl (wr (by omega))) ?_
          refine JA.one (i := 2) (by kernel_rfl) ?_
          refine JX.op rfl rfl (JO.call [] Tryz.call108 rfl (N_l08Key id [47, 116] (by omega) (show List.length ([47, 116] : Str) ≤ 2 by decide) (by omega)) rfl (fun _ _ => trivial)) ?_
          rintro _ _ ⟨_, ⟨u_71, e_69, f_72, rfl, rfl⟩, rfl⟩
          have hqe_69 := e_14.symm.trans e_69
          subst hqe_69
          refine ⟨(by simp), ?_⟩
          refine JA.one (i := 5) (by kernel_rfl) ?_
          refine JX.late rfl rfl (by decide) (by kernel_rfl) (JO.call [0, 0, 0] Tryz.call85 rfl (N_sSetNum x_46 m_47 k_45 (by omega) (by omega) u_16 (n_28 + 1) (by omega) (by omega)) rfl (fun _ _ => trivial)) ?_
          rintro _ _ ⟨_, ⟨x_79, m_80, e_77, k_78, rfl, rfl⟩, rfl⟩
          refine JA.one (i := 6) (by kernel_rfl) ?_
          refine JX.last rfl rfl (by decide) (by kernel_rfl) (JO.store 4 (vs := [.slice x_79.a0 m_80.s.length x_79.c0, .slice x_79.a1 m_80.r.length x_79.c1, .slice x_79.a2 m_80.w.length x_79.c2]) (cs' := [.slice x_79.a0 m_80.s.length x_79.c0, .slice x_79.a1 m_80.r.length x_79.c1, .slice x_79.a2 m_80.w.length x_79.c2]) rfl rfl rfl rfl Tryz.sizeOf32 rfl rfl (Nat.le_of_ble_eq_true rfl) rfl) ?_
          rintro _ _ rfl
          refine JQ.seq ?_
          refine JC.seq ?_
          refine JC.regionA [mb b_1 x_79 m_80] 7 mixed (by simp) ?_
          refine JA.take 0 rfl (by kernel_rfl) (NP.th NP.body) (by kernel_rfl) (by kernel_rfl) (by kernel_rfl) rfl (LO.loadK 0 (vs := [.slice x_79.a0 m_80.s.length x_79.c0, .slice x_79.a1 m_80.r.length x_79.c1, .slice x_79.a2 m_80.w.length x_79.c2]) rfl rfl Tryz.isAgg32 Tryz.sizeOf32 rfl rfl) ?_
          refine JA.takeP 1 rfl (by kernel_rfl) (NP.th NP.body) (by kernel_rfl) (by kernel_rfl) rfl (PO.move (v := .int .i64 id) rfl) ?_
          refine JA.takeP 2 rfl (by kernel_rfl) (NP.th NP.body) (by kernel_rfl) (by kernel_rfl) rfl (PO.move (v := .int .i64 n_28) rfl) ?_
          refine JA.takeP 3 rfl (by kernel_rfl) (NP.th NP.body) (by kernel_rfl) (by kernel_rfl) rfl (PO.add (c := n_28 + 1) rfl rfl (wr (by omega))) ?_
          refine JA.takeP 5 rfl (by kernel_rfl) (NP.th NP.body) (by kernel_rfl) (by kernel_rfl) rfl (PO.move (v := str u_54) rfl) ?_
          refine JA.takeP 6 rfl (by kernel_rfl) (NP.th NP.body) (by kernel_rfl) (by kernel_rfl) rfl (PO.addS rfl rfl (by (try simp only [List.length_append, List.length_cons, List.length_nil, List.length_drop, List.length_take]); omega)) ?_
          refine JA.one (i := 4) (by kernel_rfl) ?_
          refine JX.op rfl rfl (JO.call [] Tryz.call127 rfl (N_l08Message id (n_28 + 1) (by omega) (by omega)) rfl (fun _ _ => trivial)) ?_
          rintro _ _ ⟨_, ⟨u_95, e_93, f_96, rfl, rfl⟩, rfl⟩
          refine ⟨(by simp), ?_⟩
          refine JA.one (i := 7) (by kernel_rfl) ?_
          refine JX.late rfl rfl (by decide) (by kernel_rfl) (JO.call [0, 0, 0] Tryz.call84 rfl (N_sLay x_79 m_80 k_78 (by omega) (by omega) u_95 ([45] ++ u_54) (by omega)) rfl (fun _ _ => trivial)) ?_
          rintro _ _ ⟨_, ⟨x_103, m_104, e_101, k_102, rfl, rfl⟩, rfl⟩
          refine JA.one (i := 8) (by kernel_rfl) ?_
          refine JX.late rfl rfl (by decide) (by kernel_rfl) (JO.store 3 (vs := [.slice x_103.a0 m_104.s.length x_103.c0, .slice x_103.a1 m_104.r.length x_103.c1, .slice x_103.a2 m_104.w.length x_103.c2]) (cs' := [.slice x_103.a0 m_104.s.length x_103.c0, .slice x_103.a1 m_104.r.length x_103.c1, .slice x_103.a2 m_104.w.length x_103.c2]) rfl rfl rfl rfl Tryz.sizeOf32 rfl rfl (Nat.le_of_ble_eq_true rfl) rfl) ?_
          rintro _ _ rfl
          refine JA.takeP 9 rfl (by kernel_rfl) (NP.th NP.body) (by kernel_rfl) (by kernel_rfl) rfl (PO.assign (v := .int .i64 0) rfl) ?_
          refine JA.done (by kernel_rfl) ?_
          refine JQ.seq ?_
          refine JC.ret ?_
          refine Done.two (.inl rfl) rfl (RV.cell1 (LO.loadK 3 (vs := [.slice x_103.a0 m_104.s.length x_103.c0, .slice x_103.a1 m_104.r.length x_103.c1, .slice x_103.a2 m_104.w.length x_103.c2]) rfl rfl Tryz.isAgg32 Tryz.sizeOf32 rfl rfl) ⟨_, rfl⟩) (RV.tmp (v := .int .i64 0) rfl) (List.sublist_append_left [rC x_103.a0 x_103.c0 m_104.s, rS x_103.a1 x_103.c1 m_104.r, rS x_103.a2 x_103.c2 m_104.w] [mb b_2 x_103 m_104, mb b_1 x_79 m_80]) ?_
          exact ⟨x_103, m_104, 0, (by simp only [MS.putPipe, hexS_P, e_3, h_8, h_9, e_14, e_24, e_34, e_44, h_50, h_51, e_52, e_77, e_93, e_101, if_true, if_false, Bool.false_eq_true, Bool.not_true, Bool.not_false]; (repeat (first | rw [if_pos (by omega)] | rw [if_neg (by omega)])); all_goals (first | rfl | simp only [if_true, if_false, Bool.false_eq_true, Bool.not_true, Bool.not_false, e_3, h_8, h_9, e_14, e_24, e_34, e_44, h_50, h_51, e_52, e_77, e_93, e_101])), (k_102.mono (by omega) (by omega)), (by first | omega | (simp only [List.length_append, List.length_cons, List.length_nil, List.length_take, List.length_drop]; omega)), rfl, rfl⟩
  · skip
    refine JC.condT (congrArg Value.bool (congrArg Bool.not h_8)) ?_
    refine JC.seq ?_
    refine JC.region ?_
    refine JL.ld rfl (LO.loadK 4 (vs := [.slice x_5.a0 m_6.s.length x_5.c0, .slice x_5.a1 m_6.r.length x_5.c1, .slice x_5.a2 m_6.w.length x_5.c2]) rfl rfl Tryz.isAgg32 Tryz.sizeOf32 rfl rfl) ?_
    refine JL.op rfl (JO.store 3 (vs := [.slice x_5.a0 m_6.s.length x_5.c0, .slice x_5.a1 m_6.r.length x_5.c1, .slice x_5.a2 m_6.w.length x_5.c2]) (cs' := [.slice x_5.a0 m_6.s.length x_5.c0, .slice x_5.a1 m_6.r.length x_5.c1, .slice x_5.a2 m_6.w.length x_5.c2]) rfl rfl rfl rfl Tryz.sizeOf32 rfl rfl (Nat.le_of_ble_eq_true rfl) rfl) ?_
    rintro _ _ rfl
    refine JL.pure rfl (PO.assign (v := .int .i64 2) rfl) ?_
    refine JL.nil ?_
    refine JQ.seq ?_
    refine JC.ret ?_
    refine JQ.thenRet ?_
    refine Done.two (.inl rfl) rfl (RV.cell1 (LO.loadK 3 (vs := [.slice x_5.a0 m_6.s.length x_5.c0, .slice x_5.a1 m_6.r.length x_5.c1, .slice x_5.a2 m_6.w.length x_5.c2]) rfl rfl Tryz.isAgg32 Tryz.sizeOf32 rfl rfl) ⟨_, rfl⟩) (RV.tmp (v := .int .i64 2) rfl) (List.sublist_append_left [rC x_5.a0 x_5.c0 m_6.s, rS x_5.a1 x_5.c1 m_6.r, rS x_5.a2 x_5.c2 m_6.w] [mb b_2 x_5 m_6, mb b_1 x_5 m_6]) ?_
    exact ⟨x_5, m_6, 2, (by simp only [MS.putPipe, hexS_P, e_3, h_8, if_true, if_false, Bool.false_eq_true, Bool.not_true, Bool.not_false]; (repeat (first | rw [if_pos (by omega)] | rw [if_neg (by omega)])); all_goals (first | rfl | simp only [if_true, if_false, Bool.false_eq_true, Bool.not_true, Bool.not_false, e_3, h_8])), (k_4.mono (by omega) (by omega)), (by first | omega | (simp only [List.length_append, List.length_cons, List.length_nil, List.length_take, List.length_drop]; omega)), rfl, rfl⟩

theorem P_putPipe (x : MA) (m : MS) {S T : Nat} (hk : m.ok S T) (hS : S ≤ 49000000) (hT : T ≤ 49000000) (id : Int) (text : Str) (hid : -9223372036854775808 ≤ id ∧ id ≤ 9223372036854775807) (htext : text.length ≤ 1000000000000) :
    Ct Tryz.prog 43 [mv x m, .int .i64 id, str text] ([]) (fun w => seesM w x m) (fun v A' => ∃ x' m' r0, MS.putPipe m id text = (m', r0) ∧ m'.ok (S + 2) (T + 5) ∧ (0 ≤ r0 ∧ r0 ≤ 9) ∧ v = .tuple #[mv x' m', .int .i64 r0] ∧ A' = mr x' m') := by
  refine Ct.intro Tryz.func43 rfl Tryz.ntmps43 (Nat.le_of_ble_eq_true rfl) fun w0 hpre => ?_
  have hs_x_a0 : Sees w0 _ _ _ _ := hpre.1
  have hs_x_a1 : Sees w0 _ _ _ _ := hpre.2.1
  have hs_x_a2 : Sees w0 _ _ _ _ := hpre.2.2
  refine JC.seq ?_
  refine JC.region ?_
  refine JL.op rfl (JO.box (cs := [.slice x.a0 m.s.length x.c0, .slice x.a1 m.r.length x.c1, .slice x.a2 m.w.length x.c2]) rfl rfl) ?_
  rintro _ _ ⟨b_1, rfl, rfl⟩
  refine JL.op rfl (JO.alloc (z := .agg #[.slice none 0 0, .slice none 0 0, .slice none 0 0]) (cs := [.slice none 0 0, .slice none 0 0, .slice none 0 0]) Tryz.zeroValue32 rfl) ?_
  rintro _ _ ⟨b_2, rfl, rfl⟩
  refine JL.pure rfl (PO.assign (v := .int .i64 0) rfl) ?_
  refine JL.nil ?_
  refine JQ.seq ?_
  refine JC.seq ?_
  refine JC.region ?_
  refine JL.ld rfl (LO.loadK 1 (vs := [.slice x.a0 m.s.length x.c0, .slice x.a1 m.r.length x.c1, .slice x.a2 m.w.length x.c2]) rfl rfl Tryz.isAgg32 Tryz.sizeOf32 rfl rfl) ?_
  refine JL.op rfl (JO.call [] Tryz.call50 rfl (N_clone x m hk (by omega) (by omega)) rfl (fun w hw => ⟨hw.seeOut_ hs_x_a0 (fun _ _ => List.not_mem_nil), hw.seeOut_ hs_x_a1 (fun _ _ => List.not_mem_nil), hw.seeOut_ hs_x_a2 (fun _ _ => List.not_mem_nil)⟩)) ?_
  rintro _ _ ⟨_, ⟨x_5, m_6, rfl, k_4, rfl, rfl⟩, rfl⟩
  refine JL.op rfl (JO.store 4 (vs := [.slice x_5.a0 m.s.length x_5.c0, .slice x_5.a1 m.r.length x_5.c1, .slice x_5.a2 m.w.length x_5.c2]) (cs' := [.slice x_5.a0 m.s.length x_5.c0, .slice x_5.a1 m.r.length x_5.c1, .slice x_5.a2 m.w.length x_5.c2]) rfl rfl rfl rfl Tryz.sizeOf32 rfl rfl (Nat.le_of_ble_eq_true rfl) rfl) ?_
  rintro _ _ rfl
  refine JL.nil ?_
  refine JQ.seq ?_
  refine JC.seq ?_
  refine JC.region ?_
  refine JL.pure rfl (PO.move (v := .int .i64 id) rfl) ?_
  refine JL.pure rfl (PO.move (v := str text) rfl) ?_
  refine JL.op rfl (JO.call [4, 0, 0, 0] Tryz.call78 rfl (N_putPipe b_1 x_5 m k_4 (by omega) (by omega) id text (by omega) (by omega)) rfl (fun _ _ => trivial)) ?_
  rintro _ _ ⟨_, ⟨x_9, m_10, n_11, e_7, k_8, f_12, rfl, rfl⟩, rfl⟩
  refine JL.pure rfl (PO.assign (v := .int .i64 n_11) rfl) ?_
  refine JL.nil ?_
  refine JQ.seq ?_
  refine JC.seq ?_
  refine JC.region ?_
  refine JL.ld rfl (LO.loadK 0 (vs := [.slice x_9.a0 m_10.s.length x_9.c0, .slice x_9.a1 m_10.r.length x_9.c1, .slice x_9.a2 m_10.w.length x_9.c2]) rfl rfl Tryz.isAgg32 Tryz.sizeOf32 rfl rfl) ?_
  refine JL.pure rfl (PO.move (v := .int .i64 n_11) rfl) ?_
  refine JL.op rfl (JO.store 4 (vs := [.slice x_9.a0 m_10.s.length x_9.c0, .slice x_9.a1 m_10.r.length x_9.c1, .slice x_9.a2 m_10.w.length x_9.c2]) (cs' := [.slice x_9.a0 m_10.s.length x_9.c0, .slice x_9.a1 m_10.r.length x_9.c1, .slice x_9.a2 m_10.w.length x_9.c2]) rfl rfl rfl rfl Tryz.sizeOf32 rfl rfl (Nat.le_of_ble_eq_true rfl) rfl) ?_
  rintro _ _ rfl
  refine JL.pure rfl (PO.assign (v := .int .i64 n_11) rfl) ?_
  refine JL.nil ?_
  refine JQ.seq ?_
  refine JC.ret ?_
  refine JQ.perm (pick_perm [1, 1, 1] (A := [rC x_9.a0 x_9.c0 m_10.s, rS x_9.a1 x_9.c1 m_10.r, rS x_9.a2 x_9.c2 m_10.w]) (F := [mb b_1 x_9 m_10, mb b_2 x_9 m_10]) rfl).symm ?_
  refine Done.two (.inl rfl) rfl (RV.cell1 (LO.loadK 4 (vs := [.slice x_9.a0 m_10.s.length x_9.c0, .slice x_9.a1 m_10.r.length x_9.c1, .slice x_9.a2 m_10.w.length x_9.c2]) rfl rfl Tryz.isAgg32 Tryz.sizeOf32 rfl rfl) ⟨_, rfl⟩) (RV.tmp (v := .int .i64 n_11) rfl) (List.sublist_append_left [rC x_9.a0 x_9.c0 m_10.s, rS x_9.a1 x_9.c1 m_10.r, rS x_9.a2 x_9.c2 m_10.w] [mb b_1 x_9 m_10, mb b_2 x_9 m_10]) ?_
  exact ⟨x_9, m_10, n_11, (by simp only [if_true, e_7, if_true, if_false, Bool.false_eq_true, Bool.not_true, Bool.not_false]; (repeat (first | rw [if_pos (by omega)] | rw [if_neg (by omega)])); all_goals (first | rfl | simp only [if_true, if_false, Bool.false_eq_true, Bool.not_true, Bool.not_false, e_7])), (k_8.mono (by omega) (by omega)), (by first | omega | (simp only [List.length_append, List.length_cons, List.length_nil, List.length_take, List.length_drop]; omega)), rfl, rfl⟩

theorem Q_putPipe (x : MA) (m : MS) {S T : Nat} (hk : m.ok S T) (hS : S ≤ 49000000) (hT : T ≤ 49000000) (id : Int) (text : Str) (hid : -9223372036854775808 ≤ id ∧ id ≤ 9223372036854775807) (htext : text.length ≤ 1000000000000) :
    Ct Tryz.prog 42 [mv x m, .int .i64 id, str text] ([]) (fun w => seesM w x m) (fun v A' => ∃ x' m' r0, MS.putPipe m id text = (m', r0) ∧ m'.ok (S + 2) (T + 5) ∧ (0 ≤ r0 ∧ r0 ≤ 9) ∧ v = .tuple #[mv x' m', .int .i64 r0] ∧ A' = mr x' m') := by
  refine Ct.intro Tryz.func42 rfl Tryz.ntmps42 (Nat.le_of_ble_eq_true rfl) fun w0 hpre => ?_
  have hs_x_a0 : Sees w0 _ _ _ _ := hpre.1
  have hs_x_a1 : Sees w0 _ _ _ _ := hpre.2.1
  have hs_x_a2 : Sees w0 _ _ _ _ := hpre.2.2
  refine JC.seq ?_
  refine JC.region ?_
  refine JL.op rfl (JO.box (cs := [.slice x.a0 m.s.length x.c0, .slice x.a1 m.r.length x.c1, .slice x.a2 m.w.length x.c2]) rfl rfl) ?_
  rintro _ _ ⟨b_1, rfl, rfl⟩
  refine JL.op rfl (JO.alloc (z := .agg #[.slice none 0 0, .slice none 0 0, .slice none 0 0]) (cs := [.slice none 0 0, .slice none 0 0, .slice none 0 0]) Tryz.zeroValue32 rfl) ?_
  rintro _ _ ⟨b_2, rfl, rfl⟩
  refine JL.pure rfl (PO.assign (v := .int .i64 0) rfl) ?_
  refine JL.nil ?_
  refine JQ.seq ?_
  refine JC.seq ?_
  refine JC.region ?_
  refine JL.ld rfl (LO.loadK 1 (vs := [.slice x.a0 m.s.length x.c0, .slice x.a1 m.r.length x.c1, .slice x.a2 m.w.length x.c2]) rfl rfl Tryz.isAgg32 Tryz.sizeOf32 rfl rfl) ?_
  refine JL.op rfl (JO.call [] Tryz.call47 rfl (N_copy x m hk (by omega) (by omega)) rfl (fun w hw => ⟨hw.seeOut_ hs_x_a0 (fun _ _ => List.not_mem_nil), hw.seeOut_ hs_x_a1 (fun _ _ => List.not_mem_nil), hw.seeOut_ hs_x_a2 (fun _ _ => List.not_mem_nil)⟩)) ?_
  rintro _ _ ⟨_, ⟨x_5, m_6, rfl, k_4, rfl, rfl⟩, rfl⟩
  refine JL.pure rfl (PO.move (v := .int .i64 id) rfl) ?_
  refine JL.pure rfl (PO.move (v := str text) rfl) ?_
  refine JL.op rfl (JO.call [0, 0, 0] Tryz.call77 rfl (M_putPipe x_5 m k_4 (by omega) (by omega) id text (by omega) (by omega)) rfl (fun _ _ => trivial)) ?_
  rintro _ _ ⟨_, ⟨x_9, m_10, n_11, e_7, k_8, f_12, rfl, rfl⟩, rfl⟩
  refine JL.pure rfl (PO.extract (v := mv x_9 m_10) rfl rfl) ?_
  refine JL.pure rfl (PO.extract (v := .int .i64 n_11) rfl rfl) ?_
  refine JL.op rfl (JO.store 3 (vs := [.slice x_9.a0 m_10.s.length x_9.c0, .slice x_9.a1 m_10.r.length x_9.c1, .slice x_9.a2 m_10.w.length x_9.c2]) (cs' := [.slice x_9.a0 m_10.s.length x_9.c0, .slice x_9.a1 m_10.r.length x_9.c1, .slice x_9.a2 m_10.w.length x_9.c2]) rfl rfl rfl rfl Tryz.sizeOf32 rfl rfl (Nat.le_of_ble_eq_true rfl) rfl) ?_
  rintro _ _ rfl
  refine JL.pure rfl (PO.assign (v := .int .i64 n_11) rfl) ?_
  refine JL.nil ?_
  refine JQ.seq ?_
  refine JC.ret ?_
  refine Done.two (.inl rfl) rfl (RV.cell1 (LO.loadK 3 (vs := [.slice x_9.a0 m_10.s.length x_9.c0, .slice x_9.a1 m_10.r.length x_9.c1, .slice x_9.a2 m_10.w.length x_9.c2]) rfl rfl Tryz.isAgg32 Tryz.sizeOf32 rfl rfl) ⟨_, rfl⟩) (RV.tmp (v := .int .i64 n_11) rfl) (List.sublist_append_left [rC x_9.a0 x_9.c0 m_10.s, rS x_9.a1 x_9.c1 m_10.r, rS x_9.a2 x_9.c2 m_10.w] [mb b_2 x_9 m_10, mb b_1 x m]) ?_
  exact ⟨x_9, m_10, n_11, (by simp only [if_true, e_7, if_true, if_false, Bool.false_eq_true, Bool.not_true, Bool.not_false]; (repeat (first | rw [if_pos (by omega)] | rw [if_neg (by omega)])); all_goals (first | rfl | simp only [if_true, if_false, Bool.false_eq_true, Bool.not_true, Bool.not_false, e_7])), (k_8.mono (by omega) (by omega)), (by first | omega | (simp only [List.length_append, List.length_cons, List.length_nil, List.length_take, List.length_drop]; omega)), rfl, rfl⟩

end Go.Proofs.YthkffdkkffddeaaGreatDoor
