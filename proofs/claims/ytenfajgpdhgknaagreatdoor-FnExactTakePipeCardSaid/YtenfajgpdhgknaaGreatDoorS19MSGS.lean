/-
  Output, messages in pipes, pages (part 19).
-/
import Derived.Test.YtenfajgpdhgknaaGreatDoorS18HEX
set_option linter.unusedSimpArgs false
set_option linter.unusedVariables false
set_option linter.unnecessarySimpa false
namespace Go.Proofs.YtenfajgpdhgknaaGreatDoor
open Go Go.RowKit
attribute [local irreducible] JL JC JQ JO LO PO JA JX Ct

theorem N_message (p : Nat) (x : MA) (m : MS) {S T : Nat} (hk : m.ok S T) (hS : S ≤ 90000000) (hT : T ≤ 90000000) (key : Str) :
    Ct Tryz.prog 239 [.pointer (some ⟨p, 0, none⟩), str key] (mb p x m :: mr x m) (fun w => HexOk w) (fun v A' => ∃ x' m' r0, MS.message m key = (m', r0) ∧ m'.ok (S) (T + 1) ∧ r0.length ≤ 20000 ∧ v = str r0 ∧ A' = mb p x' m' :: mr x' m') := by
  refine Ct.introL Tryz.func239 rfl Tryz.ntmps239 (Nat.le_of_ble_eq_true rfl) fun w0 hpre hlow => ?_
  refine JC.seq ?_
  refine JC.region ?_
  refine JL.pure rfl (PO.assign (v := str []) rfl) ?_
  refine JL.nil ?_
  refine JQ.seq ?_
  refine JC.seq ?_
  refine JC.region ?_
  refine JL.pure rfl (PO.move (v := .pointer (some ⟨p, 0, none⟩)) rfl) ?_
  refine JL.pure rfl (PO.move (v := str key) rfl) ?_
  refine JL.op rfl (JO.call [0, 0, 0, 0] Tryz.call264 rfl (N_look p x m hk (by omega) (by omega) key) rfl (fun _ _ => trivial)) ?_
  rintro _ _ ⟨_, ⟨x_3, m_4, u_5, e_1, k_2, f_6, rfl, rfl⟩, rfl⟩
  refine JL.op rfl (JO.call [] Tryz.call213 rfl (N_messageOf u_5 (by omega)) rfl (fun w hw => hw.hex hlow hpre)) ?_
  rintro _ _ ⟨_, ⟨u_9, e_7, f_10, rfl, rfl⟩, rfl⟩
  refine JL.pure rfl (PO.assign (v := str u_9) rfl) ?_
  refine JL.nil ?_
  refine JQ.seq ?_
  refine JC.ret ?_
  refine Done.one (.inl rfl) rfl (RV.tmp (v := str u_9) rfl) (List.Sublist.refl _) ?_
  exact ⟨x_3, m_4, u_9, (by simp only [MS.message, e_1, e_7, if_true, if_false, Bool.false_eq_true, Bool.not_true, Bool.not_false]; (repeat (first | rw [if_pos (by omega)] | rw [if_neg (by omega)])); all_goals (first | rfl | simp only [if_true, if_false, Bool.false_eq_true, Bool.not_true, Bool.not_false, e_1, e_7])), (k_2.mono (by omega) (by omega)), (by first | omega | (simp only [List.length_append, List.length_cons, List.length_nil, List.length_take, List.length_drop]; omega)), rfl, rfl⟩

theorem N_takePipe (p : Nat) (x : MA) (m : MS) {S T : Nat} (hk : m.ok S T) (hS : S ≤ 50000000) (hT : T ≤ 50000000) (id : Int) (hid : -9223372036854775808 ≤ id ∧ id ≤ 9223372036854775807) :
    Ct Tryz.prog 128 [.pointer (some ⟨p, 0, none⟩), .int .i64 id] (mb p x m :: mr x m) (fun w => HexOk w) (fun v A' => ∃ x' m' r0 r1, MS.takePipe m id = (m', r0, r1) ∧ m'.ok (S + 1) (T + 6) ∧ r0.length ≤ 20000 ∧ (0 ≤ r1 ∧ r1 ≤ 9) ∧ v = .tuple #[str r0, .int .i64 r1] ∧ A' = mb p x' m' :: mr x' m') := by
  refine Ct.introL Tryz.func128 rfl Tryz.ntmps128 (Nat.le_of_ble_eq_true rfl) fun w0 hpre hlow => ?_
  refine JC.seq ?_
  refine JC.region ?_
  refine JL.pure rfl (PO.assign (v := str []) rfl) ?_
  refine JL.pure rfl (PO.assign (v := .int .i64 0) rfl) ?_
  refine JL.nil ?_
  refine JQ.seq ?_
  refine JC.seq ?_
  refine JC.seq ?_
  refine JC.region ?_
  refine JL.pure rfl (PO.move (v := .pointer (some ⟨p, 0, none⟩)) rfl) ?_
  refine JL.pure rfl (PO.move (v := .int .i64 id) rfl) ?_
  refine JL.op rfl (JO.call [0, 0, 0, 0] Tryz.call168 rfl (N_isPipe p x m hk (by omega) (by omega) id (by omega)) rfl (fun _ _ => trivial)) ?_
  rintro _ _ ⟨_, ⟨x_3, m_4, b_5, e_1, k_2, rfl, rfl⟩, rfl⟩
  refine JL.pure rfl (PO.not rfl) ?_
  refine JL.nil ?_
  refine JQ.seq ?_
  rcases Bool.eq_false_or_eq_true (b_5) with h_6 | h_6
  · skip
    refine JC.condF (congrArg Value.bool (congrArg Bool.not h_6)) ?_
    refine JC.skip ?_
    refine JQ.seq ?_
    refine JC.seq ?_
    refine JC.region ?_
    refine JL.pure rfl (PO.move (v := .pointer (some ⟨p, 0, none⟩)) rfl) ?_
    refine JL.pure rfl (PO.move (v := .int .i64 id) rfl) ?_
    refine JL.op rfl (JO.call [] Tryz.call171 rfl (N_pipeKey id [47, 104] (by omega) (show List.length ([47, 104] : Str) ≤ 2 by decide) (by omega)) rfl (fun _ _ => trivial)) ?_
    rintro _ _ ⟨_, ⟨u_9, e_7, f_10, rfl, rfl⟩, rfl⟩
    refine JL.op rfl (JO.call [0, 0, 0, 0] Tryz.call170 rfl (N_num p x_3 m_4 k_2 (by omega) (by omega) u_9) rfl (fun _ _ => trivial)) ?_
    rintro _ _ ⟨_, ⟨x_13, m_14, n_15, e_11, k_12, f_16, rfl, rfl⟩, rfl⟩
    refine JL.pure rfl (PO.assign (v := .int .i64 n_15) rfl) ?_
    refine JL.nil ?_
    refine JQ.seq ?_
    refine JC.seq ?_
    refine JC.seq ?_
    refine JC.region ?_
    refine JL.pure rfl (PO.move (v := .pointer (some ⟨p, 0, none⟩)) rfl) ?_
    refine JL.pure rfl (PO.move (v := .int .i64 id) rfl) ?_
    refine JL.op rfl (JO.call [] Tryz.call171 rfl (N_pipeKey id [47, 116] (by omega) (show List.length ([47, 116] : Str) ≤ 2 by decide) (by omega)) rfl (fun _ _ => trivial)) ?_
    rintro _ _ ⟨_, ⟨u_19, e_17, f_20, rfl, rfl⟩, rfl⟩
    refine JL.op rfl (JO.call [0, 0, 0, 0] Tryz.call170 rfl (N_num p x_13 m_14 k_12 (by omega) (by omega) u_19) rfl (fun _ _ => trivial)) ?_
    rintro _ _ ⟨_, ⟨x_23, m_24, n_25, e_21, k_22, f_26, rfl, rfl⟩, rfl⟩
    refine JL.pure rfl (PO.move (v := .int .i64 n_15) rfl) ?_
    refine JL.pure rfl (PO.eqlI rfl rfl) ?_
    refine JL.nil ?_
    refine JQ.seq ?_
    by_cases h_27 : n_25 = n_15
    · skip
      refine JC.condT (congrArg Value.bool (decide_eq_true h_27)) ?_
      refine JC.seq ?_
      refine JC.region ?_
      refine JL.pure rfl (PO.assign (v := str []) rfl) ?_
      refine JL.pure rfl (PO.assign (v := .int .i64 5) rfl) ?_
      refine JL.nil ?_
      refine JQ.seq ?_
      refine JC.ret ?_
      refine JQ.thenRet ?_
      refine Done.two (.inl rfl) rfl (RV.tmp (v := str []) rfl) (RV.tmp (v := .int .i64 5) rfl) (List.Sublist.refl _) ?_
      exact ⟨x_23, m_24, [], 5, (by simp only [MS.takePipe, e_1, h_6, e_7, e_11, e_17, e_21, h_27, if_true, if_false, Bool.false_eq_true, Bool.not_true, Bool.not_false]; (repeat (first | rw [if_pos (by omega)] | rw [if_neg (by omega)])); all_goals (first | rfl | simp only [if_true, if_false, Bool.false_eq_true, Bool.not_true, Bool.not_false, e_1, h_6, e_7, e_11, e_17, e_21, h_27])), (k_22.mono (by omega) (by omega)), (by first | omega | (simp only [List.length_append, List.length_cons, List.length_nil, List.length_take, List.length_drop]; omega)), (by first | omega | (simp only [List.length_append, List.length_cons, List.length_nil, List.length_take, List.length_drop]; omega)), rfl, rfl⟩
    · skip
      refine JC.condF (congrArg Value.bool (decide_eq_false h_27)) ?_
      refine JC.skip ?_
      refine JQ.seq ?_
      refine JC.seq ?_
      refine JC.region ?_
      refine JL.pure rfl (PO.move (v := .int .i64 id) rfl) ?_
      refine JL.op rfl (JO.call [] Tryz.call171 rfl (N_pipeKey id [47, 113, 47] (by omega) (show List.length ([47, 113, 47] : Str) ≤ 3 by decide) (by omega)) rfl (fun _ _ => trivial)) ?_
      rintro _ _ ⟨_, ⟨u_30, e_28, f_31, rfl, rfl⟩, rfl⟩
      refine JL.pure rfl (PO.move (v := .int .i64 n_15) rfl) ?_
      refine JL.pure rfl (PO.add (c := n_15 + 1) rfl rfl (wr (by omega))) ?_
      refine JL.op rfl (JO.call [] Tryz.call215 rfl (N_keyNum u_30 (n_15 + 1) [] (Nat.le_refl _) (by omega) (show List.length ([] : Str) ≤ 0 by decide) (by omega)) rfl (fun _ _ => trivial)) ?_
      rintro _ _ ⟨_, ⟨u_34, e_32, f_35, rfl, rfl⟩, rfl⟩
      refine JL.pure rfl (PO.assign (v := str u_34) rfl) ?_
      refine JL.nil ?_
      refine JQ.seq ?_
      refine JC.seq ?_
      refine JC.region ?_
      refine JL.pure rfl (PO.move (v := .pointer (some ⟨p, 0, none⟩)) rfl) ?_
      refine JL.pure rfl (PO.move (v := str u_34) rfl) ?_
      refine JL.op rfl (JO.call [0, 0, 0, 0] Tryz.call239 rfl (N_message p x_23 m_24 k_22 (by omega) (by omega) u_34) rfl (fun w hw => hw.hex hlow hpre)) ?_
      rintro _ _ ⟨_, ⟨x_38, m_39, u_40, e_36, k_37, f_41, rfl, rfl⟩, rfl⟩
      refine JL.pure rfl (PO.assign (v := str u_40) rfl) ?_
      refine JL.nil ?_
      refine JQ.seq ?_
      refine JC.seq ?_
      refine JC.region ?_
      refine JL.pure rfl (PO.move (v := .pointer (some ⟨p, 0, none⟩)) rfl) ?_
      refine JL.pure rfl (PO.move (v := str u_34) rfl) ?_
      refine JL.op rfl (JO.call [0, 0, 0, 0] Tryz.call240 rfl (N_layNil p x_38 m_39 k_37 (by omega) (by omega) u_34 (by omega)) rfl (fun _ _ => trivial)) ?_
      rintro _ _ ⟨_, ⟨x_44, m_45, e_42, k_43, rfl, rfl⟩, rfl⟩
      refine JL.nil ?_
      refine JQ.seq ?_
      refine JC.seq ?_
      refine JC.region ?_
      refine JL.pure rfl (PO.move (v := .pointer (some ⟨p, 0, none⟩)) rfl) ?_
      refine JL.pure rfl (PO.move (v := .int .i64 id) rfl) ?_
      refine JL.op rfl (JO.call [] Tryz.call171 rfl (N_pipeKey id [47, 104] (by omega) (show List.length ([47, 104] : Str) ≤ 2 by decide) (by omega)) rfl (fun _ _ => trivial)) ?_
      rintro _ _ ⟨_, ⟨u_48, e_46, f_49, rfl, rfl⟩, rfl⟩
      have hqe_46 := e_7.symm.trans e_46
      subst hqe_46
      refine JL.pure rfl (PO.move (v := .int .i64 n_15) rfl) ?_
      refine JL.pure rfl (PO.add (c := n_15 + 1) rfl rfl (wr (by omega))) ?_
      refine JL.op rfl (JO.call [0, 0, 0, 0] Tryz.call241 rfl (N_setNum p x_44 m_45 k_43 (by omega) (by omega) u_9 (n_15 + 1) (by omega) (by omega)) rfl (fun _ _ => trivial)) ?_
      rintro _ _ ⟨_, ⟨x_52, m_53, e_50, k_51, rfl, rfl⟩, rfl⟩
      refine JL.nil ?_
      refine JQ.seq ?_
      refine JC.seq ?_
      refine JC.region ?_
      refine JL.pure rfl (PO.move (v := str u_40) rfl) ?_
      refine JL.pure rfl (PO.assign (v := str u_40) rfl) ?_
      refine JL.pure rfl (PO.assign (v := .int .i64 0) rfl) ?_
      refine JL.nil ?_
      refine JQ.seq ?_
      refine JC.ret ?_
      refine Done.two (.inl rfl) rfl (RV.tmp (v := str u_40) rfl) (RV.tmp (v := .int .i64 0) rfl) (List.Sublist.refl _) ?_
      exact ⟨x_52, m_53, u_40, 0, (by simp only [MS.takePipe, e_1, h_6, e_7, e_11, e_17, e_21, h_27, e_28, e_32, e_36, e_42, e_50, if_true, if_false, Bool.false_eq_true, Bool.not_true, Bool.not_false]; (repeat (first | rw [if_pos (by omega)] | rw [if_neg (by omega)])); all_goals (first | rfl | simp only [if_true, if_false, Bool.false_eq_true, Bool.not_true, Bool.not_false, e_1, h_6, e_7, e_11, e_17, e_21, h_27, e_28, e_32, e_36, e_42, e_50])), (k_51.mono (by omega) (by omega)), (by first | omega | (simp only [List.length_append, List.length_cons, List.length_nil, List.length_take, List.length_drop]; omega)), (by first | omega | (simp only [List.length_append, List.length_cons, List.length_nil, List.length_take, List.length_drop]; omega)), rfl, rfl⟩
  · skip
    refine JC.condT (congrArg Value.bool (congrArg Bool.not h_6)) ?_
    refine JC.seq ?_
    refine JC.region ?_
    refine JL.pure rfl (PO.assign (v := str []) rfl) ?_
    refine JL.pure rfl (PO.assign (v := .int .i64 2) rfl) ?_
    refine JL.nil ?_
    refine JQ.seq ?_
    refine JC.ret ?_
    refine JQ.thenRet ?_
    refine Done.two (.inl rfl) rfl (RV.tmp (v := str []) rfl) (RV.tmp (v := .int .i64 2) rfl) (List.Sublist.refl _) ?_
    exact ⟨x_3, m_4, [], 2, (by simp only [MS.takePipe, e_1, h_6, if_true, if_false, Bool.false_eq_true, Bool.not_true, Bool.not_false]; (repeat (first | rw [if_pos (by omega)] | rw [if_neg (by omega)])); all_goals (first | rfl | simp only [if_true, if_false, Bool.false_eq_true, Bool.not_true, Bool.not_false, e_1, h_6])), (k_2.mono (by omega) (by omega)), (by first | omega | (simp only [List.length_append, List.length_cons, List.length_nil, List.length_take, List.length_drop]; omega)), (by first | omega | (simp only [List.length_append, List.length_cons, List.length_nil, List.length_take, List.length_drop]; omega)), rfl, rfl⟩

theorem M_takePipe (x : MA) (m : MS) {S T : Nat} (hk : m.ok S T) (hS : S ≤ 50000000) (hT : T ≤ 50000000) (id : Int) (hid : -9223372036854775808 ≤ id ∧ id ≤ 9223372036854775807) :
    Ct Tryz.prog 123 [mv x m, .int .i64 id] (mr x m) (fun _ => True) (fun v A' => ∃ x' m' r0 r1, MS.takePipe m id = (m', r0, r1) ∧ m'.ok (S + 1) (T + 6) ∧ r0.length ≤ 20000 ∧ (0 ≤ r1 ∧ r1 ≤ 9) ∧ v = .tuple #[mv x' m', str r0, .int .i64 r1] ∧ A' = mr x' m') := by
  refine Ct.intro Tryz.func123 rfl Tryz.ntmps123 (Nat.le_of_ble_eq_true rfl) fun w0 hpre => ?_
  refine JC.seq ?_
  refine JC.region ?_
  refine JL.op rfl (JO.box (cs := [.slice x.a0 m.s.length x.c0, .slice x.a1 m.r.length x.c1, .slice x.a2 m.w.length x.c2]) rfl rfl) ?_
  rintro _ _ ⟨b_1, rfl, rfl⟩
  refine JL.op rfl (JO.alloc (z := .agg #[.slice none 0 0, .slice none 0 0, .slice none 0 0]) (cs := [.slice none 0 0, .slice none 0 0, .slice none 0 0]) Tryz.zeroValue32 rfl) ?_
  rintro _ _ ⟨b_2, rfl, rfl⟩
  refine JL.pure rfl (PO.assign (v := str []) rfl) ?_
  refine JL.pure rfl (PO.assign (v := .int .i64 0) rfl) ?_
  refine JL.nil ?_
  refine JQ.seq ?_
  refine JC.seq ?_
  refine JC.region ?_
  refine JL.ld rfl (LO.loadK 1 (vs := [.slice x.a0 m.s.length x.c0, .slice x.a1 m.r.length x.c1, .slice x.a2 m.w.length x.c2]) rfl rfl Tryz.isAgg32 Tryz.sizeOf32 rfl rfl) ?_
  refine JL.pure rfl (PO.move (v := .int .i64 id) rfl) ?_
  refine JL.op rfl (JO.call [2, 2, 2] Tryz.call169 rfl (M_isPipe x m hk (by omega) (by omega) id (by omega)) rfl (fun _ _ => trivial)) ?_
  rintro _ _ ⟨_, ⟨x_5, m_6, b_7, e_3, k_4, rfl, rfl⟩, rfl⟩
  refine JL.pure rfl (PO.move (v := .tuple #[mv x_5 m_6, .bool b_7]) rfl) ?_
  refine JL.pure rfl (PO.extract (v := mv x_5 m_6) rfl rfl) ?_
  refine JL.pure rfl (PO.extract (v := .bool b_7) rfl rfl) ?_
  refine JL.op rfl (JO.store 4 (vs := [.slice x_5.a0 m_6.s.length x_5.c0, .slice x_5.a1 m_6.r.length x_5.c1, .slice x_5.a2 m_6.w.length x_5.c2]) (cs' := [.slice x_5.a0 m_6.s.length x_5.c0, .slice x_5.a1 m_6.r.length x_5.c1, .slice x_5.a2 m_6.w.length x_5.c2]) rfl rfl rfl rfl Tryz.sizeOf32 rfl rfl (Nat.le_of_ble_eq_true rfl) rfl) ?_
  rintro _ _ rfl
  refine JL.pure rfl (PO.assign (v := .bool b_7) rfl) ?_
  refine JL.nil ?_
  refine JQ.seq ?_
  refine JC.seq ?_
  refine JC.seq ?_
  refine JC.region ?_
  refine JL.pure rfl (PO.move (v := .bool b_7) rfl) ?_
  refine JL.pure rfl (PO.not rfl) ?_
  refine JL.nil ?_
  refine JQ.seq ?_
  rcases Bool.eq_false_or_eq_true (b_7) with h_8 | h_8
  · skip
    refine JC.condF (congrArg Value.bool (congrArg Bool.not h_8)) ?_
    refine JC.skip ?_
    refine JQ.seq ?_
    refine JC.seq ?_
    refine JC.regionA [mb b_1 x_5 m_6] 7 mixed (by simp) ?_
    refine JA.take 0 rfl (by kernel_rfl) (NP.th NP.body) (by kernel_rfl) (by kernel_rfl) (by kernel_rfl) rfl (LO.loadK 0 (vs := [.slice x_5.a0 m_6.s.length x_5.c0, .slice x_5.a1 m_6.r.length x_5.c1, .slice x_5.a2 m_6.w.length x_5.c2]) rfl rfl Tryz.isAgg32 Tryz.sizeOf32 rfl rfl) ?_
    refine JA.takeP 1 rfl (by kernel_rfl) (NP.th NP.body) (by kernel_rfl) (by kernel_rfl) rfl (PO.move (v := .int .i64 id) rfl) ?_
    refine JA.one (i := 2) (by kernel_rfl) ?_
    refine JX.op rfl rfl (JO.call [] Tryz.call229 rfl (N_l08Key id [47, 104] (by omega) (show List.length ([47, 104] : Str) ≤ 2 by decide) (by omega)) rfl (fun _ _ => trivial)) ?_
    rintro _ _ ⟨_, ⟨u_15, e_13, f_16, rfl, rfl⟩, rfl⟩
    refine ⟨(by simp), ?_⟩
    refine JA.one (i := 3) (by kernel_rfl) ?_
    refine JX.op rfl rfl (JO.call [0, 0, 0] Tryz.call228 rfl (N_sNumAt x_5 m_6 k_4 (by omega) (by omega) u_15) rfl (fun _ _ => trivial)) ?_
    rintro _ _ ⟨_, ⟨x_25, m_26, n_27, e_23, k_24, f_28, rfl, rfl⟩, rfl⟩
    refine ⟨(by simp), ?_⟩
    refine JA.takeP 4 rfl (by kernel_rfl) (NP.th NP.body) (by kernel_rfl) (by kernel_rfl) rfl (PO.move (v := .tuple #[mv x_25 m_26, .int .i64 n_27]) rfl) ?_
    refine JA.takeP 5 rfl (by kernel_rfl) (NP.th NP.body) (by kernel_rfl) (by kernel_rfl) rfl (PO.extract (v := mv x_25 m_26) rfl rfl) ?_
    refine JA.takeP 6 rfl (by kernel_rfl) (NP.th NP.body) (by kernel_rfl) (by kernel_rfl) rfl (PO.extract (v := .int .i64 n_27) rfl rfl) ?_
    refine JA.one (i := 7) (by kernel_rfl) ?_
    refine JX.late rfl rfl (by decide) (by kernel_rfl) (JO.store 4 (vs := [.slice x_25.a0 m_26.s.length x_25.c0, .slice x_25.a1 m_26.r.length x_25.c1, .slice x_25.a2 m_26.w.length x_25.c2]) (cs' := [.slice x_25.a0 m_26.s.length x_25.c0, .slice x_25.a1 m_26.r.length x_25.c1, .slice x_25.a2 m_26.w.length x_25.c2]) rfl rfl rfl rfl Tryz.sizeOf32 rfl rfl (Nat.le_of_ble_eq_true rfl) rfl) ?_
    rintro _ _ rfl
    refine JA.takeP 8 rfl (by kernel_rfl) (NP.th NP.body) (by kernel_rfl) (by kernel_rfl) rfl (PO.assign (v := .int .i64 n_27) rfl) ?_
    refine JA.done (by kernel_rfl) ?_
    refine JQ.seq ?_
    refine JC.seq ?_
    refine JC.regionA [mb b_1 x_25 m_26] 7 mixed (by simp) ?_
    refine JA.take 0 rfl (by kernel_rfl) (NP.th NP.body) (by kernel_rfl) (by kernel_rfl) (by kernel_rfl) rfl (LO.loadK 0 (vs := [.slice x_25.a0 m_26.s.length x_25.c0, .slice x_25.a1 m_26.r.length x_25.c1, .slice x_25.a2 m_26.w.length x_25.c2]) rfl rfl Tryz.isAgg32 Tryz.sizeOf32 rfl rfl) ?_
    refine JA.takeP 1 rfl (by kernel_rfl) (NP.th NP.body) (by kernel_rfl) (by kernel_rfl) rfl (PO.move (v := .int .i64 id) rfl) ?_
    refine JA.one (i := 2) (by kernel_rfl) ?_
    refine JX.op rfl rfl (JO.call [] Tryz.call229 rfl (N_l08Key id [47, 116] (by omega) (show List.length ([47, 116] : Str) ≤ 2 by decide) (by omega)) rfl (fun _ _ => trivial)) ?_
    rintro _ _ ⟨_, ⟨u_35, e_33, f_36, rfl, rfl⟩, rfl⟩
    refine ⟨(by simp), ?_⟩
    refine JA.one (i := 3) (by kernel_rfl) ?_
    refine JX.op rfl rfl (JO.call [0, 0, 0] Tryz.call228 rfl (N_sNumAt x_25 m_26 k_24 (by omega) (by omega) u_35) rfl (fun _ _ => trivial)) ?_
    rintro _ _ ⟨_, ⟨x_45, m_46, n_47, e_43, k_44, f_48, rfl, rfl⟩, rfl⟩
    refine ⟨(by simp), ?_⟩
    refine JA.takeP 4 rfl (by kernel_rfl) (NP.th NP.body) (by kernel_rfl) (by kernel_rfl) rfl (PO.move (v := .tuple #[mv x_45 m_46, .int .i64 n_47]) rfl) ?_
    refine JA.takeP 5 rfl (by kernel_rfl) (NP.th NP.body) (by kernel_rfl) (by kernel_rfl) rfl (PO.extract (v := mv x_45 m_46) rfl rfl) ?_
    refine JA.takeP 6 rfl (by kernel_rfl) (NP.th NP.body) (by kernel_rfl) (by kernel_rfl) rfl (PO.extract (v := .int .i64 n_47) rfl rfl) ?_
    refine JA.one (i := 7) (by kernel_rfl) ?_
    refine JX.late rfl rfl (by decide) (by kernel_rfl) (JO.store 4 (vs := [.slice x_45.a0 m_46.s.length x_45.c0, .slice x_45.a1 m_46.r.length x_45.c1, .slice x_45.a2 m_46.w.length x_45.c2]) (cs' := [.slice x_45.a0 m_46.s.length x_45.c0, .slice x_45.a1 m_46.r.length x_45.c1, .slice x_45.a2 m_46.w.length x_45.c2]) rfl rfl rfl rfl Tryz.sizeOf32 rfl rfl (Nat.le_of_ble_eq_true rfl) rfl) ?_
    rintro _ _ rfl
    refine JA.takeP 8 rfl (by kernel_rfl) (NP.th NP.body) (by kernel_rfl) (by kernel_rfl) rfl (PO.assign (v := .int .i64 n_47) rfl) ?_
    refine JA.done (by kernel_rfl) ?_
    refine JQ.seq ?_
    refine JC.seq ?_
    refine JC.seq ?_
    refine JC.region ?_
    refine JL.pure rfl (PO.move (v := .int .i64 n_27) rfl) ?_
    refine JL.pure rfl (PO.move (v := .int .i64 n_47) rfl) ?_
    refine JL.pure rfl (PO.eqlI rfl rfl) ?_
    refine JL.nil ?_
    refine JQ.seq ?_
    by_cases h_49 : n_27 = n_47
    · skip
      refine JC.condT (congrArg Value.bool (decide_eq_true h_49)) ?_
      refine JC.seq ?_
      refine JC.region ?_
      refine JL.ld rfl (LO.loadK 4 (vs := [.slice x_45.a0 m_46.s.length x_45.c0, .slice x_45.a1 m_46.r.length x_45.c1, .slice x_45.a2 m_46.w.length x_45.c2]) rfl rfl Tryz.isAgg32 Tryz.sizeOf32 rfl rfl) ?_
      refine JL.op rfl (JO.store 3 (vs := [.slice x_45.a0 m_46.s.length x_45.c0, .slice x_45.a1 m_46.r.length x_45.c1, .slice x_45.a2 m_46.w.length x_45.c2]) (cs' := [.slice x_45.a0 m_46.s.length x_45.c0, .slice x_45.a1 m_46.r.length x_45.c1, .slice x_45.a2 m_46.w.length x_45.c2]) rfl rfl rfl rfl Tryz.sizeOf32 rfl rfl (Nat.le_of_ble_eq_true rfl) rfl) ?_
      rintro _ _ rfl
      refine JL.pure rfl (PO.assign (v := str []) rfl) ?_
      refine JL.pure rfl (PO.assign (v := .int .i64 5) rfl) ?_
      refine JL.nil ?_
      refine JQ.seq ?_
      refine JC.ret ?_
      refine JQ.thenRet ?_
      refine Done.three (.inl rfl) rfl (RV.cell1 (LO.loadK 3 (vs := [.slice x_45.a0 m_46.s.length x_45.c0, .slice x_45.a1 m_46.r.length x_45.c1, .slice x_45.a2 m_46.w.length x_45.c2]) rfl rfl Tryz.isAgg32 Tryz.sizeOf32 rfl rfl) ⟨_, rfl⟩) (RV.tmp (v := str []) rfl) (RV.tmp (v := .int .i64 5) rfl) (List.sublist_append_left [rC x_45.a0 x_45.c0 m_46.s, rS x_45.a1 x_45.c1 m_46.r, rS x_45.a2 x_45.c2 m_46.w] [mb b_2 x_45 m_46, mb b_1 x_45 m_46]) ?_
      exact ⟨x_45, m_46, [], 5, (by simp only [MS.takePipe, MS.message, e_3, h_8, e_13, e_23, e_33, e_43, h_49, if_true, if_false, Bool.false_eq_true, Bool.not_true, Bool.not_false]; (repeat (first | rw [if_pos (by omega)] | rw [if_neg (by omega)])); all_goals (first | rfl | simp only [if_true, if_false, Bool.false_eq_true, Bool.not_true, Bool.not_false, e_3, h_8, e_13, e_23, e_33, e_43, h_49])), (k_44.mono (by omega) (by omega)), (by first | omega | (simp only [List.length_append, List.length_cons, List.length_nil, List.length_take, List.length_drop]; omega)), (by first | omega | (simp only [List.length_append, List.length_cons, List.length_nil, List.length_take, List.length_drop]; omega)), rfl, rfl⟩
    · skip
      refine JC.condF (congrArg Value.bool (decide_eq_false h_49)) ?_
      refine JC.skip ?_
      refine JQ.seq ?_
      refine JC.seq ?_
      refine JC.regionA [mb b_1 x_45 m_46] 9 mixed (by simp) ?_
      refine JA.take 0 rfl (by kernel_rfl) (NP.th NP.body) (by kernel_rfl) (by kernel_rfl) (by kernel_rfl) rfl (LO.loadK 0 (vs := [.slice x_45.a0 m_46.s.length x_45.c0, .slice x_45.a1 m_46.r.length x_45.c1, .slice x_45.a2 m_46.w.length x_45.c2]) rfl rfl Tryz.isAgg32 Tryz.sizeOf32 rfl rfl) ?_
      refine JA.takeP 1 rfl (by kernel_rfl) (NP.th NP.body) (by kernel_rfl) (by kernel_rfl) rfl (PO.move (v := .int .i64 id) rfl) ?_
      refine JA.takeP 2 rfl (by kernel_rfl) (NP.th NP.body) (by kernel_rfl) (by kernel_rfl) rfl (PO.move (v := .int .i64 n_27) rfl) ?_
      refine JA.takeP 3 rfl (by kernel_rfl) (NP.th NP.body) (by kernel_rfl) (by kernel_rfl) rfl (PO.add (c := n_27 + 1) rfl rfl (wr (by omega))) ?_
      refine JA.one (i := 4) (by kernel_rfl) ?_
      refine JX.op rfl rfl (JO.call [] Tryz.call231 rfl (N_l08Message id (n_27 + 1) (by omega) (by omega)) rfl (fun _ _ => trivial)) ?_
      rintro _ _ ⟨_, ⟨u_56, e_54, f_57, rfl, rfl⟩, rfl⟩
      refine ⟨(by simp), ?_⟩
      refine JA.one (i := 5) (by kernel_rfl) ?_
      refine JX.op rfl rfl (JO.call [0, 0, 0] Tryz.call230 rfl (N_sLook x_45 m_46 k_44 (by omega) (by omega) u_56) rfl (fun _ _ => trivial)) ?_
      rintro _ _ ⟨_, ⟨x_66, m_67, u_68, e_64, k_65, f_69, rfl, rfl⟩, rfl⟩
      refine ⟨(by simp), ?_⟩
      refine JA.takeP 6 rfl (by kernel_rfl) (NP.th NP.body) (by kernel_rfl) (by kernel_rfl) rfl (PO.move (v := .tuple #[mv x_66 m_67, str u_68]) rfl) ?_
      refine JA.takeP 7 rfl (by kernel_rfl) (NP.th NP.body) (by kernel_rfl) (by kernel_rfl) rfl (PO.extract (v := mv x_66 m_67) rfl rfl) ?_
      refine JA.takeP 8 rfl (by kernel_rfl) (NP.th NP.body) (by kernel_rfl) (by kernel_rfl) rfl (PO.extract (v := str u_68) rfl rfl) ?_
      refine JA.one (i := 9) (by kernel_rfl) ?_
      refine JX.late rfl rfl (by decide) (by kernel_rfl) (JO.store 4 (vs := [.slice x_66.a0 m_67.s.length x_66.c0, .slice x_66.a1 m_67.r.length x_66.c1, .slice x_66.a2 m_67.w.length x_66.c2]) (cs' := [.slice x_66.a0 m_67.s.length x_66.c0, .slice x_66.a1 m_67.r.length x_66.c1, .slice x_66.a2 m_67.w.length x_66.c2]) rfl rfl rfl rfl Tryz.sizeOf32 rfl rfl (Nat.le_of_ble_eq_true rfl) rfl) ?_
      rintro _ _ rfl
      refine JA.takeP 10 rfl (by kernel_rfl) (NP.th NP.body) (by kernel_rfl) (by kernel_rfl) rfl (PO.assign (v := str u_68) rfl) ?_
      refine JA.done (by kernel_rfl) ?_
      refine JQ.seq ?_
      refine JC.seq ?_
      refine JC.region ?_
      refine JL.pure rfl (PO.assign (v := str []) rfl) ?_
      refine JL.nil ?_
      refine JQ.seq ?_
      refine JC.seq ?_
      refine JC.cut (fun e_ L_ => e_ 1 = .int .i64 id ∧ e_ 2 = .pointer (some ⟨b_1, 0, none⟩) ∧ e_ 4 = .pointer (some ⟨b_2, 0, none⟩) ∧ e_ 5 = str [] ∧ e_ 6 = .int .i64 0 ∧ e_ 8 = .int .i64 n_27 ∧ e_ 11 = str (messageOf u_68) ∧ L_ = [rC x_66.a0 x_66.c0 m_67.s, rS x_66.a1 x_66.c1 m_67.r, rS x_66.a2 x_66.c2 m_67.w, bk b_2 32 [.slice none 0 0, .slice none 0 0, .slice none 0 0], mb b_1 x_66 m_67]) ?_ ?_
      · skip
        refine JC.seq ?_
        refine JC.region ?_
        refine JL.pure rfl (PO.move (v := str u_68) rfl) ?_
        refine JL.pure rfl (PO.neqS rfl rfl) ?_
        refine JL.pure rfl (PO.move (v := .bool (!(decide (u_68 = [])))) rfl) ?_
        by_cases h_70 : u_68 = []
        · skip
          have hm := messageOf_nil h_70
          refine JL.guardOff (b := false) rfl rfl rfl (congrArg Value.bool (congrArg Bool.not (decide_eq_true h_70))) ?_
          refine JL.guardOff (b := false) rfl rfl rfl (congrArg Value.bool (congrArg Bool.not (decide_eq_true h_70))) ?_
          refine JL.guardOff (b := false) rfl rfl rfl (congrArg Value.bool (congrArg Bool.not (decide_eq_true h_70))) ?_
          refine JL.pure rfl (PO.pickF (v := .bool false) (congrArg Value.bool (congrArg Bool.not (decide_eq_true h_70))) rfl) ?_
          refine JL.nil ?_
          refine JQ.seq ?_
          refine JC.condF (congrArg Value.bool rfl) ?_
          refine JC.skip ?_
          refine JQ.pick [0, 0, 0, 0, 0] (A := [rC x_66.a0 x_66.c0 m_67.s, rS x_66.a1 x_66.c1 m_67.r, rS x_66.a2 x_66.c2 m_67.w, bk b_2 32 [.slice none 0 0, .slice none 0 0, .slice none 0 0], mb b_1 x_66 m_67]) rfl ?_
          exact JQ.cut ⟨rfl, rfl, rfl, rfl, rfl, rfl, (congrArg str hm.symm), rfl⟩
        · skip
          have h_70l := List.length_pos_iff.2 h_70
          refine JL.guardOn rfl rfl rfl (congrArg Value.bool (congrArg Bool.not (decide_eq_false h_70))) (JO.ofLO (LO.pure (PO.move (v := str u_68) rfl))) ?_
          rintro _ _ ⟨rfl, rfl⟩
          refine JL.guardOn rfl rfl rfl (congrArg Value.bool (congrArg Bool.not (decide_eq_false h_70))) (JO.ofLO (LO.pure (PO.indexS (i := 0) (c := u_68.getD 0 0) Tryz.underlying9 rfl rfl (getD_some (by omega))))) ?_
          rintro _ _ ⟨rfl, rfl⟩
          have hu_71 := UInt8.toNat_lt (u_68.getD 0 0)
          refine JL.guardOn rfl rfl rfl (congrArg Value.bool (congrArg Bool.not (decide_eq_false h_70))) (JO.ofLO (LO.pure (PO.eqlI rfl rfl))) ?_
          rintro _ _ ⟨rfl, rfl⟩
          refine JL.pure rfl (PO.pickT (v := .bool (decide (((u_68.getD 0 0).toNat : Int) = 45))) (congrArg Value.bool (congrArg Bool.not (decide_eq_false h_70))) rfl) ?_
          refine JL.nil ?_
          refine JQ.seq ?_
          by_cases h_72 : ((u_68.getD 0 0).toNat : Int) = 45
          · skip
            have hm_73 := messageOf_one h_70 h_72
            refine JC.condT (congrArg Value.bool (decide_eq_true h_72)) ?_
            refine JC.region ?_
            refine JL.pure rfl (PO.move (v := str u_68) rfl) ?_
            refine JL.pure rfl (PO.sliceSl (i := 1) Tryz.underlying9 rfl rfl (by omega)) ?_
            refine JL.op rfl (JO.call [] Tryz.call220 rfl (N_sUnhex (u_68.drop 1) (by first | omega | (simp only [List.length_append, List.length_cons, List.length_nil, List.length_take, List.length_drop]; omega))) rfl (fun _ _ => trivial)) ?_
            rintro _ _ ⟨_, ⟨u_76, b_78, e_74, f_77, rfl, rfl⟩, rfl⟩
            refine JL.pure rfl (PO.move (v := .tuple #[str u_76, .bool b_78]) rfl) ?_
            refine JL.pure rfl (PO.extract (v := str u_76) rfl rfl) ?_
            refine JL.pure rfl (PO.extract (v := .bool b_78) rfl rfl) ?_
            refine JL.pure rfl (PO.assign (v := str u_76) rfl) ?_
            refine JL.nil ?_
            refine JQ.pick [0, 0, 0, 0, 0] (A := [rC x_66.a0 x_66.c0 m_67.s, rS x_66.a1 x_66.c1 m_67.r, rS x_66.a2 x_66.c2 m_67.w, bk b_2 32 [.slice none 0 0, .slice none 0 0, .slice none 0 0], mb b_1 x_66 m_67]) rfl ?_
            exact JQ.cut ⟨rfl, rfl, rfl, rfl, rfl, rfl, (congrArg str (hm_73.trans (congrArg Prod.fst e_74)).symm), rfl⟩
          · skip
            have hm_79 := messageOf_no h_72
            refine JC.condF (congrArg Value.bool (decide_eq_false h_72)) ?_
            refine JC.skip ?_
            refine JQ.pick [0, 0, 0, 0, 0] (A := [rC x_66.a0 x_66.c0 m_67.s, rS x_66.a1 x_66.c1 m_67.r, rS x_66.a2 x_66.c2 m_67.w, bk b_2 32 [.slice none 0 0, .slice none 0 0, .slice none 0 0], mb b_1 x_66 m_67]) rfl ?_
            exact JQ.cut ⟨rfl, rfl, rfl, rfl, rfl, rfl, (congrArg str hm_79.symm), rfl⟩
      · skip
        rintro e_80 _ ⟨he_81, he_82, he_83, he_84, he_85, he_86, he_87, rfl⟩
        have hml := messageOf_len u_68
        refine JQ.seq ?_
        refine JC.seq ?_
        refine JC.regionA [mb b_1 x_66 m_67] 5 mixed (by simp) ?_
        refine JA.take 0 rfl (by kernel_rfl) (NP.th NP.body) (by kernel_rfl) (by kernel_rfl) (by kernel_rfl) rfl (LO.loadK 0 (vs := [.slice x_66.a0 m_67.s.length x_66.c0, .slice x_66.a1 m_67.r.length x_66.c1, .slice x_66.a2 m_67.w.length x_66.c2]) rfl he_82 Tryz.isAgg32 Tryz.sizeOf32 rfl rfl) ?_
        refine JA.takeP 1 rfl (by kernel_rfl) (NP.th NP.body) (by kernel_rfl) (by kernel_rfl) rfl (PO.move (v := .int .i64 id) he_81) ?_
        refine JA.takeP 2 rfl (by kernel_rfl) (NP.th NP.body) (by kernel_rfl) (by kernel_rfl) rfl (PO.move (v := .int .i64 n_27) he_86) ?_
        refine JA.takeP 3 rfl (by kernel_rfl) (NP.th NP.body) (by kernel_rfl) (by kernel_rfl) rfl (PO.add (c := n_27 + 1) rfl rfl (wr (by omega))) ?_
        refine JA.one (i := 4) (by kernel_rfl) ?_
        refine JX.op rfl rfl (JO.call [] Tryz.call231 rfl (N_l08Message id (n_27 + 1) (by omega) (by omega)) rfl (fun _ _ => trivial)) ?_
        rintro _ _ ⟨_, ⟨u_94, e_92, f_95, rfl, rfl⟩, rfl⟩
        have hqe_92 := e_54.symm.trans e_92
        subst hqe_92
        refine ⟨(by simp), ?_⟩
        refine JA.one (i := 5) (by kernel_rfl) ?_
        refine JX.late rfl rfl (by decide) (by kernel_rfl) (JO.call [0, 0, 0] Tryz.call232 rfl (N_sLayNil x_66 m_67 k_65 (by omega) (by omega) u_56 (by omega)) rfl (fun _ _ => trivial)) ?_
        rintro _ _ ⟨_, ⟨x_102, m_103, e_100, k_101, rfl, rfl⟩, rfl⟩
        refine JA.one (i := 6) (by kernel_rfl) ?_
        refine JX.last rfl rfl (by decide) (by kernel_rfl) (JO.store 4 (vs := [.slice x_102.a0 m_103.s.length x_102.c0, .slice x_102.a1 m_103.r.length x_102.c1, .slice x_102.a2 m_103.w.length x_102.c2]) (cs' := [.slice x_102.a0 m_103.s.length x_102.c0, .slice x_102.a1 m_103.r.length x_102.c1, .slice x_102.a2 m_103.w.length x_102.c2]) rfl he_82 rfl rfl Tryz.sizeOf32 rfl rfl (Nat.le_of_ble_eq_true rfl) rfl) ?_
        rintro _ _ rfl
        refine JQ.seq ?_
        refine JC.seq ?_
        refine JC.regionA [mb b_1 x_102 m_103] 7 mixed (by simp) ?_
        refine JA.take 0 rfl (by kernel_rfl) (NP.th NP.body) (by kernel_rfl) (by kernel_rfl) (by kernel_rfl) rfl (LO.loadK 0 (vs := [.slice x_102.a0 m_103.s.length x_102.c0, .slice x_102.a1 m_103.r.length x_102.c1, .slice x_102.a2 m_103.w.length x_102.c2]) rfl he_82 Tryz.isAgg32 Tryz.sizeOf32 rfl rfl) ?_
        refine JA.takeP 1 rfl (by kernel_rfl) (NP.th NP.body) (by kernel_rfl) (by kernel_rfl) rfl (PO.move (v := .int .i64 id) he_81) ?_
        refine JA.takeP 3 rfl (by kernel_rfl) (NP.th NP.body) (by kernel_rfl) (by kernel_rfl) rfl (PO.move (v := .int .i64 n_27) he_86) ?_
        refine JA.takeP 4 rfl (by kernel_rfl) (NP.th NP.body) (by kernel_rfl) (by kernel_rfl) rfl (PO.add (c := n_27 + 1) rfl rfl (wr (by omega))) ?_
        refine JA.takeP 6 rfl (by kernel_rfl) (NP.th NP.body) (by kernel_rfl) (by kernel_rfl) rfl (PO.move (v := str (messageOf u_68)) he_87) ?_
        refine JA.one (i := 2) (by kernel_rfl) ?_
        refine JX.op rfl rfl (JO.call [] Tryz.call229 rfl (N_l08Key id [47, 104] (by omega) (show List.length ([47, 104] : Str) ≤ 2 by decide) (by omega)) rfl (fun _ _ => trivial)) ?_
        rintro _ _ ⟨_, ⟨u_122, e_120, f_123, rfl, rfl⟩, rfl⟩
        have hqe_120 := e_13.symm.trans e_120
        subst hqe_120
        refine ⟨(by simp), ?_⟩
        refine JA.one (i := 5) (by kernel_rfl) ?_
        refine JX.op rfl rfl (JO.call [0, 0, 0] Tryz.call233 rfl (N_sSetNum x_102 m_103 k_101 (by omega) (by omega) u_15 (n_27 + 1) (by omega) (by omega)) rfl (fun _ _ => trivial)) ?_
        rintro _ _ ⟨_, ⟨x_130, m_131, e_128, k_129, rfl, rfl⟩, rfl⟩
        refine ⟨(by simp), ?_⟩
        refine JA.one (i := 7) (by kernel_rfl) ?_
        refine JX.late rfl rfl (by decide) (by kernel_rfl) (JO.store 3 (vs := [.slice x_130.a0 m_131.s.length x_130.c0, .slice x_130.a1 m_131.r.length x_130.c1, .slice x_130.a2 m_131.w.length x_130.c2]) (cs' := [.slice x_130.a0 m_131.s.length x_130.c0, .slice x_130.a1 m_131.r.length x_130.c1, .slice x_130.a2 m_131.w.length x_130.c2]) rfl he_83 rfl rfl Tryz.sizeOf32 rfl rfl (Nat.le_of_ble_eq_true rfl) rfl) ?_
        rintro _ _ rfl
        refine JA.takeP 8 rfl (by kernel_rfl) (NP.th NP.body) (by kernel_rfl) (by kernel_rfl) rfl (PO.assign (v := str (messageOf u_68)) rfl) ?_
        refine JA.takeP 9 rfl (by kernel_rfl) (NP.th NP.body) (by kernel_rfl) (by kernel_rfl) rfl (PO.assign (v := .int .i64 0) rfl) ?_
        refine JA.done (by kernel_rfl) ?_
        refine JQ.seq ?_
        refine JC.ret ?_
        refine Done.three (.inl rfl) rfl (RV.cell1 (LO.loadK 3 (vs := [.slice x_130.a0 m_131.s.length x_130.c0, .slice x_130.a1 m_131.r.length x_130.c1, .slice x_130.a2 m_131.w.length x_130.c2]) rfl he_83 Tryz.isAgg32 Tryz.sizeOf32 rfl rfl) ⟨_, he_83⟩) (RV.tmp (v := str (messageOf u_68)) rfl) (RV.tmp (v := .int .i64 0) rfl) (List.sublist_append_left [rC x_130.a0 x_130.c0 m_131.s, rS x_130.a1 x_130.c1 m_131.r, rS x_130.a2 x_130.c2 m_131.w] [mb b_2 x_130 m_131, mb b_1 x_102 m_103]) ?_
        exact ⟨x_130, m_131, (messageOf u_68), 0, (by simp only [MS.takePipe, MS.message, e_3, h_8, e_13, e_23, e_33, e_43, h_49, e_54, e_64, e_100, e_128, if_true, if_false, Bool.false_eq_true, Bool.not_true, Bool.not_false]; (repeat (first | rw [if_pos (by omega)] | rw [if_neg (by omega)])); all_goals (first | rfl | simp only [if_true, if_false, Bool.false_eq_true, Bool.not_true, Bool.not_false, e_3, h_8, e_13, e_23, e_33, e_43, h_49, e_54, e_64, e_100, e_128])), (k_129.mono (by omega) (by omega)), (by first | omega | (simp only [List.length_append, List.length_cons, List.length_nil, List.length_take, List.length_drop]; omega)), (by first | omega | (simp only [List.length_append, List.length_cons, List.length_nil, List.length_take, List.length_drop]; omega)), rfl, rfl⟩
  · skip
    refine JC.condT (congrArg Value.bool (congrArg Bool.not h_8)) ?_
    refine JC.seq ?_
    refine JC.region ?_
    refine JL.ld rfl (LO.loadK 4 (vs := [.slice x_5.a0 m_6.s.length x_5.c0, .slice x_5.a1 m_6.r.length x_5.c1, .slice x_5.a2 m_6.w.length x_5.c2]) rfl rfl Tryz.isAgg32 Tryz.sizeOf32 rfl rfl) ?_
    refine JL.op rfl (JO.store 3 (vs := [.slice x_5.a0 m_6.s.length x_5.c0, .slice x_5.a1 m_6.r.length x_5.c1, .slice x_5.a2 m_6.w.length x_5.c2]) (cs' := [.slice x_5.a0 m_6.s.length x_5.c0, .slice x_5.a1 m_6.r.length x_5.c1, .slice x_5.a2 m_6.w.length x_5.c2]) rfl rfl rfl rfl Tryz.sizeOf32 rfl rfl (Nat.le_of_ble_eq_true rfl) rfl) ?_
    rintro _ _ rfl
    refine JL.pure rfl (PO.assign (v := str []) rfl) ?_
    refine JL.pure rfl (PO.assign (v := .int .i64 2) rfl) ?_
    refine JL.nil ?_
    refine JQ.seq ?_
    refine JC.ret ?_
    refine JQ.thenRet ?_
    refine Done.three (.inl rfl) rfl (RV.cell1 (LO.loadK 3 (vs := [.slice x_5.a0 m_6.s.length x_5.c0, .slice x_5.a1 m_6.r.length x_5.c1, .slice x_5.a2 m_6.w.length x_5.c2]) rfl rfl Tryz.isAgg32 Tryz.sizeOf32 rfl rfl) ⟨_, rfl⟩) (RV.tmp (v := str []) rfl) (RV.tmp (v := .int .i64 2) rfl) (List.sublist_append_left [rC x_5.a0 x_5.c0 m_6.s, rS x_5.a1 x_5.c1 m_6.r, rS x_5.a2 x_5.c2 m_6.w] [mb b_2 x_5 m_6, mb b_1 x_5 m_6]) ?_
    exact ⟨x_5, m_6, [], 2, (by simp only [MS.takePipe, MS.message, e_3, h_8, if_true, if_false, Bool.false_eq_true, Bool.not_true, Bool.not_false]; (repeat (first | rw [if_pos (by omega)] | rw [if_neg (by omega)])); all_goals (first | rfl | simp only [if_true, if_false, Bool.false_eq_true, Bool.not_true, Bool.not_false, e_3, h_8])), (k_4.mono (by omega) (by omega)), (by first | omega | (simp only [List.length_append, List.length_cons, List.length_nil, List.length_take, List.length_drop]; omega)), (by first | omega | (simp only [List.length_append, List.length_cons, List.length_nil, List.length_take, List.length_drop]; omega)), rfl, rfl⟩

theorem P_takePipe (x : MA) (m : MS) {S T : Nat} (hk : m.ok S T) (hS : S ≤ 49000000) (hT : T ≤ 49000000) (id : Int) (hid : -9223372036854775808 ≤ id ∧ id ≤ 9223372036854775807) :
    Ct Tryz.prog 18 [mv x m, .int .i64 id] ([]) (fun w => seesM w x m ∧ HexOk w) (fun v A' => ∃ x' m' r0 r1, MS.takePipe m id = (m', r0, r1) ∧ m'.ok (S + 1) (T + 6) ∧ r0.length ≤ 20000 ∧ (0 ≤ r1 ∧ r1 ≤ 9) ∧ v = .tuple #[mv x' m', str r0, .int .i64 r1] ∧ A' = mr x' m') := by
  refine Ct.introL Tryz.func18 rfl Tryz.ntmps18 (Nat.le_of_ble_eq_true rfl) fun w0 hpre hlow => ?_
  have hs_x_a0 : Sees w0 _ _ _ _ := hpre.1.1
  have hs_x_a1 : Sees w0 _ _ _ _ := hpre.1.2.1
  have hs_x_a2 : Sees w0 _ _ _ _ := hpre.1.2.2
  refine JC.seq ?_
  refine JC.region ?_
  refine JL.op rfl (JO.box (cs := [.slice x.a0 m.s.length x.c0, .slice x.a1 m.r.length x.c1, .slice x.a2 m.w.length x.c2]) rfl rfl) ?_
  rintro _ _ ⟨b_1, rfl, rfl⟩
  refine JL.op rfl (JO.alloc (z := .agg #[.slice none 0 0, .slice none 0 0, .slice none 0 0]) (cs := [.slice none 0 0, .slice none 0 0, .slice none 0 0]) Tryz.zeroValue32 rfl) ?_
  rintro _ _ ⟨b_2, rfl, rfl⟩
  refine JL.pure rfl (PO.assign (v := str []) rfl) ?_
  refine JL.pure rfl (PO.assign (v := .int .i64 0) rfl) ?_
  refine JL.nil ?_
  refine JQ.seq ?_
  refine JC.seq ?_
  refine JC.region ?_
  refine JL.ld rfl (LO.loadK 1 (vs := [.slice x.a0 m.s.length x.c0, .slice x.a1 m.r.length x.c1, .slice x.a2 m.w.length x.c2]) rfl rfl Tryz.isAgg32 Tryz.sizeOf32 rfl rfl) ?_
  refine JL.op rfl (JO.call [] Tryz.call127 rfl (N_clone x m hk (by omega) (by omega)) rfl (fun w hw => ⟨hw.seeOut_ hs_x_a0 (fun _ _ => List.not_mem_nil), hw.seeOut_ hs_x_a1 (fun _ _ => List.not_mem_nil), hw.seeOut_ hs_x_a2 (fun _ _ => List.not_mem_nil)⟩)) ?_
  rintro _ _ ⟨_, ⟨x_5, m_6, rfl, k_4, rfl, rfl⟩, rfl⟩
  refine JL.op rfl (JO.store 4 (vs := [.slice x_5.a0 m.s.length x_5.c0, .slice x_5.a1 m.r.length x_5.c1, .slice x_5.a2 m.w.length x_5.c2]) (cs' := [.slice x_5.a0 m.s.length x_5.c0, .slice x_5.a1 m.r.length x_5.c1, .slice x_5.a2 m.w.length x_5.c2]) rfl rfl rfl rfl Tryz.sizeOf32 rfl rfl (Nat.le_of_ble_eq_true rfl) rfl) ?_
  rintro _ _ rfl
  refine JL.nil ?_
  refine JQ.seq ?_
  refine JC.seq ?_
  refine JC.region ?_
  refine JL.pure rfl (PO.move (v := .int .i64 id) rfl) ?_
  refine JL.op rfl (JO.call [4, 0, 0, 0] Tryz.call128 rfl (N_takePipe b_1 x_5 m k_4 (by omega) (by omega) id (by omega)) rfl (fun w hw => hw.hex hlow hpre.2)) ?_
  rintro _ _ ⟨_, ⟨x_9, m_10, u_11, n_13, e_7, k_8, f_12, f_14, rfl, rfl⟩, rfl⟩
  refine JL.pure rfl (PO.move (v := .tuple #[str u_11, .int .i64 n_13]) rfl) ?_
  refine JL.pure rfl (PO.extract (v := str u_11) rfl rfl) ?_
  refine JL.pure rfl (PO.extract (v := .int .i64 n_13) rfl rfl) ?_
  refine JL.pure rfl (PO.assign (v := str u_11) rfl) ?_
  refine JL.pure rfl (PO.assign (v := .int .i64 n_13) rfl) ?_
  refine JL.nil ?_
  refine JQ.seq ?_
  refine JC.seq ?_
  refine JC.region ?_
  refine JL.ld rfl (LO.loadK 0 (vs := [.slice x_9.a0 m_10.s.length x_9.c0, .slice x_9.a1 m_10.r.length x_9.c1, .slice x_9.a2 m_10.w.length x_9.c2]) rfl rfl Tryz.isAgg32 Tryz.sizeOf32 rfl rfl) ?_
  refine JL.pure rfl (PO.move (v := str u_11) rfl) ?_
  refine JL.pure rfl (PO.move (v := .int .i64 n_13) rfl) ?_
  refine JL.op rfl (JO.store 4 (vs := [.slice x_9.a0 m_10.s.length x_9.c0, .slice x_9.a1 m_10.r.length x_9.c1, .slice x_9.a2 m_10.w.length x_9.c2]) (cs' := [.slice x_9.a0 m_10.s.length x_9.c0, .slice x_9.a1 m_10.r.length x_9.c1, .slice x_9.a2 m_10.w.length x_9.c2]) rfl rfl rfl rfl Tryz.sizeOf32 rfl rfl (Nat.le_of_ble_eq_true rfl) rfl) ?_
  rintro _ _ rfl
  refine JL.pure rfl (PO.assign (v := str u_11) rfl) ?_
  refine JL.pure rfl (PO.assign (v := .int .i64 n_13) rfl) ?_
  refine JL.nil ?_
  refine JQ.seq ?_
  refine JC.ret ?_
  refine JQ.perm (pick_perm [1, 1, 1] (A := [rC x_9.a0 x_9.c0 m_10.s, rS x_9.a1 x_9.c1 m_10.r, rS x_9.a2 x_9.c2 m_10.w]) (F := [mb b_1 x_9 m_10, mb b_2 x_9 m_10]) rfl).symm ?_
  refine Done.three (.inl rfl) rfl (RV.cell1 (LO.loadK 4 (vs := [.slice x_9.a0 m_10.s.length x_9.c0, .slice x_9.a1 m_10.r.length x_9.c1, .slice x_9.a2 m_10.w.length x_9.c2]) rfl rfl Tryz.isAgg32 Tryz.sizeOf32 rfl rfl) ⟨_, rfl⟩) (RV.tmp (v := str u_11) rfl) (RV.tmp (v := .int .i64 n_13) rfl) (List.sublist_append_left [rC x_9.a0 x_9.c0 m_10.s, rS x_9.a1 x_9.c1 m_10.r, rS x_9.a2 x_9.c2 m_10.w] [mb b_1 x_9 m_10, mb b_2 x_9 m_10]) ?_
  exact ⟨x_9, m_10, u_11, n_13, (by simp only [if_true, e_7, if_true, if_false, Bool.false_eq_true, Bool.not_true, Bool.not_false]; (repeat (first | rw [if_pos (by omega)] | rw [if_neg (by omega)])); all_goals (first | rfl | simp only [if_true, if_false, Bool.false_eq_true, Bool.not_true, Bool.not_false, e_7])), (k_8.mono (by omega) (by omega)), (by first | omega | (simp only [List.length_append, List.length_cons, List.length_nil, List.length_take, List.length_drop]; omega)), (by first | omega | (simp only [List.length_append, List.length_cons, List.length_nil, List.length_take, List.length_drop]; omega)), rfl, rfl⟩

theorem Q_takePipe (x : MA) (m : MS) {S T : Nat} (hk : m.ok S T) (hS : S ≤ 49000000) (hT : T ≤ 49000000) (id : Int) (hid : -9223372036854775808 ≤ id ∧ id ≤ 9223372036854775807) :
    Ct Tryz.prog 16 [mv x m, .int .i64 id] ([]) (fun w => seesM w x m) (fun v A' => ∃ x' m' r0 r1, MS.takePipe m id = (m', r0, r1) ∧ m'.ok (S + 1) (T + 6) ∧ r0.length ≤ 20000 ∧ (0 ≤ r1 ∧ r1 ≤ 9) ∧ v = .tuple #[mv x' m', str r0, .int .i64 r1] ∧ A' = mr x' m') := by
  refine Ct.intro Tryz.func16 rfl Tryz.ntmps16 (Nat.le_of_ble_eq_true rfl) fun w0 hpre => ?_
  have hs_x_a0 : Sees w0 _ _ _ _ := hpre.1
  have hs_x_a1 : Sees w0 _ _ _ _ := hpre.2.1
  have hs_x_a2 : Sees w0 _ _ _ _ := hpre.2.2
  refine JC.seq ?_
  refine JC.region ?_
  refine JL.op rfl (JO.box (cs := [.slice x.a0 m.s.length x.c0, .slice x.a1 m.r.length x.c1, .slice x.a2 m.w.length x.c2]) rfl rfl) ?_
  rintro _ _ ⟨b_1, rfl, rfl⟩
  refine JL.op rfl (JO.alloc (z := .agg #[.slice none 0 0, .slice none 0 0, .slice none 0 0]) (cs := [.slice none 0 0, .slice none 0 0, .slice none 0 0]) Tryz.zeroValue32 rfl) ?_
  rintro _ _ ⟨b_2, rfl, rfl⟩
  refine JL.pure rfl (PO.assign (v := str []) rfl) ?_
  refine JL.pure rfl (PO.assign (v := .int .i64 0) rfl) ?_
  refine JL.nil ?_
  refine JQ.seq ?_
  refine JC.seq ?_
  refine JC.region ?_
  refine JL.ld rfl (LO.loadK 1 (vs := [.slice x.a0 m.s.length x.c0, .slice x.a1 m.r.length x.c1, .slice x.a2 m.w.length x.c2]) rfl rfl Tryz.isAgg32 Tryz.sizeOf32 rfl rfl) ?_
  refine JL.op rfl (JO.call [] Tryz.call124 rfl (N_copy x m hk (by omega) (by omega)) rfl (fun w hw => ⟨hw.seeOut_ hs_x_a0 (fun _ _ => List.not_mem_nil), hw.seeOut_ hs_x_a1 (fun _ _ => List.not_mem_nil), hw.seeOut_ hs_x_a2 (fun _ _ => List.not_mem_nil)⟩)) ?_
  rintro _ _ ⟨_, ⟨x_5, m_6, rfl, k_4, rfl, rfl⟩, rfl⟩
  refine JL.pure rfl (PO.move (v := .int .i64 id) rfl) ?_
  refine JL.op rfl (JO.call [0, 0, 0] Tryz.call123 rfl (M_takePipe x_5 m k_4 (by omega) (by omega) id (by omega)) rfl (fun _ _ => trivial)) ?_
  rintro _ _ ⟨_, ⟨x_9, m_10, u_11, n_13, e_7, k_8, f_12, f_14, rfl, rfl⟩, rfl⟩
  refine JL.pure rfl (PO.extract (v := mv x_9 m_10) rfl rfl) ?_
  refine JL.pure rfl (PO.extract (v := str u_11) rfl rfl) ?_
  refine JL.pure rfl (PO.extract (v := .int .i64 n_13) rfl rfl) ?_
  refine JL.op rfl (JO.store 3 (vs := [.slice x_9.a0 m_10.s.length x_9.c0, .slice x_9.a1 m_10.r.length x_9.c1, .slice x_9.a2 m_10.w.length x_9.c2]) (cs' := [.slice x_9.a0 m_10.s.length x_9.c0, .slice x_9.a1 m_10.r.length x_9.c1, .slice x_9.a2 m_10.w.length x_9.c2]) rfl rfl rfl rfl Tryz.sizeOf32 rfl rfl (Nat.le_of_ble_eq_true rfl) rfl) ?_
  rintro _ _ rfl
  refine JL.pure rfl (PO.assign (v := str u_11) rfl) ?_
  refine JL.pure rfl (PO.assign (v := .int .i64 n_13) rfl) ?_
  refine JL.nil ?_
  refine JQ.seq ?_
  refine JC.ret ?_
  refine Done.three (.inl rfl) rfl (RV.cell1 (LO.loadK 3 (vs := [.slice x_9.a0 m_10.s.length x_9.c0, .slice x_9.a1 m_10.r.length x_9.c1, .slice x_9.a2 m_10.w.length x_9.c2]) rfl rfl Tryz.isAgg32 Tryz.sizeOf32 rfl rfl) ⟨_, rfl⟩) (RV.tmp (v := str u_11) rfl) (RV.tmp (v := .int .i64 n_13) rfl) (List.sublist_append_left [rC x_9.a0 x_9.c0 m_10.s, rS x_9.a1 x_9.c1 m_10.r, rS x_9.a2 x_9.c2 m_10.w] [mb b_2 x_9 m_10, mb b_1 x m]) ?_
  exact ⟨x_9, m_10, u_11, n_13, (by simp only [if_true, e_7, if_true, if_false, Bool.false_eq_true, Bool.not_true, Bool.not_false]; (repeat (first | rw [if_pos (by omega)] | rw [if_neg (by omega)])); all_goals (first | rfl | simp only [if_true, if_false, Bool.false_eq_true, Bool.not_true, Bool.not_false, e_7])), (k_8.mono (by omega) (by omega)), (by first | omega | (simp only [List.length_append, List.length_cons, List.length_nil, List.length_take, List.length_drop]; omega)), (by first | omega | (simp only [List.length_append, List.length_cons, List.length_nil, List.length_take, List.length_drop]; omega)), rfl, rfl⟩

end Go.Proofs.YtenfajgpdhgknaaGreatDoor
