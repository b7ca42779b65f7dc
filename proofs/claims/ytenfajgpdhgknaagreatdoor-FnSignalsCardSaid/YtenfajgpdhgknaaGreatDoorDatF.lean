/-
  Texts of the walk, joined: what each one proves stands at its theorems.
-/
import Derived.Test.YtenfajgpdhgknaaGreatDoorS14MACHp1
import Derived.Lib.HexFns2
import Derived.Test.YtenfajgpdhgknaaGreatDoorS06HELD
import Derived.Lib.ConvBytes
import Derived.Test.YtenfajgpdhgknaaGreatDoorS03EQ
import Derived.Laws.StructEq
import Derived.Laws.Small
set_option linter.unusedSimpArgs false
set_option linter.unusedVariables false
set_option linter.unnecessarySimpa false
namespace Go.Proofs.YtenfajgpdhgknaaGreatDoor
open Go Go.RowKit
attribute [local irreducible] JL JC JQ JO LO PO JA JX Ct

theorem P_takeSignal (x : MA) (m : MS) {S T : Nat} (hk : m.ok S T) (hS : S ≤ 49000000) (hT : T ≤ 49000000) (id : Int) (hid : -9223372036854775808 ≤ id ∧ id ≤ 9223372036854775807) :
    Ct Tryz.prog 84 [mv x m, .int .i64 id] ([]) (fun w => seesM w x m) (fun v A' => ∃ x' m' r0 r1, MS.takeSignal m id = (m', r0, r1) ∧ m'.ok (S + 1) (T + 5) ∧ (0 ≤ r0 ∧ r0 ≤ 999) ∧ (0 ≤ r1 ∧ r1 ≤ 9) ∧ v = .tuple #[mv x' m', .int .i64 r0, .int .i64 r1] ∧ A' = mr x' m') := by
  refine Ct.intro Tryz.func84 rfl Tryz.ntmps84 (Nat.le_of_ble_eq_true rfl) fun w0 hpre => ?_
  have hs_x_a0 : Sees w0 _ _ _ _ := hpre.1
  have hs_x_a1 : Sees w0 _ _ _ _ := hpre.2.1
  have hs_x_a2 : Sees w0 _ _ _ _ := hpre.2.2
  refine JC.seq ?_
  refine JC.region ?_
  refine JL.op rfl (JO.box (cs := [.slice x.a0 m.s.length x.c0, .slice x.a1 m.r.length x.c1, .slice x.a2 m.w.length x.c2]) rfl rfl) ?_
  rintro _ _ ⟨b_1, rfl, rfl⟩
  refine JL.op rfl (JO.alloc (z := .agg #[.slice none 0 0, .slice none 0 0, .slice none 0 0]) (cs := [.slice none 0 0, .slice none 0 0, .slice none 0 0]) Tryz.zeroValue32 rfl) ?_
  rintro _ _ ⟨b_2, rfl, rfl⟩
  refine JL.pure rfl (PO.assign (v := .int .i64 0) rfl) ?_
  refine JL.pure rfl (PO.assign (v := .int .i64 0) rfl) ?_
  refine JL.nil ?_
  refine JQ.seq ?_
  refine JC.seq ?_
  refine JC.region ?_
  refine JL.ld rfl (LO.loadK 1 (vs := [.slice x.a0 m.s.length x.c0, .slice x.a1 m.r.length x.c1, .slice x.a2 m.w.length x.c2]) rfl rfl Tryz.isAgg32 Tryz.sizeOf32 rfl rfl) ?_
  refine JL.op rfl (JO.call [] Tryz.call127 rfl (N_clone x m hk (by omega) (by omega)) rfl (fun w hw => ⟨hw.seeOut_ hs_x_a0 (fun _ _ => List.not_mem_nil), hw.seeOut_ hs_x_a1 (fun _ _ => List.not_mem_nil), hw.seeOut_ hs_x_a2 (fun _ _ => List.not_mem_nil)⟩)) ?_
  rintro _ _ ⟨_, ⟨x_5, m_6, rfl, k_4, rfl, rfl⟩, rfl⟩
  refine JL.op rfl (JO.store 4 (vs := [.slice x_5.a0 m.s.length x_5.c0, .slice x_5.a1 m.r.length x_5.c1, .slice x_5.a2 m.w.length x_5.c2]) (cs' := [.slice x_5.a0 m.s.length x_5.c0, .slice x_5.a1 m.r.length x_5.c1, .slice x_5.a2 m.w.length x_5.c2]) rfl rfl rfl rfl Tryz.sizeOf32 rfl rfl (Nat.le_of_ble_eq_true rfl) rfl) ?_
  rintro _ _ rfl
  refine JL.nil ?_
  refine JQ.seq ?_
  refine JC.seq ?_
  refine JC.region ?_
  refine JL.pure rfl (PO.move (v := .int .i64 id) rfl) ?_
  refine JL.op rfl (JO.call [4, 0, 0, 0] Tryz.call191 rfl (N_takeSignal b_1 x_5 m k_4 (by omega) (by omega) id (by omega)) rfl (fun _ _ => trivial)) ?_
  rintro _ _ ⟨_, ⟨x_9, m_10, n_11, n_13, e_7, k_8, f_12, f_14, rfl, rfl⟩, rfl⟩
  refine JL.pure rfl (PO.move (v := .tuple #[.int .i64 n_11, .int .i64 n_13]) rfl) ?_
  refine JL.pure rfl (PO.extract (v := .int .i64 n_11) rfl rfl) ?_
  refine JL.pure rfl (PO.extract (v := .int .i64 n_13) rfl rfl) ?_
  refine JL.pure rfl (PO.assign (v := .int .i64 n_11) rfl) ?_
  refine JL.pure rfl (PO.assign (v := .int .i64 n_13) rfl) ?_
  refine JL.nil ?_
  refine JQ.seq ?_
  refine JC.seq ?_
  refine JC.region ?_
  refine JL.ld rfl (LO.loadK 0 (vs := [.slice x_9.a0 m_10.s.length x_9.c0, .slice x_9.a1 m_10.r.length x_9.c1, .slice x_9.a2 m_10.w.length x_9.c2]) rfl rfl Tryz.isAgg32 Tryz.sizeOf32 rfl rfl) ?_
  refine JL.pure rfl (PO.move (v := .int .i64 n_11) rfl) ?_
  refine JL.pure rfl (PO.move (v := .int .i64 n_13) rfl) ?_
  refine JL.op rfl (JO.store 4 (vs := [.slice x_9.a0 m_10.s.length x_9.c0, .slice x_9.a1 m_10.r.length x_9.c1, .slice x_9.a2 m_10.w.length x_9.c2]) (cs' := [.slice x_9.a0 m_10.s.length x_9.c0, .slice x_9.a1 m_10.r.length x_9.c1, .slice x_9.a2 m_10.w.length x_9.c2]) rfl rfl rfl rfl Tryz.sizeOf32 rfl rfl (Nat.le_of_ble_eq_true rfl) rfl) ?_
  rintro _ _ rfl
  refine JL.pure rfl (PO.assign (v := .int .i64 n_11) rfl) ?_
  refine JL.pure rfl (PO.assign (v := .int .i64 n_13) rfl) ?_
  refine JL.nil ?_
  refine JQ.seq ?_
  refine JC.ret ?_
  refine JQ.perm (pick_perm [1, 1, 1] (A := [rC x_9.a0 x_9.c0 m_10.s, rS x_9.a1 x_9.c1 m_10.r, rS x_9.a2 x_9.c2 m_10.w]) (F := [mb b_1 x_9 m_10, mb b_2 x_9 m_10]) rfl).symm ?_
  refine Done.three (.inl rfl) rfl (RV.cell1 (LO.loadK 4 (vs := [.slice x_9.a0 m_10.s.length x_9.c0, .slice x_9.a1 m_10.r.length x_9.c1, .slice x_9.a2 m_10.w.length x_9.c2]) rfl rfl Tryz.isAgg32 Tryz.sizeOf32 rfl rfl) ⟨_, rfl⟩) (RV.tmp (v := .int .i64 n_11) rfl) (RV.tmp (v := .int .i64 n_13) rfl) (List.sublist_append_left [rC x_9.a0 x_9.c0 m_10.s, rS x_9.a1 x_9.c1 m_10.r, rS x_9.a2 x_9.c2 m_10.w] [mb b_1 x_9 m_10, mb b_2 x_9 m_10]) ?_
  exact ⟨x_9, m_10, n_11, n_13, (by simp only [if_true, e_7, if_true, if_false, Bool.false_eq_true, Bool.not_true, Bool.not_false]; (repeat (first | rw [if_pos (by omega)] | rw [if_neg (by omega)])); all_goals (first | rfl | simp only [if_true, if_false, Bool.false_eq_true, Bool.not_true, Bool.not_false, e_7])), (k_8.mono (by omega) (by omega)), (by first | omega | (simp only [List.length_append, List.length_cons, List.length_nil, List.length_take, List.length_drop]; omega)), (by first | omega | (simp only [List.length_append, List.length_cons, List.length_nil, List.length_take, List.length_drop]; omega)), rfl, rfl⟩

theorem Q_takeSignal (x : MA) (m : MS) {S T : Nat} (hk : m.ok S T) (hS : S ≤ 49000000) (hT : T ≤ 49000000) (id : Int) (hid : -9223372036854775808 ≤ id ∧ id ≤ 9223372036854775807) :
    Ct Tryz.prog 85 [mv x m, .int .i64 id] ([]) (fun w => seesM w x m) (fun v A' => ∃ x' m' r0 r1, MS.takeSignal m id = (m', r0, r1) ∧ m'.ok (S + 1) (T + 5) ∧ (0 ≤ r0 ∧ r0 ≤ 999) ∧ (0 ≤ r1 ∧ r1 ≤ 9) ∧ v = .tuple #[mv x' m', .int .i64 r0, .int .i64 r1] ∧ A' = mr x' m') := by
  refine Ct.intro Tryz.func85 rfl Tryz.ntmps85 (Nat.le_of_ble_eq_true rfl) fun w0 hpre => ?_
  have hs_x_a0 : Sees w0 _ _ _ _ := hpre.1
  have hs_x_a1 : Sees w0 _ _ _ _ := hpre.2.1
  have hs_x_a2 : Sees w0 _ _ _ _ := hpre.2.2
  refine JC.seq ?_
  refine JC.region ?_
  refine JL.op rfl (JO.box (cs := [.slice x.a0 m.s.length x.c0, .slice x.a1 m.r.length x.c1, .slice x.a2 m.w.length x.c2]) rfl rfl) ?_
  rintro _ _ ⟨b_1, rfl, rfl⟩
  refine JL.op rfl (JO.alloc (z := .agg #[.slice none 0 0, .slice none 0 0, .slice none 0 0]) (cs := [.slice none 0 0, .slice none 0 0, .slice none 0 0]) Tryz.zeroValue32 rfl) ?_
  rintro _ _ ⟨b_2, rfl, rfl⟩
  refine JL.pure rfl (PO.assign (v := .int .i64 0) rfl) ?_
  refine JL.pure rfl (PO.assign (v := .int .i64 0) rfl) ?_
  refine JL.nil ?_
  refine JQ.seq ?_
  refine JC.seq ?_
  refine JC.region ?_
  refine JL.ld rfl (LO.loadK 1 (vs := [.slice x.a0 m.s.length x.c0, .slice x.a1 m.r.length x.c1, .slice x.a2 m.w.length x.c2]) rfl rfl Tryz.isAgg32 Tryz.sizeOf32 rfl rfl) ?_
  refine JL.op rfl (JO.call [] Tryz.call124 rfl (N_copy x m hk (by omega) (by omega)) rfl (fun w hw => ⟨hw.seeOut_ hs_x_a0 (fun _ _ => List.not_mem_nil), hw.seeOut_ hs_x_a1 (fun _ _ => List.not_mem_nil), hw.seeOut_ hs_x_a2 (fun _ _ => List.not_mem_nil)⟩)) ?_
  rintro _ _ ⟨_, ⟨x_5, m_6, rfl, k_4, rfl, rfl⟩, rfl⟩
  refine JL.pure rfl (PO.move (v := .int .i64 id) rfl) ?_
  refine JL.op rfl (JO.call [0, 0, 0] Tryz.call192 rfl (M_takeSignal x_5 m k_4 (by omega) (by omega) id (by omega)) rfl (fun _ _ => trivial)) ?_
  rintro _ _ ⟨_, ⟨x_9, m_10, n_11, n_13, e_7, k_8, f_12, f_14, rfl, rfl⟩, rfl⟩
  refine JL.pure rfl (PO.extract (v := mv x_9 m_10) rfl rfl) ?_
  refine JL.pure rfl (PO.extract (v := .int .i64 n_11) rfl rfl) ?_
  refine JL.pure rfl (PO.extract (v := .int .i64 n_13) rfl rfl) ?_
  refine JL.op rfl (JO.store 3 (vs := [.slice x_9.a0 m_10.s.length x_9.c0, .slice x_9.a1 m_10.r.length x_9.c1, .slice x_9.a2 m_10.w.length x_9.c2]) (cs' := [.slice x_9.a0 m_10.s.length x_9.c0, .slice x_9.a1 m_10.r.length x_9.c1, .slice x_9.a2 m_10.w.length x_9.c2]) rfl rfl rfl rfl Tryz.sizeOf32 rfl rfl (Nat.le_of_ble_eq_true rfl) rfl) ?_
  rintro _ _ rfl
  refine JL.pure rfl (PO.assign (v := .int .i64 n_11) rfl) ?_
  refine JL.pure rfl (PO.assign (v := .int .i64 n_13) rfl) ?_
  refine JL.nil ?_
  refine JQ.seq ?_
  refine JC.ret ?_
  refine Done.three (.inl rfl) rfl (RV.cell1 (LO.loadK 3 (vs := [.slice x_9.a0 m_10.s.length x_9.c0, .slice x_9.a1 m_10.r.length x_9.c1, .slice x_9.a2 m_10.w.length x_9.c2]) rfl rfl Tryz.isAgg32 Tryz.sizeOf32 rfl rfl) ⟨_, rfl⟩) (RV.tmp (v := .int .i64 n_11) rfl) (RV.tmp (v := .int .i64 n_13) rfl) (List.sublist_append_left [rC x_9.a0 x_9.c0 m_10.s, rS x_9.a1 x_9.c1 m_10.r, rS x_9.a2 x_9.c2 m_10.w] [mb b_2 x_9 m_10, mb b_1 x m]) ?_
  exact ⟨x_9, m_10, n_11, n_13, (by simp only [if_true, e_7, if_true, if_false, Bool.false_eq_true, Bool.not_true, Bool.not_false]; (repeat (first | rw [if_pos (by omega)] | rw [if_neg (by omega)])); all_goals (first | rfl | simp only [if_true, if_false, Bool.false_eq_true, Bool.not_true, Bool.not_false, e_7])), (k_8.mono (by omega) (by omega)), (by first | omega | (simp only [List.length_append, List.length_cons, List.length_nil, List.length_take, List.length_drop]; omega)), (by first | omega | (simp only [List.length_append, List.length_cons, List.length_nil, List.length_take, List.length_drop]; omega)), rfl, rfl⟩

theorem N_send (p : Nat) (x : MA) (m : MS) {S T : Nat} (hk : m.ok S T) (hS : S ≤ 50000000) (hT : T ≤ 50000000) (to_ : Int) (n : Int) (hto_ : -9223372036854775808 ≤ to_ ∧ to_ ≤ 9223372036854775807) (hn : -9223372036854775808 ≤ n ∧ n ≤ 9223372036854775807) :
    Ct Tryz.prog 189 [.pointer (some ⟨p, 0, none⟩), .int .i64 to_, .int .i64 n] (mb p x m :: mr x m) (fun _ => True) (fun v A' => ∃ x' m' r0, MS.send m to_ n = (m', r0) ∧ m'.ok (S + 2) (T + 5) ∧ (0 ≤ r0 ∧ r0 ≤ 9) ∧ v = .int .i64 r0 ∧ A' = mb p x' m' :: mr x' m') := by
  refine Ct.intro Tryz.func189 rfl Tryz.ntmps189 (Nat.le_of_ble_eq_true rfl) fun w0 hpre => ?_
  refine JC.seq ?_
  refine JC.region ?_
  refine JL.pure rfl (PO.assign (v := .int .i64 0) rfl) ?_
  refine JL.nil ?_
  refine JQ.seq ?_
  refine JC.seq ?_
  refine JC.seq ?_
  refine JC.region ?_
  refine JL.pure rfl (PO.move (v := .pointer (some ⟨p, 0, none⟩)) rfl) ?_
  refine JL.pure rfl (PO.move (v := .int .i64 to_) rfl) ?_
  refine JL.op rfl (JO.call [0, 0, 0, 0] Tryz.call186 rfl (N_state p x m hk (by omega) (by omega) to_ (by omega)) rfl (fun _ _ => trivial)) ?_
  rintro _ _ ⟨_, ⟨x_3, m_4, n_5, e_1, k_2, f_6, rfl, rfl⟩, rfl⟩
  refine JL.pure rfl (PO.neqI rfl rfl) ?_
  refine JL.nil ?_
  refine JQ.seq ?_
  by_cases h_7 : n_5 = 1
  · skip
    refine JC.condF (congrArg Value.bool (congrArg Bool.not (decide_eq_true h_7))) ?_
    refine JC.skip ?_
    refine JQ.seq ?_
    refine JC.seq ?_
    refine JC.seq ?_
    refine JC.region ?_
    refine JL.pure rfl (PO.move (v := .int .i64 n) rfl) ?_
    refine JL.op rfl (JO.call [] Tryz.call143 rfl (C_within n 1 31) rfl (fun _ _ => trivial)) ?_
    rintro _ _ ⟨_, ⟨rfl, rfl⟩, rfl⟩
    refine JL.pure rfl (PO.not rfl) ?_
    refine JL.nil ?_
    refine JQ.seq ?_
    rcases Bool.eq_false_or_eq_true (decide (1 ≤ n) && decide (n ≤ 31)) with h_8 | h_8
    · skip
      have h_8d := h_8
      simp only [Bool.and_eq_true, Bool.and_eq_false_iff, decide_eq_true_eq, decide_eq_false_iff_not] at h_8d
      refine JC.condF (congrArg Value.bool (congrArg Bool.not h_8)) ?_
      refine JC.skip ?_
      refine JQ.seq ?_
      refine JC.seq ?_
      refine JC.region ?_
      refine JL.pure rfl (PO.move (v := .pointer (some ⟨p, 0, none⟩)) rfl) ?_
      refine JL.pure rfl (PO.move (v := .int .i64 to_) rfl) ?_
      refine JL.op rfl (JO.call [] Tryz.call269 rfl (N_signalKey to_ [47, 116] (by omega) (show List.length ([47, 116] : Str) ≤ 2 by decide) (by omega)) rfl (fun _ _ => trivial)) ?_
      rintro _ _ ⟨_, ⟨u_11, e_9, f_12, rfl, rfl⟩, rfl⟩
      refine JL.op rfl (JO.call [0, 0, 0, 0] Tryz.call170 rfl (N_num p x_3 m_4 k_2 (by omega) (by omega) u_11) rfl (fun _ _ => trivial)) ?_
      rintro _ _ ⟨_, ⟨x_15, m_16, n_17, e_13, k_14, f_18, rfl, rfl⟩, rfl⟩
      refine JL.pure rfl (PO.assign (v := .int .i64 n_17) rfl) ?_
      refine JL.nil ?_
      refine JQ.seq ?_
      refine JC.seq ?_
      refine JC.region ?_
      refine JL.pure rfl (PO.move (v := .pointer (some ⟨p, 0, none⟩)) rfl) ?_
      refine JL.pure rfl (PO.move (v := .int .i64 to_) rfl) ?_
      refine JL.op rfl (JO.call [] Tryz.call269 rfl (N_signalKey to_ [47, 104] (by omega) (show List.length ([47, 104] : Str) ≤ 2 by decide) (by omega)) rfl (fun _ _ => trivial)) ?_
      rintro _ _ ⟨_, ⟨u_21, e_19, f_22, rfl, rfl⟩, rfl⟩
      refine JL.op rfl (JO.call [0, 0, 0, 0] Tryz.call170 rfl (N_num p x_15 m_16 k_14 (by omega) (by omega) u_21) rfl (fun _ _ => trivial)) ?_
      rintro _ _ ⟨_, ⟨x_25, m_26, n_27, e_23, k_24, f_28, rfl, rfl⟩, rfl⟩
      refine JL.pure rfl (PO.assign (v := .int .i64 n_27) rfl) ?_
      refine JL.nil ?_
      refine JQ.seq ?_
      refine JC.seq ?_
      refine JC.block ?_
      refine JC.seq ?_
      refine JC.region ?_
      refine JL.pure rfl (PO.move (v := .int .i64 n_17) rfl) ?_
      refine JL.pure rfl (PO.move (v := .int .i64 n_27) rfl) ?_
      refine JL.pure rfl (PO.sub (c := n_17 - n_27) rfl rfl (wr (by omega))) ?_
      refine JL.pure rfl (PO.geq rfl rfl) ?_
      refine JL.pure rfl (PO.assign (v := .bool (decide (4 ≤ (n_17 - n_27)))) rfl) ?_
      refine JL.nil ?_
      refine JQ.seq ?_
      by_cases h_29 : 4 ≤ (n_17 - n_27)
      · skip
        refine JC.condT (congrArg Value.bool (decide_eq_true h_29)) ?_
        refine JC.seq ?_
        refine JC.region ?_
        refine JL.pure rfl (PO.assign (v := .int .i64 5) rfl) ?_
        refine JL.nil ?_
        refine JQ.seq ?_
        refine JC.ret ?_
        refine JQ.blockRet ?_
        refine JQ.thenRet ?_
        refine Done.one (.inl rfl) rfl (RV.tmp (v := .int .i64 5) rfl) (List.Sublist.refl _) ?_
        exact ⟨x_25, m_26, 5, (by simp only [MS.send, e_1, h_7, h_8, e_9, e_13, e_19, e_23, h_29, if_true, if_false, Bool.false_eq_true, Bool.not_true, Bool.not_false]; (repeat (first | rw [if_pos (by omega)] | rw [if_neg (by omega)])); all_goals (first | rfl | simp only [if_true, if_false, Bool.false_eq_true, Bool.not_true, Bool.not_false, e_1, h_7, h_8, e_9, e_13, e_19, e_23, h_29])), (k_24.mono (by omega) (by omega)), (by first | omega | (simp only [List.length_append, List.length_cons, List.length_nil, List.length_take, List.length_drop]; omega)), rfl, rfl⟩
      · skip
        refine JC.condF (congrArg Value.bool (decide_eq_false h_29)) ?_
        refine JC.seq ?_
        refine JC.region ?_
        refine JL.pure rfl (PO.move (v := .int .i64 n_17) rfl) ?_
        refine JL.pure rfl (PO.geq rfl rfl) ?_
        refine JL.pure rfl (PO.assign (v := .bool (decide (999 ≤ n_17))) rfl) ?_
        refine JL.nil ?_
        refine JQ.seq ?_
        by_cases h_30 : 999 ≤ n_17
        · skip
          refine JC.condT (congrArg Value.bool (decide_eq_true h_30)) ?_
          refine JC.seq ?_
          refine JC.region ?_
          refine JL.pure rfl (PO.assign (v := .int .i64 3) rfl) ?_
          refine JL.nil ?_
          refine JQ.seq ?_
          refine JC.ret ?_
          refine JQ.blockRet ?_
          refine JQ.thenRet ?_
          refine Done.one (.inl rfl) rfl (RV.tmp (v := .int .i64 3) rfl) (List.Sublist.refl _) ?_
          exact ⟨x_25, m_26, 3, (by simp only [MS.send, e_1, h_7, h_8, e_9, e_13, e_19, e_23, h_29, h_30, if_true, if_false, Bool.false_eq_true, Bool.not_true, Bool.not_false]; (repeat (first | rw [if_pos (by omega)] | rw [if_neg (by omega)])); all_goals (first | rfl | simp only [if_true, if_false, Bool.false_eq_true, Bool.not_true, Bool.not_false, e_1, h_7, h_8, e_9, e_13, e_19, e_23, h_29, h_30])), (k_24.mono (by omega) (by omega)), (by first | omega | (simp only [List.length_append, List.length_cons, List.length_nil, List.length_take, List.length_drop]; omega)), rfl, rfl⟩
        · skip
          refine JC.condF (congrArg Value.bool (decide_eq_false h_30)) ?_
          refine JC.skip ?_
          refine JQ.blockN ?_
          refine JQ.seq ?_
          refine JC.seq ?_
          refine JC.region ?_
          refine JL.pure rfl (PO.move (v := .pointer (some ⟨p, 0, none⟩)) rfl) ?_
          refine JL.pure rfl (PO.move (v := .int .i64 to_) rfl) ?_
          refine JL.op rfl (JO.call [] Tryz.call269 rfl (N_signalKey to_ [47, 116] (by omega) (show List.length ([47, 116] : Str) ≤ 2 by decide) (by omega)) rfl (fun _ _ => trivial)) ?_
          rintro _ _ ⟨_, ⟨u_33, e_31, f_34, rfl, rfl⟩, rfl⟩
          have hqe_31 := e_9.symm.trans e_31
          subst hqe_31
          refine JL.pure rfl (PO.move (v := .int .i64 n_17) rfl) ?_
          refine JL.pure rfl (PO.add (c := n_17 + 1) rfl rfl (wr (by omega))) ?_
          refine JL.op rfl (JO.call [0, 0, 0, 0] Tryz.call241 rfl (N_setNum p x_25 m_26 k_24 (by omega) (by omega) u_11 (n_17 + 1) (by omega) (by omega)) rfl (fun _ _ => trivial)) ?_
          rintro _ _ ⟨_, ⟨x_37, m_38, e_35, k_36, rfl, rfl⟩, rfl⟩
          refine JL.nil ?_
          refine JQ.seq ?_
          refine JC.seq ?_
          refine JC.region ?_
          refine JL.pure rfl (PO.move (v := .pointer (some ⟨p, 0, none⟩)) rfl) ?_
          refine JL.pure rfl (PO.move (v := .int .i64 to_) rfl) ?_
          refine JL.op rfl (JO.call [] Tryz.call269 rfl (N_signalKey to_ [47, 113, 47] (by omega) (show List.length ([47, 113, 47] : Str) ≤ 3 by decide) (by omega)) rfl (fun _ _ => trivial)) ?_
          rintro _ _ ⟨_, ⟨u_41, e_39, f_42, rfl, rfl⟩, rfl⟩
          refine JL.pure rfl (PO.move (v := .int .i64 n_17) rfl) ?_
          refine JL.pure rfl (PO.add (c := n_17 + 1) rfl rfl (wr (by omega))) ?_
          refine JL.op rfl (JO.call [] Tryz.call215 rfl (N_keyNum u_41 (n_17 + 1) [] (Nat.le_refl _) (by omega) (show List.length ([] : Str) ≤ 0 by decide) (by omega)) rfl (fun _ _ => trivial)) ?_
          rintro _ _ ⟨_, ⟨u_45, e_43, f_46, rfl, rfl⟩, rfl⟩
          refine JL.pure rfl (PO.move (v := .int .i64 n) rfl) ?_
          refine JL.op rfl (JO.call [0, 0, 0, 0] Tryz.call241 rfl (N_setNum p x_37 m_38 k_36 (by omega) (by omega) u_45 n (by omega) (by omega)) rfl (fun _ _ => trivial)) ?_
          rintro _ _ ⟨_, ⟨x_49, m_50, e_47, k_48, rfl, rfl⟩, rfl⟩
          refine JL.nil ?_
          refine JQ.seq ?_
          refine JC.seq ?_
          refine JC.region ?_
          refine JL.pure rfl (PO.assign (v := .int .i64 0) rfl) ?_
          refine JL.nil ?_
          refine JQ.seq ?_
          refine JC.ret ?_
          refine Done.one (.inl rfl) rfl (RV.tmp (v := .int .i64 0) rfl) (List.Sublist.refl _) ?_
          exact ⟨x_49, m_50, 0, (by simp only [MS.send, e_1, h_7, h_8, e_9, e_13, e_19, e_23, h_29, h_30, e_35, e_39, e_43, e_47, if_true, if_false, Bool.false_eq_true, Bool.not_true, Bool.not_false]; (repeat (first | rw [if_pos (by omega)] | rw [if_neg (by omega)])); all_goals (first | rfl | simp only [if_true, if_false, Bool.false_eq_true, Bool.not_true, Bool.not_false, e_1, h_7, h_8, e_9, e_13, e_19, e_23, h_29, h_30, e_35, e_39, e_43, e_47])), (k_48.mono (by omega) (by omega)), (by first | omega | (simp only [List.length_append, List.length_cons, List.length_nil, List.length_take, List.length_drop]; omega)), rfl, rfl⟩
    · skip
      have h_8d := h_8
      simp only [Bool.and_eq_true, Bool.and_eq_false_iff, decide_eq_true_eq, decide_eq_false_iff_not] at h_8d
      refine JC.condT (congrArg Value.bool (congrArg Bool.not h_8)) ?_
      refine JC.seq ?_
      refine JC.region ?_
      refine JL.pure rfl (PO.assign (v := .int .i64 4) rfl) ?_
      refine JL.nil ?_
      refine JQ.seq ?_
      refine JC.ret ?_
      refine JQ.thenRet ?_
      refine Done.one (.inl rfl) rfl (RV.tmp (v := .int .i64 4) rfl) (List.Sublist.refl _) ?_
      exact ⟨x_3, m_4, 4, (by simp only [MS.send, e_1, h_7, h_8, if_true, if_false, Bool.false_eq_true, Bool.not_true, Bool.not_false]; (repeat (first | rw [if_pos (by omega)] | rw [if_neg (by omega)])); all_goals (first | rfl | simp only [if_true, if_false, Bool.false_eq_true, Bool.not_true, Bool.not_false, e_1, h_7, h_8])), (k_2.mono (by omega) (by omega)), (by first | omega | (simp only [List.length_append, List.length_cons, List.length_nil, List.length_take, List.length_drop]; omega)), rfl, rfl⟩
  · skip
    refine JC.condT (congrArg Value.bool (congrArg Bool.not (decide_eq_false h_7))) ?_
    refine JC.seq ?_
    refine JC.region ?_
    refine JL.pure rfl (PO.assign (v := .int .i64 2) rfl) ?_
    refine JL.nil ?_
    refine JQ.seq ?_
    refine JC.ret ?_
    refine JQ.thenRet ?_
    refine Done.one (.inl rfl) rfl (RV.tmp (v := .int .i64 2) rfl) (List.Sublist.refl _) ?_
    exact ⟨x_3, m_4, 2, (by simp only [MS.send, e_1, h_7, if_true, if_false, Bool.false_eq_true, Bool.not_true, Bool.not_false]; (repeat (first | rw [if_pos (by omega)] | rw [if_neg (by omega)])); all_goals (first | rfl | simp only [if_true, if_false, Bool.false_eq_true, Bool.not_true, Bool.not_false, e_1, h_7])), (k_2.mono (by omega) (by omega)), (by first | omega | (simp only [List.length_append, List.length_cons, List.length_nil, List.length_take, List.length_drop]; omega)), rfl, rfl⟩

theorem M_send (x : MA) (m : MS) {S T : Nat} (hk : m.ok S T) (hS : S ≤ 50000000) (hT : T ≤ 50000000) (to_ : Int) (n : Int) (hto_ : -9223372036854775808 ≤ to_ ∧ to_ ≤ 9223372036854775807) (hn : -9223372036854775808 ≤ n ∧ n ≤ 9223372036854775807) :
    Ct Tryz.prog 190 [mv x m, .int .i64 to_, .int .i64 n] (mr x m) (fun _ => True) (fun v A' => ∃ x' m' r0, MS.send m to_ n = (m', r0) ∧ m'.ok (S + 2) (T + 5) ∧ (0 ≤ r0 ∧ r0 ≤ 9) ∧ v = .tuple #[mv x' m', .int .i64 r0] ∧ A' = mr x' m') := by
  refine Ct.intro Tryz.func190 rfl Tryz.ntmps190 (Nat.le_of_ble_eq_true rfl) fun w0 hpre => ?_
  refine JC.seq ?_
  refine JC.region ?_
  refine JL.op rfl (JO.box (cs := [.slice x.a0 m.s.length x.c0, .slice x.a1 m.r.length x.c1, .slice x.a2 m.w.length x.c2]) rfl rfl) ?_
  rintro _ _ ⟨b_1, rfl, rfl⟩
  refine JL.op rfl (JO.alloc (z := .agg #[.slice none 0 0, .slice none 0 0, .slice none 0 0]) (cs := [.slice none 0 0, .slice none 0 0, .slice none 0 0]) Tryz.zeroValue32 rfl) ?_
  rintro _ _ ⟨b_2, rfl, rfl⟩
  refine JL.pure rfl (PO.assign (v := .int .i64 0) rfl) ?_
  refine JL.nil ?_
  refine JQ.seq ?_
  refine JC.seq ?_
  refine JC.region ?_
  refine JL.ld rfl (LO.loadK 1 (vs := [.slice x.a0 m.s.length x.c0, .slice x.a1 m.r.length x.c1, .slice x.a2 m.w.length x.c2]) rfl rfl Tryz.isAgg32 Tryz.sizeOf32 rfl rfl) ?_
  refine JL.pure rfl (PO.move (v := .int .i64 to_) rfl) ?_
  refine JL.op rfl (JO.call [2, 2, 2] Tryz.call187 rfl (M_state x m hk (by omega) (by omega) to_ (by omega)) rfl (fun _ _ => trivial)) ?_
  rintro _ _ ⟨_, ⟨x_5, m_6, n_7, e_3, k_4, f_8, rfl, rfl⟩, rfl⟩
  refine JL.pure rfl (PO.move (v := .tuple #[mv x_5 m_6, .int .i64 n_7]) rfl) ?_
  refine JL.pure rfl (PO.extract (v := mv x_5 m_6) rfl rfl) ?_
  refine JL.pure rfl (PO.extract (v := .int .i64 n_7) rfl rfl) ?_
  refine JL.op rfl (JO.store 4 (vs := [.slice x_5.a0 m_6.s.length x_5.c0, .slice x_5.a1 m_6.r.length x_5.c1, .slice x_5.a2 m_6.w.length x_5.c2]) (cs' := [.slice x_5.a0 m_6.s.length x_5.c0, .slice x_5.a1 m_6.r.length x_5.c1, .slice x_5.a2 m_6.w.length x_5.c2]) rfl rfl rfl rfl Tryz.sizeOf32 rfl rfl (Nat.le_of_ble_eq_true rfl) rfl) ?_
  rintro _ _ rfl
  refine JL.pure rfl (PO.assign (v := .int .i64 n_7) rfl) ?_
  refine JL.nil ?_
  refine JQ.seq ?_
  refine JC.seq ?_
  refine JC.seq ?_
  refine JC.region ?_
  refine JL.pure rfl (PO.move (v := .int .i64 n_7) rfl) ?_
  refine JL.pure rfl (PO.neqI rfl rfl) ?_
  refine JL.nil ?_
  refine JQ.seq ?_
  by_cases h_9 : n_7 = 1
  · skip
    refine JC.condF (congrArg Value.bool (congrArg Bool.not (decide_eq_true h_9))) ?_
    refine JC.skip ?_
    refine JQ.seq ?_
    refine JC.seq ?_
    refine JC.seq ?_
    refine JC.region ?_
    refine JL.pure rfl (PO.move (v := .int .i64 n) rfl) ?_
    refine JL.op rfl (JO.call [] Tryz.call144 rfl (C_l01In n 1 31) rfl (fun _ _ => trivial)) ?_
    rintro _ _ ⟨_, ⟨rfl, rfl⟩, rfl⟩
    refine JL.pure rfl (PO.not rfl) ?_
    refine JL.nil ?_
    refine JQ.seq ?_
    rcases Bool.eq_false_or_eq_true (decide (1 ≤ n) && decide (n ≤ 31)) with h_10 | h_10
    · skip
      have h_10d := h_10
      simp only [Bool.and_eq_true, Bool.and_eq_false_iff, decide_eq_true_eq, decide_eq_false_iff_not] at h_10d
      refine JC.condF (congrArg Value.bool (congrArg Bool.not h_10)) ?_
      refine JC.skip ?_
      refine JQ.seq ?_
      refine JC.seq ?_
      refine JC.regionA [mb b_1 x_5 m_6] 7 mixed (by simp) ?_
      refine JA.take 0 rfl (by kernel_rfl) (NP.th NP.body) (by kernel_rfl) (by kernel_rfl) (by kernel_rfl) rfl (LO.loadK 0 (vs := [.slice x_5.a0 m_6.s.length x_5.c0, .slice x_5.a1 m_6.r.length x_5.c1, .slice x_5.a2 m_6.w.length x_5.c2]) rfl rfl Tryz.isAgg32 Tryz.sizeOf32 rfl rfl) ?_
      refine JA.takeP 1 rfl (by kernel_rfl) (NP.th NP.body) (by kernel_rfl) (by kernel_rfl) rfl (PO.move (v := .int .i64 to_) rfl) ?_
      refine JA.one (i := 2) (by kernel_rfl) ?_
      refine JX.op rfl rfl (JO.call [] Tryz.call270 rfl (N_l10Key to_ [47, 116] (by omega) (show List.length ([47, 116] : Str) ≤ 2 by decide) (by omega)) rfl (fun _ _ => trivial)) ?_
      rintro _ _ ⟨_, ⟨u_17, e_15, f_18, rfl, rfl⟩, rfl⟩
      refine ⟨(by simp), ?_⟩
      refine JA.one (i := 3) (by kernel_rfl) ?_
      refine JX.op rfl rfl (JO.call [0, 0, 0] Tryz.call228 rfl (N_sNumAt x_5 m_6 k_4 (by omega) (by omega) u_17) rfl (fun _ _ => trivial)) ?_
      rintro _ _ ⟨_, ⟨x_27, m_28, n_29, e_25, k_26, f_30, rfl, rfl⟩, rfl⟩
      refine ⟨(by simp), ?_⟩
      refine JA.takeP 4 rfl (by kernel_rfl) (NP.th NP.body) (by kernel_rfl) (by kernel_rfl) rfl (PO.move (v := .tuple #[mv x_27 m_28, .int .i64 n_29]) rfl) ?_
      refine JA.takeP 5 rfl (by kernel_rfl) (NP.th NP.body) (by kernel_rfl) (by kernel_rfl) rfl (PO.extract (v := mv x_27 m_28) rfl rfl) ?_
      refine JA.takeP 6 rfl (by kernel_rfl) (NP.th NP.body) (by kernel_rfl) (by kernel_rfl) rfl (PO.extract (v := .int .i64 n_29) rfl rfl) ?_
      refine JA.one (i := 7) (by kernel_rfl) ?_
      refine JX.late rfl rfl (by decide) (by kernel_rfl) (JO.store 4 (vs := [.slice x_27.a0 m_28.s.length x_27.c0, .slice x_27.a1 m_28.r.length x_27.c1, .slice x_27.a2 m_28.w.length x_27.c2]) (cs' := [.slice x_27.a0 m_28.s.length x_27.c0, .slice x_27.a1 m_28.r.length x_27.c1, .slice x_27.a2 m_28.w.length x_27.c2]) rfl rfl rfl rfl Tryz.sizeOf32 rfl rfl (Nat.le_of_ble_eq_true rfl) rfl) ?_
      rintro _ _ rfl
      refine JA.takeP 8 rfl (by kernel_rfl) (NP.th NP.body) (by kernel_rfl) (by kernel_rfl) rfl (PO.assign (v := .int .i64 n_29) rfl) ?_
      refine JA.done (by kernel_rfl) ?_
      refine JQ.seq ?_
      refine JC.seq ?_
      refine JC.regionA [mb b_1 x_27 m_28] 7 mixed (by simp) ?_
      refine JA.take 0 rfl (by kernel_rfl) (NP.th NP.body) (by kernel_rfl) (by kernel_rfl) (by kernel_rfl) rfl (LO.loadK 0 (vs := [.slice x_27.a0 m_28.s.length x_27.c0, .slice x_27.a1 m_28.r.length x_27.c1, .slice x_27.a2 m_28.w.length x_27.c2]) rfl rfl Tryz.isAgg32 Tryz.sizeOf32 rfl rfl) ?_
      refine JA.takeP 1 rfl (by kernel_rfl) (NP.th NP.body) (by kernel_rfl) (by kernel_rfl) rfl (PO.move (v := .int .i64 to_) rfl) ?_
      refine JA.one (i := 2) (by kernel_rfl) ?_
      refine JX.op rfl rfl (JO.call [] Tryz.call270 rfl (N_l10Key to_ [47, 104] (by omega) (show List.length ([47, 104] : Str) ≤ 2 by decide) (by omega)) rfl (fun _ _ => trivial)) ?_
      rintro _ _ ⟨_, ⟨u_37, e_35, f_38, rfl, rfl⟩, rfl⟩
      refine ⟨(by simp), ?_⟩
      refine JA.one (i := 3) (by kernel_rfl) ?_
      refine JX.op rfl rfl (JO.call [0, 0, 0] Tryz.call228 rfl (N_sNumAt x_27 m_28 k_26 (by omega) (by omega) u_37) rfl (fun _ _ => trivial)) ?_
      rintro _ _ ⟨_, ⟨x_47, m_48, n_49, e_45, k_46, f_50, rfl, rfl⟩, rfl⟩
      refine ⟨(by simp), ?_⟩
      refine JA.takeP 4 rfl (by kernel_rfl) (NP.th NP.body) (by kernel_rfl) (by kernel_rfl) rfl (PO.move (v := .tuple #[mv x_47 m_48, .int .i64 n_49]) rfl) ?_
      refine JA.takeP 5 rfl (by kernel_rfl) (NP.th NP.body) (by kernel_rfl) (by kernel_rfl) rfl (PO.extract (v := mv x_47 m_48) rfl rfl) ?_
      refine JA.takeP 6 rfl (by kernel_rfl) (NP.th NP.body) (by kernel_rfl) (by kernel_rfl) rfl (PO.extract (v := .int .i64 n_49) rfl rfl) ?_
      refine JA.one (i := 7) (by kernel_rfl) ?_
      refine JX.late rfl rfl (by decide) (by kernel_rfl) (JO.store 4 (vs := [.slice x_47.a0 m_48.s.length x_47.c0, .slice x_47.a1 m_48.r.length x_47.c1, .slice x_47.a2 m_48.w.length x_47.c2]) (cs' := [.slice x_47.a0 m_48.s.length x_47.c0, .slice x_47.a1 m_48.r.length x_47.c1, .slice x_47.a2 m_48.w.length x_47.c2]) rfl rfl rfl rfl Tryz.sizeOf32 rfl rfl (Nat.le_of_ble_eq_true rfl) rfl) ?_
      rintro _ _ rfl
      refine JA.takeP 8 rfl (by kernel_rfl) (NP.th NP.body) (by kernel_rfl) (by kernel_rfl) rfl (PO.assign (v := .int .i64 n_49) rfl) ?_
      refine JA.done (by kernel_rfl) ?_
      refine JQ.seq ?_
      refine JC.seq ?_
      refine JC.seq ?_
      refine JC.region ?_
      refine JL.pure rfl (PO.move (v := .int .i64 n_29) rfl) ?_
      refine JL.pure rfl (PO.move (v := .int .i64 n_49) rfl) ?_
      refine JL.pure rfl (PO.sub (c := n_29 - n_49) rfl rfl (wr (by omega))) ?_
      refine JL.pure rfl (PO.geq rfl rfl) ?_
      refine JL.nil ?_
      refine JQ.seq ?_
      by_cases h_51 : 4 ≤ (n_29 - n_49)
      · skip
        refine JC.condT (congrArg Value.bool (decide_eq_true h_51)) ?_
        refine JC.seq ?_
        refine JC.region ?_
        refine JL.ld rfl (LO.loadK 4 (vs := [.slice x_47.a0 m_48.s.length x_47.c0, .slice x_47.a1 m_48.r.length x_47.c1, .slice x_47.a2 m_48.w.length x_47.c2]) rfl rfl Tryz.isAgg32 Tryz.sizeOf32 rfl rfl) ?_
        refine JL.op rfl (JO.store 3 (vs := [.slice x_47.a0 m_48.s.length x_47.c0, .slice x_47.a1 m_48.r.length x_47.c1, .slice x_47.a2 m_48.w.length x_47.c2]) (cs' := [.slice x_47.a0 m_48.s.length x_47.c0, .slice x_47.a1 m_48.r.length x_47.c1, .slice x_47.a2 m_48.w.length x_47.c2]) rfl rfl rfl rfl Tryz.sizeOf32 rfl rfl (Nat.le_of_ble_eq_true rfl) rfl) ?_
        rintro _ _ rfl
        refine JL.pure rfl (PO.assign (v := .int .i64 5) rfl) ?_
        refine JL.nil ?_
        refine JQ.seq ?_
        refine JC.ret ?_
        refine JQ.thenRet ?_
        refine Done.two (.inl rfl) rfl (RV.cell1 (LO.loadK 3 (vs := [.slice x_47.a0 m_48.s.length x_47.c0, .slice x_47.a1 m_48.r.length x_47.c1, .slice x_47.a2 m_48.w.length x_47.c2]) rfl rfl Tryz.isAgg32 Tryz.sizeOf32 rfl rfl) ⟨_, rfl⟩) (RV.tmp (v := .int .i64 5) rfl) (List.sublist_append_left [rC x_47.a0 x_47.c0 m_48.s, rS x_47.a1 x_47.c1 m_48.r, rS x_47.a2 x_47.c2 m_48.w] [mb b_2 x_47 m_48, mb b_1 x_47 m_48]) ?_
        exact ⟨x_47, m_48, 5, (by simp only [MS.send, e_3, h_9, h_10, e_15, e_25, e_35, e_45, h_51, if_true, if_false, Bool.false_eq_true, Bool.not_true, Bool.not_false]; (repeat (first | rw [if_pos (by omega)] | rw [if_neg (by omega)])); all_goals (first | rfl | simp only [if_true, if_false, Bool.false_eq_true, Bool.not_true, Bool.not_false, e_3, h_9, h_10, e_15, e_25, e_35, e_45, h_51])), (k_46.mono (by omega) (by omega)), (by first | omega | (simp only [List.length_append, List.length_cons, List.length_nil, List.length_take, List.length_drop]; omega)), rfl, rfl⟩
      · skip
        refine JC.condF (congrArg Value.bool (decide_eq_false h_51)) ?_
        refine JC.skip ?_
        refine JQ.seq ?_
        refine JC.seq ?_
        refine JC.seq ?_
        refine JC.region ?_
        refine JL.pure rfl (PO.move (v := .int .i64 n_29) rfl) ?_
        refine JL.pure rfl (PO.geq rfl rfl) ?_
        refine JL.nil ?_
        refine JQ.seq ?_
        by_cases h_52 : 999 ≤ n_29
        · skip
          refine JC.condT (congrArg Value.bool (decide_eq_true h_52)) ?_
          refine JC.seq ?_
          refine JC.region ?_
          refine JL.ld rfl (LO.loadK 4 (vs := [.slice x_47.a0 m_48.s.length x_47.c0, .slice x_47.a1 m_48.r.length x_47.c1, .slice x_47.a2 m_48.w.length x_47.c2]) rfl rfl Tryz.isAgg32 Tryz.sizeOf32 rfl rfl) ?_
          refine JL.op rfl (JO.store 3 (vs := [.slice x_47.a0 m_48.s.length x_47.c0, .slice x_47.a1 m_48.r.length x_47.c1, .slice x_47.a2 m_48.w.length x_47.c2]) (cs' := [.slice x_47.a0 m_48.s.length x_47.c0, .slice x_47.a1 m_48.r.length x_47.c1, .slice x_47.a2 m_48.w.length x_47.c2]) rfl rfl rfl rfl Tryz.sizeOf32 rfl rfl (Nat.le_of_ble_eq_true rfl) rfl) ?_
          rintro _ _ rfl
          refine JL.pure rfl (PO.assign (v := .int .i64 3) rfl) ?_
          refine JL.nil ?_
          refine JQ.seq ?_
          refine JC.ret ?_
          refine JQ.thenRet ?_
          refine Done.two (.inl rfl) rfl (RV.cell1 (LO.loadK 3 (vs := [.slice x_47.a0 m_48.s.length x_47.c0, .slice x_47.a1 m_48.r.length x_47.c1, .slice x_47.a2 m_48.w.length x_47.c2]) rfl rfl Tryz.isAgg32 Tryz.sizeOf32 rfl rfl) ⟨_, rfl⟩) (RV.tmp (v := .int .i64 3) rfl) (List.sublist_append_left [rC x_47.a0 x_47.c0 m_48.s, rS x_47.a1 x_47.c1 m_48.r, rS x_47.a2 x_47.c2 m_48.w] [mb b_2 x_47 m_48, mb b_1 x_47 m_48]) ?_
          exact ⟨x_47, m_48, 3, (by simp only [MS.send, e_3, h_9, h_10, e_15, e_25, e_35, e_45, h_51, h_52, if_true, if_false, Bool.false_eq_true, Bool.not_true, Bool.not_false]; (repeat (first | rw [if_pos (by omega)] | rw [if_neg (by omega)])); all_goals (first | rfl | simp only [if_true, if_false, Bool.false_eq_true, Bool.not_true, Bool.not_false, e_3, h_9, h_10, e_15, e_25, e_35, e_45, h_51, h_52])), (k_46.mono (by omega) (by omega)), (by first | omega | (simp only [List.length_append, List.length_cons, List.length_nil, List.length_take, List.length_drop]; omega)), rfl, rfl⟩
        · skip
          refine JC.condF (congrArg Value.bool (decide_eq_false h_52)) ?_
          refine JC.skip ?_
          refine JQ.seq ?_
          refine JC.seq ?_
          refine JC.regionA [mb b_1 x_47 m_48] 5 mixed (by simp) ?_
          refine JA.take 0 rfl (by kernel_rfl) (NP.th NP.body) (by kernel_rfl) (by kernel_rfl) (by kernel_rfl) rfl (LO.loadK 0 (vs := [.slice x_47.a0 m_48.s.length x_47.c0, .slice x_47.a1 m_48.r.length x_47.c1, .slice x_47.a2 m_48.w.length x_47.c2]) rfl rfl Tryz.isAgg32 Tryz.sizeOf32 rfl rfl) ?_
          refine JA.takeP 1 rfl (by kernel_rfl) (NP.th NP.body) (by kernel_rfl) (by kernel_rfl) rfl (PO.move (v := .int .i64 to_) rfl) ?_
          refine JA.takeP 3 rfl (by kernel_rfl) (NP.th NP.body) (by kernel_rfl) (by kernel_rfl) rfl (PO.move (v := .int .i64 n_29) rfl) ?_
          refine JA.takeP 4 rfl (by kernel_rfl) (NP.th NP.body) (by kernel_rfl) (by kernel_rfl) rfl (PO.add (c := n_29 + 1) rfl rfl (wr (by omega))) ?_
          refine JA.one (i := 2) (by kernel_rfl) ?_
          refine JX.op rfl rfl (JO.call [] Tryz.call270 rfl (N_l10Key to_ [47, 116] (by omega) (show List.length ([47, 116] : Str) ≤ 2 by decide) (by omega)) rfl (fun _ _ => trivial)) ?_
          rintro _ _ ⟨_, ⟨u_67, e_65, f_68, rfl, rfl⟩, rfl⟩
          have hqe_65 := e_15.symm.trans e_65
          subst hqe_65
          refine ⟨(by simp), ?_⟩
          refine JA.one (i := 5) (by kernel_rfl) ?_
          refine JX.late rfl rfl (by decide) (by kernel_rfl) (JO.call [0, 0, 0] Tryz.call233 rfl (N_sSetNum x_47 m_48 k_46 (by omega) (by omega) u_17 (n_29 + 1) (by omega) (by omega)) rfl (fun _ _ => trivial)) ?_
          rintro _ _ ⟨_, ⟨x_75, m_76, e_73, k_74, rfl, rfl⟩, rfl⟩
          refine JA.one (i := 6) (by kernel_rfl) ?_
          refine JX.last rfl rfl (by decide) (by kernel_rfl) (JO.store 4 (vs := [.slice x_75.a0 m_76.s.length x_75.c0, .slice x_75.a1 m_76.r.length x_75.c1, .slice x_75.a2 m_76.w.length x_75.c2]) (cs' := [.slice x_75.a0 m_76.s.length x_75.c0, .slice x_75.a1 m_76.r.length x_75.c1, .slice x_75.a2 m_76.w.length x_75.c2]) rfl rfl rfl rfl Tryz.sizeOf32 rfl rfl (Nat.le_of_ble_eq_true rfl) rfl) ?_
          rintro _ _ rfl
          refine JQ.seq ?_
          refine JC.seq ?_
          refine JC.regionA [mb b_1 x_75 m_76] 6 mixed (by simp) ?_
          refine JA.take 0 rfl (by kernel_rfl) (NP.th NP.body) (by kernel_rfl) (by kernel_rfl) (by kernel_rfl) rfl (LO.loadK 0 (vs := [.slice x_75.a0 m_76.s.length x_75.c0, .slice x_75.a1 m_76.r.length x_75.c1, .slice x_75.a2 m_76.w.length x_75.c2]) rfl rfl Tryz.isAgg32 Tryz.sizeOf32 rfl rfl) ?_
          refine JA.takeP 1 rfl (by kernel_rfl) (NP.th NP.body) (by kernel_rfl) (by kernel_rfl) rfl (PO.move (v := .int .i64 to_) rfl) ?_
          refine JA.takeP 2 rfl (by kernel_rfl) (NP.th NP.body) (by kernel_rfl) (by kernel_rfl) rfl (PO.move (v := .int .i64 n_29) rfl) ?_
          refine JA.takeP 3 rfl (by kernel_rfl) (NP.th NP.body) (by kernel_rfl) (by kernel_rfl) rfl (PO.add (c := n_29 + 1) rfl rfl (wr (by omega))) ?_
          refine JA.takeP 5 rfl (by kernel_rfl) (NP.th NP.body) (by kernel_rfl) (by kernel_rfl) rfl (PO.move (v := .int .i64 n) rfl) ?_
          refine JA.one (i := 4) (by kernel_rfl) ?_
          refine JX.op rfl rfl (JO.call [] Tryz.call271 rfl (N_l10Signal to_ (n_29 + 1) (by omega) (by omega)) rfl (fun _ _ => trivial)) ?_
          rintro _ _ ⟨_, ⟨u_87, e_85, f_88, rfl, rfl⟩, rfl⟩
          refine ⟨(by simp), ?_⟩
          refine JA.one (i := 6) (by kernel_rfl) ?_
          refine JX.late rfl rfl (by decide) (by kernel_rfl) (JO.call [0, 0, 0] Tryz.call233 rfl (N_sSetNum x_75 m_76 k_74 (by omega) (by omega) u_87 n (by omega) (by omega)) rfl (fun _ _ => trivial)) ?_
          rintro _ _ ⟨_, ⟨x_95, m_96, e_93, k_94, rfl, rfl⟩, rfl⟩
          refine JA.one (i := 7) (by kernel_rfl) ?_
          refine JX.late rfl rfl (by decide) (by kernel_rfl) (JO.store 3 (vs := [.slice x_95.a0 m_96.s.length x_95.c0, .slice x_95.a1 m_96.r.length x_95.c1, .slice x_95.a2 m_96.w.length x_95.c2]) (cs' := [.slice x_95.a0 m_96.s.length x_95.c0, .slice x_95.a1 m_96.r.length x_95.c1, .slice x_95.a2 m_96.w.length x_95.c2]) rfl rfl rfl rfl Tryz.sizeOf32 rfl rfl (Nat.le_of_ble_eq_true rfl) rfl) ?_
          rintro _ _ rfl
          refine JA.takeP 8 rfl (by kernel_rfl) (NP.th NP.body) (by kernel_rfl) (by kernel_rfl) rfl (PO.assign (v := .int .i64 0) rfl) ?_
          refine JA.done (by kernel_rfl) ?_
          refine JQ.seq ?_
          refine JC.ret ?_
          refine Done.two (.inl rfl) rfl (RV.cell1 (LO.loadK 3 (vs := [.slice x_95.a0 m_96.s.length x_95.c0, .slice x_95.a1 m_96.r.length x_95.c1, .slice x_95.a2 m_96.w.length x_95.c2]) rfl rfl Tryz.isAgg32 Tryz.sizeOf32 rfl rfl) ⟨_, rfl⟩) (RV.tmp (v := .int .i64 0) rfl) (List.sublist_append_left [rC x_95.a0 x_95.c0 m_96.s, rS x_95.a1 x_95.c1 m_96.r, rS x_95.a2 x_95.c2 m_96.w] [mb b_2 x_95 m_96, mb b_1 x_75 m_76]) ?_
          exact ⟨x_95, m_96, 0, (by simp only [MS.send, e_3, h_9, h_10, e_15, e_25, e_35, e_45, h_51, h_52, e_73, e_85, e_93, if_true, if_false, Bool.false_eq_true, Bool.not_true, Bool.not_false]; (repeat (first | rw [if_pos (by omega)] | rw [if_neg (by omega)])); all_goals (first | rfl | simp only [if_true, if_false, Bool.false_eq_true, Bool.not_true, Bool.not_false, e_3, h_9, h_10, e_15, e_25, e_35, e_45, h_51, h_52, e_73, e_85, e_93])), (k_94.mono (by omega) (by omega)), (by first | omega | (simp only [List.length_append, List.length_cons, List.length_nil, List.length_take, List.length_drop]; omega)), rfl, rfl⟩
    · skip
      have h_10d := h_10
      simp only [Bool.and_eq_true, Bool.and_eq_false_iff, decide_eq_true_eq, decide_eq_false_iff_not] at h_10d
      refine JC.condT (congrArg Value.bool (congrArg Bool.not h_10)) ?_
      refine JC.seq ?_
      refine JC.region ?_
      refine JL.ld rfl (LO.loadK 4 (vs := [.slice x_5.a0 m_6.s.length x_5.c0, .slice x_5.a1 m_6.r.length x_5.c1, .slice x_5.a2 m_6.w.length x_5.c2]) rfl rfl Tryz.isAgg32 Tryz.sizeOf32 rfl rfl) ?_
      refine JL.op rfl (JO.store 3 (vs := [.slice x_5.a0 m_6.s.length x_5.c0, .slice x_5.a1 m_6.r.length x_5.c1, .slice x_5.a2 m_6.w.length x_5.c2]) (cs' := [.slice x_5.a0 m_6.s.length x_5.c0, .slice x_5.a1 m_6.r.length x_5.c1, .slice x_5.a2 m_6.w.length x_5.c2]) rfl rfl rfl rfl Tryz.sizeOf32 rfl rfl (Nat.le_of_ble_eq_true rfl) rfl) ?_
      rintro _ _ rfl
      refine JL.pure rfl (PO.assign (v := .int .i64 4) rfl) ?_
      refine JL.nil ?_
      refine JQ.seq ?_
      refine JC.ret ?_
      refine JQ.thenRet ?_
      refine Done.two (.inl rfl) rfl (RV.cell1 (LO.loadK 3 (vs := [.slice x_5.a0 m_6.s.length x_5.c0, .slice x_5.a1 m_6.r.length x_5.c1, .slice x_5.a2 m_6.w.length x_5.c2]) rfl rfl Tryz.isAgg32 Tryz.sizeOf32 rfl rfl) ⟨_, rfl⟩) (RV.tmp (v := .int .i64 4) rfl) (List.sublist_append_left [rC x_5.a0 x_5.c0 m_6.s, rS x_5.a1 x_5.c1 m_6.r, rS x_5.a2 x_5.c2 m_6.w] [mb b_2 x_5 m_6, mb b_1 x_5 m_6]) ?_
      exact ⟨x_5, m_6, 4, (by simp only [MS.send, e_3, h_9, h_10, if_true, if_false, Bool.false_eq_true, Bool.not_true, Bool.not_false]; (repeat (first | rw [if_pos (by omega)] | rw [if_neg (by omega)])); all_goals (first | rfl | simp only [if_true, if_false, Bool.false_eq_true, Bool.not_true, Bool.not_false, e_3, h_9, h_10])), (k_4.mono (by omega) (by omega)), (by first | omega | (simp only [List.length_append, List.length_cons, List.length_nil, List.length_take, List.length_drop]; omega)), rfl, rfl⟩
  · skip
    refine JC.condT (congrArg Value.bool (congrArg Bool.not (decide_eq_false h_9))) ?_
    refine JC.seq ?_
    refine JC.region ?_
    refine JL.ld rfl (LO.loadK 4 (vs := [.slice x_5.a0 m_6.s.length x_5.c0, .slice x_5.a1 m_6.r.length x_5.c1, .slice x_5.a2 m_6.w.length x_5.c2]) rfl rfl Tryz.isAgg32 Tryz.sizeOf32 rfl rfl) ?_
    refine JL.op rfl (JO.store 3 (vs := [.slice x_5.a0 m_6.s.length x_5.c0, .slice x_5.a1 m_6.r.length x_5.c1, .slice x_5.a2 m_6.w.length x_5.c2]) (cs' := [.slice x_5.a0 m_6.s.length x_5.c0, .slice x_5.a1 m_6.r.length x_5.c1, .slice x_5.a2 m_6.w.length x_5.c2]) rfl rfl rfl rfl Tryz.sizeOf32 rfl rfl (Nat.le_of_ble_eq_true rfl) rfl) ?_
    rintro _ _ rfl
    refine JL.pure rfl (PO.assign (v := .int .i64 2) rfl) ?_
    refine JL.nil ?_
    refine JQ.seq ?_
    refine JC.ret ?_
    refine JQ.thenRet ?_
    refine Done.two (.inl rfl) rfl (RV.cell1 (LO.loadK 3 (vs := [.slice x_5.a0 m_6.s.length x_5.c0, .slice x_5.a1 m_6.r.length x_5.c1, .slice x_5.a2 m_6.w.length x_5.c2]) rfl rfl Tryz.isAgg32 Tryz.sizeOf32 rfl rfl) ⟨_, rfl⟩) (RV.tmp (v := .int .i64 2) rfl) (List.sublist_append_left [rC x_5.a0 x_5.c0 m_6.s, rS x_5.a1 x_5.c1 m_6.r, rS x_5.a2 x_5.c2 m_6.w] [mb b_2 x_5 m_6, mb b_1 x_5 m_6]) ?_
    exact ⟨x_5, m_6, 2, (by simp only [MS.send, e_3, h_9, if_true, if_false, Bool.false_eq_true, Bool.not_true, Bool.not_false]; (repeat (first | rw [if_pos (by omega)] | rw [if_neg (by omega)])); all_goals (first | rfl | simp only [if_true, if_false, Bool.false_eq_true, Bool.not_true, Bool.not_false, e_3, h_9])), (k_4.mono (by omega) (by omega)), (by first | omega | (simp only [List.length_append, List.length_cons, List.length_nil, List.length_take, List.length_drop]; omega)), rfl, rfl⟩

theorem P_send (x : MA) (m : MS) {S T : Nat} (hk : m.ok S T) (hS : S ≤ 49000000) (hT : T ≤ 49000000) (to_ : Int) (n : Int) (hto_ : -9223372036854775808 ≤ to_ ∧ to_ ≤ 9223372036854775807) (hn : -9223372036854775808 ≤ n ∧ n ≤ 9223372036854775807) :
    Ct Tryz.prog 81 [mv x m, .int .i64 to_, .int .i64 n] ([]) (fun w => seesM w x m) (fun v A' => ∃ x' m' r0, MS.send m to_ n = (m', r0) ∧ m'.ok (S + 2) (T + 5) ∧ (0 ≤ r0 ∧ r0 ≤ 9) ∧ v = .tuple #[mv x' m', .int .i64 r0] ∧ A' = mr x' m') := by
  refine Ct.intro Tryz.func81 rfl Tryz.ntmps81 (Nat.le_of_ble_eq_true rfl) fun w0 hpre => ?_
  have hs_x_a0 : Sees w0 _ _ _ _ := hpre.1
  have hs_x_a1 : Sees w0 _ _ _ _ := hpre.2.1
  have hs_x_a2 : Sees w0 _ _ _ _ := hpre.2.2
  refine JC.seq ?_
  refine JC.region ?_
  refine JL.op rfl (JO.box (cs := [.slice x.a0 m.s.length x.c0, .slice x.a1 m.r.length x.c1, .slice x.a2 m.w.length x.c2]) rfl rfl) ?_
  rintro _ _ ⟨b_1, rfl, rfl⟩
  refine JL.op rfl (JO.alloc (z := .agg #[.slice none 0 0, .slice none 0 0, .slice none 0 0]) (cs := [.slice none 0 0, .slice none 0 0, .slice none 0 0]) Tryz.zeroValue32 rfl) ?_
  rintro _ _ ⟨b_2, rfl, rfl⟩
  refine JL.pure rfl (PO.assign (v := .int .i64 0) rfl) ?_
  refine JL.nil ?_
  refine JQ.seq ?_
  refine JC.seq ?_
  refine JC.region ?_
  refine JL.ld rfl (LO.loadK 1 (vs := [.slice x.a0 m.s.length x.c0, .slice x.a1 m.r.length x.c1, .slice x.a2 m.w.length x.c2]) rfl rfl Tryz.isAgg32 Tryz.sizeOf32 rfl rfl) ?_
  refine JL.op rfl (JO.call [] Tryz.call127 rfl (N_clone x m hk (by omega) (by omega)) rfl (fun w hw => ⟨hw.seeOut_ hs_x_a0 (fun _ _ => List.not_mem_nil), hw.seeOut_ hs_x_a1 (fun _ _ => List.not_mem_nil), hw.seeOut_ hs_x_a2 (fun _ _ => List.not_mem_nil)⟩)) ?_
  rintro _ _ ⟨_, ⟨x_5, m_6, rfl, k_4, rfl, rfl⟩, rfl⟩
  refine JL.op rfl (JO.store 4 (vs := [.slice x_5.a0 m.s.length x_5.c0, .slice x_5.a1 m.r.length x_5.c1, .slice x_5.a2 m.w.length x_5.c2]) (cs' := [.slice x_5.a0 m.s.length x_5.c0, .slice x_5.a1 m.r.length x_5.c1, .slice x_5.a2 m.w.length x_5.c2]) rfl rfl rfl rfl Tryz.sizeOf32 rfl rfl (Nat.le_of_ble_eq_true rfl) rfl) ?_
  rintro _ _ rfl
  refine JL.nil ?_
  refine JQ.seq ?_
  refine JC.seq ?_
  refine JC.region ?_
  refine JL.pure rfl (PO.move (v := .int .i64 to_) rfl) ?_
  refine JL.pure rfl (PO.move (v := .int .i64 n) rfl) ?_
  refine JL.op rfl (JO.call [4, 0, 0, 0] Tryz.call189 rfl (N_send b_1 x_5 m k_4 (by omega) (by omega) to_ n (by omega) (by omega)) rfl (fun _ _ => trivial)) ?_
  rintro _ _ ⟨_, ⟨x_9, m_10, n_11, e_7, k_8, f_12, rfl, rfl⟩, rfl⟩
  refine JL.pure rfl (PO.assign (v := .int .i64 n_11) rfl) ?_
  refine JL.nil ?_
  refine JQ.seq ?_
  refine JC.seq ?_
  refine JC.region ?_
  refine JL.ld rfl (LO.loadK 0 (vs := [.slice x_9.a0 m_10.s.length x_9.c0, .slice x_9.a1 m_10.r.length x_9.c1, .slice x_9.a2 m_10.w.length x_9.c2]) rfl rfl Tryz.isAgg32 Tryz.sizeOf32 rfl rfl) ?_
  refine JL.pure rfl (PO.move (v := .int .i64 n_11) rfl) ?_
  refine JL.op rfl (JO.store 4 (vs := [.slice x_9.a0 m_10.s.length x_9.c0, .slice x_9.a1 m_10.r.length x_9.c1, .slice x_9.a2 m_10.w.length x_9.c2]) (cs' := [.slice x_9.a0 m_10.s.length x_9.c0, .slice x_9.a1 m_10.r.length x_9.c1, .slice x_9.a2 m_10.w.length x_9.c2]) rfl rfl rfl rfl Tryz.sizeOf32 rfl rfl (Nat.le_of_ble_eq_true rfl) rfl) ?_
  rintro _ _ rfl
  refine JL.pure rfl (PO.assign (v := .int .i64 n_11) rfl) ?_
  refine JL.nil ?_
  refine JQ.seq ?_
  refine JC.ret ?_
  refine JQ.perm (pick_perm [1, 1, 1] (A := [rC x_9.a0 x_9.c0 m_10.s, rS x_9.a1 x_9.c1 m_10.r, rS x_9.a2 x_9.c2 m_10.w]) (F := [mb b_1 x_9 m_10, mb b_2 x_9 m_10]) rfl).symm ?_
  refine Done.two (.inl rfl) rfl (RV.cell1 (LO.loadK 4 (vs := [.slice x_9.a0 m_10.s.length x_9.c0, .slice x_9.a1 m_10.r.length x_9.c1, .slice x_9.a2 m_10.w.length x_9.c2]) rfl rfl Tryz.isAgg32 Tryz.sizeOf32 rfl rfl) ⟨_, rfl⟩) (RV.tmp (v := .int .i64 n_11) rfl) (List.sublist_append_left [rC x_9.a0 x_9.c0 m_10.s, rS x_9.a1 x_9.c1 m_10.r, rS x_9.a2 x_9.c2 m_10.w] [mb b_1 x_9 m_10, mb b_2 x_9 m_10]) ?_
  exact ⟨x_9, m_10, n_11, (by simp only [if_true, e_7, if_true, if_false, Bool.false_eq_true, Bool.not_true, Bool.not_false]; (repeat (first | rw [if_pos (by omega)] | rw [if_neg (by omega)])); all_goals (first | rfl | simp only [if_true, if_false, Bool.false_eq_true, Bool.not_true, Bool.not_false, e_7])), (k_8.mono (by omega) (by omega)), (by first | omega | (simp only [List.length_append, List.length_cons, List.length_nil, List.length_take, List.length_drop]; omega)), rfl, rfl⟩

theorem Q_send (x : MA) (m : MS) {S T : Nat} (hk : m.ok S T) (hS : S ≤ 49000000) (hT : T ≤ 49000000) (to_ : Int) (n : Int) (hto_ : -9223372036854775808 ≤ to_ ∧ to_ ≤ 9223372036854775807) (hn : -9223372036854775808 ≤ n ∧ n ≤ 9223372036854775807) :
    Ct Tryz.prog 82 [mv x m, .int .i64 to_, .int .i64 n] ([]) (fun w => seesM w x m) (fun v A' => ∃ x' m' r0, MS.send m to_ n = (m', r0) ∧ m'.ok (S + 2) (T + 5) ∧ (0 ≤ r0 ∧ r0 ≤ 9) ∧ v = .tuple #[mv x' m', .int .i64 r0] ∧ A' = mr x' m') := by
  refine Ct.intro Tryz.func82 rfl Tryz.ntmps82 (Nat.le_of_ble_eq_true rfl) fun w0 hpre => ?_
  have hs_x_a0 : Sees w0 _ _ _ _ := hpre.1
  have hs_x_a1 : Sees w0 _ _ _ _ := hpre.2.1
  have hs_x_a2 : Sees w0 _ _ _ _ := hpre.2.2
  refine JC.seq ?_
  refine JC.region ?_
  refine JL.op rfl (JO.box (cs := [.slice x.a0 m.s.length x.c0, .slice x.a1 m.r.length x.c1, .slice x.a2 m.w.length x.c2]) rfl rfl) ?_
  rintro _ _ ⟨b_1, rfl, rfl⟩
  refine JL.op rfl (JO.alloc (z := .agg #[.slice none 0 0, .slice none 0 0, .slice none 0 0]) (cs := [.slice none 0 0, .slice none 0 0, .slice none 0 0]) Tryz.zeroValue32 rfl) ?_
  rintro _ _ ⟨b_2, rfl, rfl⟩
  refine JL.pure rfl (PO.assign (v := .int .i64 0) rfl) ?_
  refine JL.nil ?_
  refine JQ.seq ?_
  refine JC.seq ?_
  refine JC.region ?_
  refine JL.ld rfl (LO.loadK 1 (vs := [.slice x.a0 m.s.length x.c0, .slice x.a1 m.r.length x.c1, .slice x.a2 m.w.length x.c2]) rfl rfl Tryz.isAgg32 Tryz.sizeOf32 rfl rfl) ?_
  refine JL.op rfl (JO.call [] Tryz.call124 rfl (N_copy x m hk (by omega) (by omega)) rfl (fun w hw => ⟨hw.seeOut_ hs_x_a0 (fun _ _ => List.not_mem_nil), hw.seeOut_ hs_x_a1 (fun _ _ => List.not_mem_nil), hw.seeOut_ hs_x_a2 (fun _ _ => List.not_mem_nil)⟩)) ?_
  rintro _ _ ⟨_, ⟨x_5, m_6, rfl, k_4, rfl, rfl⟩, rfl⟩
  refine JL.pure rfl (PO.move (v := .int .i64 to_) rfl) ?_
  refine JL.pure rfl (PO.move (v := .int .i64 n) rfl) ?_
  refine JL.op rfl (JO.call [0, 0, 0] Tryz.call190 rfl (M_send x_5 m k_4 (by omega) (by omega) to_ n (by omega) (by omega)) rfl (fun _ _ => trivial)) ?_
  rintro _ _ ⟨_, ⟨x_9, m_10, n_11, e_7, k_8, f_12, rfl, rfl⟩, rfl⟩
  refine JL.pure rfl (PO.extract (v := mv x_9 m_10) rfl rfl) ?_
  refine JL.pure rfl (PO.extract (v := .int .i64 n_11) rfl rfl) ?_
  refine JL.op rfl (JO.store 3 (vs := [.slice x_9.a0 m_10.s.length x_9.c0, .slice x_9.a1 m_10.r.length x_9.c1, .slice x_9.a2 m_10.w.length x_9.c2]) (cs' := [.slice x_9.a0 m_10.s.length x_9.c0, .slice x_9.a1 m_10.r.length x_9.c1, .slice x_9.a2 m_10.w.length x_9.c2]) rfl rfl rfl rfl Tryz.sizeOf32 rfl rfl (Nat.le_of_ble_eq_true rfl) rfl) ?_
  rintro _ _ rfl
  refine JL.pure rfl (PO.assign (v := .int .i64 n_11) rfl) ?_
  refine JL.nil ?_
  refine JQ.seq ?_
  refine JC.ret ?_
  refine Done.two (.inl rfl) rfl (RV.cell1 (LO.loadK 3 (vs := [.slice x_9.a0 m_10.s.length x_9.c0, .slice x_9.a1 m_10.r.length x_9.c1, .slice x_9.a2 m_10.w.length x_9.c2]) rfl rfl Tryz.isAgg32 Tryz.sizeOf32 rfl rfl) ⟨_, rfl⟩) (RV.tmp (v := .int .i64 n_11) rfl) (List.sublist_append_left [rC x_9.a0 x_9.c0 m_10.s, rS x_9.a1 x_9.c1 m_10.r, rS x_9.a2 x_9.c2 m_10.w] [mb b_2 x_9 m_10, mb b_1 x m]) ?_
  exact ⟨x_9, m_10, n_11, (by simp only [if_true, e_7, if_true, if_false, Bool.false_eq_true, Bool.not_true, Bool.not_false]; (repeat (first | rw [if_pos (by omega)] | rw [if_neg (by omega)])); all_goals (first | rfl | simp only [if_true, if_false, Bool.false_eq_true, Bool.not_true, Bool.not_false, e_7])), (k_8.mono (by omega) (by omega)), (by first | omega | (simp only [List.length_append, List.length_cons, List.length_nil, List.length_take, List.length_drop]; omega)), rfl, rfl⟩

theorem N_setTimer (p : Nat) (x : MA) (m : MS) {S T : Nat} (hk : m.ok S T) (hS : S ≤ 50000000) (hT : T ≤ 50000000) (id : Int) (at_ : Int) (hid : -9223372036854775808 ≤ id ∧ id ≤ 9223372036854775807) (hat_ : -9223372036854775808 ≤ at_ ∧ at_ ≤ 9223372036854775807) :
    Ct Tryz.prog 193 [.pointer (some ⟨p, 0, none⟩), .int .i64 id, .int .i64 at_] (mb p x m :: mr x m) (fun _ => True) (fun v A' => ∃ x' m' r0, MS.setTimer m id at_ = (m', r0) ∧ m'.ok (S + 1) (T + 1) ∧ (0 ≤ r0 ∧ r0 ≤ 9) ∧ v = .int .i64 r0 ∧ A' = mb p x' m' :: mr x' m') := by
  refine Ct.intro Tryz.func193 rfl Tryz.ntmps193 (Nat.le_of_ble_eq_true rfl) fun w0 hpre => ?_
  refine JC.seq ?_
  refine JC.region ?_
  refine JL.pure rfl (PO.assign (v := .int .i64 0) rfl) ?_
  refine JL.nil ?_
  refine JQ.seq ?_
  refine JC.seq ?_
  refine JC.seq ?_
  refine JC.region ?_
  refine JL.pure rfl (PO.move (v := .int .i64 at_) rfl) ?_
  refine JL.op rfl (JO.call [] Tryz.call143 rfl (C_within at_ 0 999) rfl (fun _ _ => trivial)) ?_
  rintro _ _ ⟨_, ⟨rfl, rfl⟩, rfl⟩
  refine JL.pure rfl (PO.not rfl) ?_
  refine JL.nil ?_
  refine JQ.seq ?_
  rcases Bool.eq_false_or_eq_true (decide (0 ≤ at_) && decide (at_ ≤ 999)) with h_1 | h_1
  · skip
    have h_1d := h_1
    simp only [Bool.and_eq_true, Bool.and_eq_false_iff, decide_eq_true_eq, decide_eq_false_iff_not] at h_1d
    refine JC.condF (congrArg Value.bool (congrArg Bool.not h_1)) ?_
    refine JC.skip ?_
    refine JQ.seq ?_
    refine JC.seq ?_
    refine JC.region ?_
    refine JL.pure rfl (PO.move (v := .pointer (some ⟨p, 0, none⟩)) rfl) ?_
    refine JL.pure rfl (PO.move (v := .int .i64 id) rfl) ?_
    refine JL.op rfl (JO.call [] Tryz.call215 rfl (N_keyNum [116, 47] id [] (show List.length ([116, 47] : Str) ≤ 2 by decide) (by omega) (show List.length ([] : Str) ≤ 0 by decide) (by omega)) rfl (fun _ _ => trivial)) ?_
    rintro _ _ ⟨_, ⟨u_4, e_2, f_5, rfl, rfl⟩, rfl⟩
    refine JL.pure rfl (PO.move (v := .int .i64 at_) rfl) ?_
    refine JL.op rfl (JO.call [0, 0, 0, 0] Tryz.call241 rfl (N_setNum p x m hk (by omega) (by omega) u_4 at_ (by omega) (by omega)) rfl (fun _ _ => trivial)) ?_
    rintro _ _ ⟨_, ⟨x_8, m_9, e_6, k_7, rfl, rfl⟩, rfl⟩
    refine JL.nil ?_
    refine JQ.seq ?_
    refine JC.seq ?_
    refine JC.region ?_
    refine JL.pure rfl (PO.assign (v := .int .i64 0) rfl) ?_
    refine JL.nil ?_
    refine JQ.seq ?_
    refine JC.ret ?_
    refine Done.one (.inl rfl) rfl (RV.tmp (v := .int .i64 0) rfl) (List.Sublist.refl _) ?_
    exact ⟨x_8, m_9, 0, (by simp only [MS.setTimer, h_1, e_2, e_6, if_true, if_false, Bool.false_eq_true, Bool.not_true, Bool.not_false]; (repeat (first | rw [if_pos (by omega)] | rw [if_neg (by omega)])); all_goals (first | rfl | simp only [if_true, if_false, Bool.false_eq_true, Bool.not_true, Bool.not_false, h_1, e_2, e_6])), (k_7.mono (by omega) (by omega)), (by first | omega | (simp only [List.length_append, List.length_cons, List.length_nil, List.length_take, List.length_drop]; omega)), rfl, rfl⟩
  · skip
    have h_1d := h_1
    simp only [Bool.and_eq_true, Bool.and_eq_false_iff, decide_eq_true_eq, decide_eq_false_iff_not] at h_1d
    refine JC.condT (congrArg Value.bool (congrArg Bool.not h_1)) ?_
    refine JC.seq ?_
    refine JC.region ?_
    refine JL.pure rfl (PO.assign (v := .int .i64 4) rfl) ?_
    refine JL.nil ?_
    refine JQ.seq ?_
    refine JC.ret ?_
    refine JQ.thenRet ?_
    refine Done.one (.inl rfl) rfl (RV.tmp (v := .int .i64 4) rfl) (List.Sublist.refl _) ?_
    exact ⟨x, m, 4, (by simp only [MS.setTimer, h_1, if_true, if_false, Bool.false_eq_true, Bool.not_true, Bool.not_false]; (repeat (first | rw [if_pos (by omega)] | rw [if_neg (by omega)])); all_goals (first | rfl | simp only [if_true, if_false, Bool.false_eq_true, Bool.not_true, Bool.not_false, h_1])), (hk.mono (by omega) (by omega)), (by first | omega | (simp only [List.length_append, List.length_cons, List.length_nil, List.length_take, List.length_drop]; omega)), rfl, rfl⟩

theorem M_setTimer (x : MA) (m : MS) {S T : Nat} (hk : m.ok S T) (hS : S ≤ 50000000) (hT : T ≤ 50000000) (id : Int) (at_ : Int) (hid : -9223372036854775808 ≤ id ∧ id ≤ 9223372036854775807) (hat_ : -9223372036854775808 ≤ at_ ∧ at_ ≤ 9223372036854775807) :
    Ct Tryz.prog 194 [mv x m, .int .i64 id, .int .i64 at_] (mr x m) (fun _ => True) (fun v A' => ∃ x' m' r0, MS.setTimer m id at_ = (m', r0) ∧ m'.ok (S + 1) (T + 1) ∧ (0 ≤ r0 ∧ r0 ≤ 9) ∧ v = .tuple #[mv x' m', .int .i64 r0] ∧ A' = mr x' m') := by
  refine Ct.intro Tryz.func194 rfl Tryz.ntmps194 (Nat.le_of_ble_eq_true rfl) fun w0 hpre => ?_
  refine JC.seq ?_
  refine JC.region ?_
  refine JL.op rfl (JO.box (cs := [.slice x.a0 m.s.length x.c0, .slice x.a1 m.r.length x.c1, .slice x.a2 m.w.length x.c2]) rfl rfl) ?_
  rintro _ _ ⟨b_1, rfl, rfl⟩
  refine JL.op rfl (JO.alloc (z := .agg #[.slice none 0 0, .slice none 0 0, .slice none 0 0]) (cs := [.slice none 0 0, .slice none 0 0, .slice none 0 0]) Tryz.zeroValue32 rfl) ?_
  rintro _ _ ⟨b_2, rfl, rfl⟩
  refine JL.pure rfl (PO.assign (v := .int .i64 0) rfl) ?_
  refine JL.nil ?_
  refine JQ.seq ?_
  refine JC.seq ?_
  refine JC.seq ?_
  refine JC.region ?_
  refine JL.pure rfl (PO.move (v := .int .i64 at_) rfl) ?_
  refine JL.op rfl (JO.call [] Tryz.call144 rfl (C_l01In at_ 0 999) rfl (fun _ _ => trivial)) ?_
  rintro _ _ ⟨_, ⟨rfl, rfl⟩, rfl⟩
  refine JL.pure rfl (PO.not rfl) ?_
  refine JL.nil ?_
  refine JQ.seq ?_
  rcases Bool.eq_false_or_eq_true (decide (0 ≤ at_) && decide (at_ ≤ 999)) with h_3 | h_3
  · skip
    have h_3d := h_3
    simp only [Bool.and_eq_true, Bool.and_eq_false_iff, decide_eq_true_eq, decide_eq_false_iff_not] at h_3d
    refine JC.condF (congrArg Value.bool (congrArg Bool.not h_3)) ?_
    refine JC.skip ?_
    refine JQ.seq ?_
    refine JC.seq ?_
    refine JC.regionA [mb b_1 x m] 4 mixed (by simp) ?_
    refine JA.take 0 rfl (by kernel_rfl) (NP.th NP.body) (by kernel_rfl) (by kernel_rfl) (by kernel_rfl) rfl (LO.loadK 0 (vs := [.slice x.a0 m.s.length x.c0, .slice x.a1 m.r.length x.c1, .slice x.a2 m.w.length x.c2]) rfl rfl Tryz.isAgg32 Tryz.sizeOf32 rfl rfl) ?_
    refine JA.takeP 1 rfl (by kernel_rfl) (NP.th NP.body) (by kernel_rfl) (by kernel_rfl) rfl (PO.move (v := .int .i64 id) rfl) ?_
    refine JA.takeP 3 rfl (by kernel_rfl) (NP.th NP.body) (by kernel_rfl) (by kernel_rfl) rfl (PO.move (v := .int .i64 at_) rfl) ?_
    refine JA.one (i := 2) (by kernel_rfl) ?_
    refine JX.op rfl rfl (JO.call [] Tryz.call219 rfl (N_sKeyNum [116, 47] id [] (show List.length ([116, 47] : Str) ≤ 2 by decide) (by omega) (show List.length ([] : Str) ≤ 0 by decide) (by omega)) rfl (fun _ _ => trivial)) ?_
    rintro _ _ ⟨_, ⟨u_14, e_12, f_15, rfl, rfl⟩, rfl⟩
    refine ⟨(by simp), ?_⟩
    refine JA.one (i := 4) (by kernel_rfl) ?_
    refine JX.late rfl rfl (by decide) (by kernel_rfl) (JO.call [2, 2, 2] Tryz.call233 rfl (N_sSetNum x m hk (by omega) (by omega) u_14 at_ (by omega) (by omega)) rfl (fun _ _ => trivial)) ?_
    rintro _ _ ⟨_, ⟨x_22, m_23, e_20, k_21, rfl, rfl⟩, rfl⟩
    refine JA.one (i := 5) (by kernel_rfl) ?_
    refine JX.late rfl rfl (by decide) (by kernel_rfl) (JO.store 3 (vs := [.slice x_22.a0 m_23.s.length x_22.c0, .slice x_22.a1 m_23.r.length x_22.c1, .slice x_22.a2 m_23.w.length x_22.c2]) (cs' := [.slice x_22.a0 m_23.s.length x_22.c0, .slice x_22.a1 m_23.r.length x_22.c1, .slice x_22.a2 m_23.w.length x_22.c2]) rfl rfl rfl rfl Tryz.sizeOf32 rfl rfl (Nat.le_of_ble_eq_true rfl) rfl) ?_
    rintro _ _ rfl
    refine JA.takeP 6 rfl (by kernel_rfl) (NP.th NP.body) (by kernel_rfl) (by kernel_rfl) rfl (PO.assign (v := .int .i64 0) rfl) ?_
    refine JA.done (by kernel_rfl) ?_
    refine JQ.seq ?_
    refine JC.ret ?_
    refine Done.two (.inl rfl) rfl (RV.cell1 (LO.loadK 3 (vs := [.slice x_22.a0 m_23.s.length x_22.c0, .slice x_22.a1 m_23.r.length x_22.c1, .slice x_22.a2 m_23.w.length x_22.c2]) rfl rfl Tryz.isAgg32 Tryz.sizeOf32 rfl rfl) ⟨_, rfl⟩) (RV.tmp (v := .int .i64 0) rfl) (List.sublist_append_left [rC x_22.a0 x_22.c0 m_23.s, rS x_22.a1 x_22.c1 m_23.r, rS x_22.a2 x_22.c2 m_23.w] [mb b_2 x_22 m_23, mb b_1 x m]) ?_
    exact ⟨x_22, m_23, 0, (by simp only [MS.setTimer, h_3, e_12, e_20, if_true, if_false, Bool.false_eq_true, Bool.not_true, Bool.not_false]; (repeat (first | rw [if_pos (by omega)] | rw [if_neg (by omega)])); all_goals (first | rfl | simp only [if_true, if_false, Bool.false_eq_true, Bool.not_true, Bool.not_false, h_3, e_12, e_20])), (k_21.mono (by omega) (by omega)), (by first | omega | (simp only [List.length_append, List.length_cons, List.length_nil, List.length_take, List.length_drop]; omega)), rfl, rfl⟩
  · skip
    have h_3d := h_3
    simp only [Bool.and_eq_true, Bool.and_eq_false_iff, decide_eq_true_eq, decide_eq_false_iff_not] at h_3d
    refine JC.condT (congrArg Value.bool (congrArg Bool.not h_3)) ?_
    refine JC.seq ?_
    refine JC.region ?_
    refine JL.ld rfl (LO.loadK 1 (vs := [.slice x.a0 m.s.length x.c0, .slice x.a1 m.r.length x.c1, .slice x.a2 m.w.length x.c2]) rfl rfl Tryz.isAgg32 Tryz.sizeOf32 rfl rfl) ?_
    refine JL.op rfl (JO.store 0 (vs := [.slice x.a0 m.s.length x.c0, .slice x.a1 m.r.length x.c1, .slice x.a2 m.w.length x.c2]) (cs' := [.slice x.a0 m.s.length x.c0, .slice x.a1 m.r.length x.c1, .slice x.a2 m.w.length x.c2]) rfl rfl rfl rfl Tryz.sizeOf32 rfl rfl (Nat.le_of_ble_eq_true rfl) rfl) ?_
    rintro _ _ rfl
    refine JL.pure rfl (PO.assign (v := .int .i64 4) rfl) ?_
    refine JL.nil ?_
    refine JQ.seq ?_
    refine JC.ret ?_
    refine JQ.thenRet ?_
    refine JQ.perm (pick_perm [2, 2, 2] (A := [rC x.a0 x.c0 m.s, rS x.a1 x.c1 m.r, rS x.a2 x.c2 m.w]) (F := [mb b_2 x m, mb b_1 x m]) rfl).symm ?_
    refine Done.two (.inl rfl) rfl (RV.cell1 (LO.loadK 3 (vs := [.slice x.a0 m.s.length x.c0, .slice x.a1 m.r.length x.c1, .slice x.a2 m.w.length x.c2]) rfl rfl Tryz.isAgg32 Tryz.sizeOf32 rfl rfl) ⟨_, rfl⟩) (RV.tmp (v := .int .i64 4) rfl) (List.sublist_append_left [rC x.a0 x.c0 m.s, rS x.a1 x.c1 m.r, rS x.a2 x.c2 m.w] [mb b_2 x m, mb b_1 x m]) ?_
    exact ⟨x, m, 4, (by simp only [MS.setTimer, h_3, if_true, if_false, Bool.false_eq_true, Bool.not_true, Bool.not_false]; (repeat (first | rw [if_pos (by omega)] | rw [if_neg (by omega)])); all_goals (first | rfl | simp only [if_true, if_false, Bool.false_eq_true, Bool.not_true, Bool.not_false, h_3])), (hk.mono (by omega) (by omega)), (by first | omega | (simp only [List.length_append, List.length_cons, List.length_nil, List.length_take, List.length_drop]; omega)), rfl, rfl⟩

theorem P_setTimer (x : MA) (m : MS) {S T : Nat} (hk : m.ok S T) (hS : S ≤ 49000000) (hT : T ≤ 49000000) (id : Int) (at_ : Int) (hid : -9223372036854775808 ≤ id ∧ id ≤ 9223372036854775807) (hat_ : -9223372036854775808 ≤ at_ ∧ at_ ≤ 9223372036854775807) :
    Ct Tryz.prog 87 [mv x m, .int .i64 id, .int .i64 at_] ([]) (fun w => seesM w x m) (fun v A' => ∃ x' m' r0, MS.setTimer m id at_ = (m', r0) ∧ m'.ok (S + 1) (T + 1) ∧ (0 ≤ r0 ∧ r0 ≤ 9) ∧ v = .tuple #[mv x' m', .int .i64 r0] ∧ A' = mr x' m') := by
  refine Ct.intro Tryz.func87 rfl Tryz.ntmps87 (Nat.le_of_ble_eq_true rfl) fun w0 hpre => ?_
  have hs_x_a0 : Sees w0 _ _ _ _ := hpre.1
  have hs_x_a1 : Sees w0 _ _ _ _ := hpre.2.1
  have hs_x_a2 : Sees w0 _ _ _ _ := hpre.2.2
  refine JC.seq ?_
  refine JC.region ?_
  refine JL.op rfl (JO.box (cs := [.slice x.a0 m.s.length x.c0, .slice x.a1 m.r.length x.c1, .slice x.a2 m.w.length x.c2]) rfl rfl) ?_
  rintro _ _ ⟨b_1, rfl, rfl⟩
  refine JL.op rfl (JO.alloc (z := .agg #[.slice none 0 0, .slice none 0 0, .slice none 0 0]) (cs := [.slice none 0 0, .slice none 0 0, .slice none 0 0]) Tryz.zeroValue32 rfl) ?_
  rintro _ _ ⟨b_2, rfl, rfl⟩
  refine JL.pure rfl (PO.assign (v := .int .i64 0) rfl) ?_
  refine JL.nil ?_
  refine JQ.seq ?_
  refine JC.seq ?_
  refine JC.region ?_
  refine JL.ld rfl (LO.loadK 1 (vs := [.slice x.a0 m.s.length x.c0, .slice x.a1 m.r.length x.c1, .slice x.a2 m.w.length x.c2]) rfl rfl Tryz.isAgg32 Tryz.sizeOf32 rfl rfl) ?_
  refine JL.op rfl (JO.call [] Tryz.call127 rfl (N_clone x m hk (by omega) (by omega)) rfl (fun w hw => ⟨hw.seeOut_ hs_x_a0 (fun _ _ => List.not_mem_nil), hw.seeOut_ hs_x_a1 (fun _ _ => List.not_mem_nil), hw.seeOut_ hs_x_a2 (fun _ _ => List.not_mem_nil)⟩)) ?_
  rintro _ _ ⟨_, ⟨x_5, m_6, rfl, k_4, rfl, rfl⟩, rfl⟩
  refine JL.op rfl (JO.store 4 (vs := [.slice x_5.a0 m.s.length x_5.c0, .slice x_5.a1 m.r.length x_5.c1, .slice x_5.a2 m.w.length x_5.c2]) (cs' := [.slice x_5.a0 m.s.length x_5.c0, .slice x_5.a1 m.r.length x_5.c1, .slice x_5.a2 m.w.length x_5.c2]) rfl rfl rfl rfl Tryz.sizeOf32 rfl rfl (Nat.le_of_ble_eq_true rfl) rfl) ?_
  rintro _ _ rfl
  refine JL.nil ?_
  refine JQ.seq ?_
  refine JC.seq ?_
  refine JC.region ?_
  refine JL.pure rfl (PO.move (v := .int .i64 id) rfl) ?_
  refine JL.pure rfl (PO.move (v := .int .i64 at_) rfl) ?_
  refine JL.op rfl (JO.call [4, 0, 0, 0] Tryz.call193 rfl (N_setTimer b_1 x_5 m k_4 (by omega) (by omega) id at_ (by omega) (by omega)) rfl (fun _ _ => trivial)) ?_
  rintro _ _ ⟨_, ⟨x_9, m_10, n_11, e_7, k_8, f_12, rfl, rfl⟩, rfl⟩
  refine JL.pure rfl (PO.assign (v := .int .i64 n_11) rfl) ?_
  refine JL.nil ?_
  refine JQ.seq ?_
  refine JC.seq ?_
  refine JC.region ?_
  refine JL.ld rfl (LO.loadK 0 (vs := [.slice x_9.a0 m_10.s.length x_9.c0, .slice x_9.a1 m_10.r.length x_9.c1, .slice x_9.a2 m_10.w.length x_9.c2]) rfl rfl Tryz.isAgg32 Tryz.sizeOf32 rfl rfl) ?_
  refine JL.pure rfl (PO.move (v := .int .i64 n_11) rfl) ?_
  refine JL.op rfl (JO.store 4 (vs := [.slice x_9.a0 m_10.s.length x_9.c0, .slice x_9.a1 m_10.r.length x_9.c1, .slice x_9.a2 m_10.w.length x_9.c2]) (cs' := [.slice x_9.a0 m_10.s.length x_9.c0, .slice x_9.a1 m_10.r.length x_9.c1, .slice x_9.a2 m_10.w.length x_9.c2]) rfl rfl rfl rfl Tryz.sizeOf32 rfl rfl (Nat.le_of_ble_eq_true rfl) rfl) ?_
  rintro _ _ rfl
  refine JL.pure rfl (PO.assign (v := .int .i64 n_11) rfl) ?_
  refine JL.nil ?_
  refine JQ.seq ?_
  refine JC.ret ?_
  refine JQ.perm (pick_perm [1, 1, 1] (A := [rC x_9.a0 x_9.c0 m_10.s, rS x_9.a1 x_9.c1 m_10.r, rS x_9.a2 x_9.c2 m_10.w]) (F := [mb b_1 x_9 m_10, mb b_2 x_9 m_10]) rfl).symm ?_
  refine Done.two (.inl rfl) rfl (RV.cell1 (LO.loadK 4 (vs := [.slice x_9.a0 m_10.s.length x_9.c0, .slice x_9.a1 m_10.r.length x_9.c1, .slice x_9.a2 m_10.w.length x_9.c2]) rfl rfl Tryz.isAgg32 Tryz.sizeOf32 rfl rfl) ⟨_, rfl⟩) (RV.tmp (v := .int .i64 n_11) rfl) (List.sublist_append_left [rC x_9.a0 x_9.c0 m_10.s, rS x_9.a1 x_9.c1 m_10.r, rS x_9.a2 x_9.c2 m_10.w] [mb b_1 x_9 m_10, mb b_2 x_9 m_10]) ?_
  exact ⟨x_9, m_10, n_11, (by simp only [if_true, e_7, if_true, if_false, Bool.false_eq_true, Bool.not_true, Bool.not_false]; (repeat (first | rw [if_pos (by omega)] | rw [if_neg (by omega)])); all_goals (first | rfl | simp only [if_true, if_false, Bool.false_eq_true, Bool.not_true, Bool.not_false, e_7])), (k_8.mono (by omega) (by omega)), (by first | omega | (simp only [List.length_append, List.length_cons, List.length_nil, List.length_take, List.length_drop]; omega)), rfl, rfl⟩

theorem Q_setTimer (x : MA) (m : MS) {S T : Nat} (hk : m.ok S T) (hS : S ≤ 49000000) (hT : T ≤ 49000000) (id : Int) (at_ : Int) (hid : -9223372036854775808 ≤ id ∧ id ≤ 9223372036854775807) (hat_ : -9223372036854775808 ≤ at_ ∧ at_ ≤ 9223372036854775807) :
    Ct Tryz.prog 88 [mv x m, .int .i64 id, .int .i64 at_] ([]) (fun w => seesM w x m) (fun v A' => ∃ x' m' r0, MS.setTimer m id at_ = (m', r0) ∧ m'.ok (S + 1) (T + 1) ∧ (0 ≤ r0 ∧ r0 ≤ 9) ∧ v = .tuple #[mv x' m', .int .i64 r0] ∧ A' = mr x' m') := by
  refine Ct.intro Tryz.func88 rfl Tryz.ntmps88 (Nat.le_of_ble_eq_true rfl) fun w0 hpre => ?_
  have hs_x_a0 : Sees w0 _ _ _ _ := hpre.1
  have hs_x_a1 : Sees w0 _ _ _ _ := hpre.2.1
  have hs_x_a2 : Sees w0 _ _ _ _ := hpre.2.2
  refine JC.seq ?_
  refine JC.region ?_
  refine JL.op rfl (JO.box (cs := [.slice x.a0 m.s.length x.c0, .slice x.a1 m.r.length x.c1, .slice x.a2 m.w.length x.c2]) rfl rfl) ?_
  rintro _ _ ⟨b_1, rfl, rfl⟩
  refine JL.op rfl (JO.alloc (z := .agg #[.slice none 0 0, .slice none 0 0, .slice none 0 0]) (cs := [.slice none 0 0, .slice none 0 0, .slice none 0 0]) Tryz.zeroValue32 rfl) ?_
  rintro _ _ ⟨b_2, rfl, rfl⟩
  refine JL.pure rfl (PO.assign (v := .int .i64 0) rfl) ?_
  refine JL.nil ?_
  refine JQ.seq ?_
  refine JC.seq ?_
  refine JC.region ?_
  refine JL.ld rfl (LO.loadK 1 (vs := [.slice x.a0 m.s.length x.c0, .slice x.a1 m.r.length x.c1, .slice x.a2 m.w.length x.c2]) rfl rfl Tryz.isAgg32 Tryz.sizeOf32 rfl rfl) ?_
  refine JL.op rfl (JO.call [] Tryz.call124 rfl (N_copy x m hk (by omega) (by omega)) rfl (fun w hw => ⟨hw.seeOut_ hs_x_a0 (fun _ _ => List.not_mem_nil), hw.seeOut_ hs_x_a1 (fun _ _ => List.not_mem_nil), hw.seeOut_ hs_x_a2 (fun _ _ => List.not_mem_nil)⟩)) ?_
  rintro _ _ ⟨_, ⟨x_5, m_6, rfl, k_4, rfl, rfl⟩, rfl⟩
  refine JL.pure rfl (PO.move (v := .int .i64 id) rfl) ?_
  refine JL.pure rfl (PO.move (v := .int .i64 at_) rfl) ?_
  refine JL.op rfl (JO.call [0, 0, 0] Tryz.call194 rfl (M_setTimer x_5 m k_4 (by omega) (by omega) id at_ (by omega) (by omega)) rfl (fun _ _ => trivial)) ?_
  rintro _ _ ⟨_, ⟨x_9, m_10, n_11, e_7, k_8, f_12, rfl, rfl⟩, rfl⟩
  refine JL.pure rfl (PO.extract (v := mv x_9 m_10) rfl rfl) ?_
  refine JL.pure rfl (PO.extract (v := .int .i64 n_11) rfl rfl) ?_
  refine JL.op rfl (JO.store 3 (vs := [.slice x_9.a0 m_10.s.length x_9.c0, .slice x_9.a1 m_10.r.length x_9.c1, .slice x_9.a2 m_10.w.length x_9.c2]) (cs' := [.slice x_9.a0 m_10.s.length x_9.c0, .slice x_9.a1 m_10.r.length x_9.c1, .slice x_9.a2 m_10.w.length x_9.c2]) rfl rfl rfl rfl Tryz.sizeOf32 rfl rfl (Nat.le_of_ble_eq_true rfl) rfl) ?_
  rintro _ _ rfl
  refine JL.pure rfl (PO.assign (v := .int .i64 n_11) rfl) ?_
  refine JL.nil ?_
  refine JQ.seq ?_
  refine JC.ret ?_
  refine Done.two (.inl rfl) rfl (RV.cell1 (LO.loadK 3 (vs := [.slice x_9.a0 m_10.s.length x_9.c0, .slice x_9.a1 m_10.r.length x_9.c1, .slice x_9.a2 m_10.w.length x_9.c2]) rfl rfl Tryz.isAgg32 Tryz.sizeOf32 rfl rfl) ⟨_, rfl⟩) (RV.tmp (v := .int .i64 n_11) rfl) (List.sublist_append_left [rC x_9.a0 x_9.c0 m_10.s, rS x_9.a1 x_9.c1 m_10.r, rS x_9.a2 x_9.c2 m_10.w] [mb b_2 x_9 m_10, mb b_1 x m]) ?_
  exact ⟨x_9, m_10, n_11, (by simp only [if_true, e_7, if_true, if_false, Bool.false_eq_true, Bool.not_true, Bool.not_false]; (repeat (first | rw [if_pos (by omega)] | rw [if_neg (by omega)])); all_goals (first | rfl | simp only [if_true, if_false, Bool.false_eq_true, Bool.not_true, Bool.not_false, e_7])), (k_8.mono (by omega) (by omega)), (by first | omega | (simp only [List.length_append, List.length_cons, List.length_nil, List.length_take, List.length_drop]; omega)), rfl, rfl⟩

end Go.Proofs.YtenfajgpdhgknaaGreatDoor

set_option linter.unusedSimpArgs false
set_option linter.unusedVariables false
set_option linter.unnecessarySimpa false
namespace Go.Proofs.YtenfajgpdhgknaaGreatDoor
open Go Go.RowKit

theorem digit_fin : ∀ d : Fin 16, Lib.Hx.digit d.val = hexFig d.val := by decide +kernel
theorem hexVal_fin : ∀ n : Fin 16, hexVal (hexFig n.val) = some n.val := by decide +kernel
theorem byte_fin : ∀ c : Fin 256, (match hexVal (UInt8.ofNat c.val) with | some n => decide (n < 16) && decide (Lib.Hx.v (UInt8.ofNat c.val) = n) && decide (hexFig n = UInt8.ofNat c.val) | none => true) = true := by decide +kernel
theorem hexVal_some {c : UInt8} {n : Nat} (h : hexVal c = some n) : n < 16 ∧ Lib.Hx.v c = n ∧ hexFig n = c := by
  have := byte_fin ⟨c.toNat, UInt8.toNat_lt c⟩
  rw [show UInt8.ofNat (⟨c.toNat, UInt8.toNat_lt c⟩ : Fin 256).val = c from UInt8.ofNat_toNat] at this
  rw [h] at this
  simp only [Bool.and_eq_true, decide_eq_true_eq] at this
  exact ⟨this.1.1, this.1.2, this.2⟩
theorem encode_hexB : ∀ l : Str, Lib.Hx.encode l = hexB l
  | [] => rfl
  | c :: l => by
    have hc := UInt8.toNat_lt c
    rw [Lib.Hx.encode_cons, hexB, encode_hexB l, digit_fin ⟨c.toNat / 16, by omega⟩, digit_fin ⟨c.toNat % 16, by omega⟩]
theorem unhexL_hexB : ∀ r : Str, unhexL (hexB r) = some r
  | [] => rfl
  | c :: r => by
    have hc := UInt8.toNat_lt c
    rw [hexB, unhexL, hexVal_fin ⟨c.toNat / 16, by omega⟩, hexVal_fin ⟨c.toNat % 16, by omega⟩, unhexL_hexB r]
    simp only
    rw [show 16 * (c.toNat / 16) + c.toNat % 16 = c.toNat by omega, UInt8.ofNat_toNat]
theorem unhexL_dec : ∀ (t r : Str), unhexL t = some r → hexB r = t ∧ Lib.Hx.decode t = (r, .ok)
  | [], r, h => by
    simp only [unhexL, Option.some.injEq] at h
    subst h
    exact ⟨rfl, Lib.Hx.decode_nil⟩
  | [_], r, h => by simp [unhexL] at h
  | a :: b :: t, r, h => by
    unfold unhexL at h
    split at h
    · rename_i hh ll rr h1 h2 h3
      simp only [Option.some.injEq] at h
      subst h
      obtain ⟨i1, i2⟩ := unhexL_dec t rr h3
      obtain ⟨a1, a2, a3⟩ := hexVal_some h1
      obtain ⟨b1, b2, b3⟩ := hexVal_some h2
      have hn : (UInt8.ofNat (16 * hh + ll)).toNat = 16 * hh + ll := UInt8.toNat_ofNat_of_lt' (by show _ < 256; omega)
      refine ⟨?_, ?_⟩
      · rw [hexB, hn, i1, show (16 * hh + ll) / 16 = hh by omega, show (16 * hh + ll) % 16 = ll by omega, a3, b3]
      · rw [Lib.Hx.decode_two, a2, b2, if_neg (by omega), if_neg (by omega), i2, Nat.mul_comm]
    · cases h
theorem unhex_yes {t r : Str} (hd : Lib.Hx.decode t = (r, .ok)) (h1 : ¬ (20000 : Int) < (r.length : Int)) (h2 : hexB r = t) : unhex t = (r, true) := by
  have hl := hexB_len r
  unfold unhex
  rw [if_neg (by rw [← h2, hl]; omega), ← h2, unhexL_hexB]
theorem unhex_err {t : Str} (hd : ∀ r, Lib.Hx.decode t ≠ (r, .ok)) : unhex t = ([], false) := by
  unfold unhex
  split
  · rfl
  · cases h : unhexL t with
    | none => rfl
    | some r => exact absurd (unhexL_dec t r h).2 (hd r)
theorem unhex_long {t r : Str} (hd : Lib.Hx.decode t = (r, .ok)) (h1 : (20000 : Int) < (r.length : Int)) : unhex t = ([], false) := by
  unfold unhex
  split
  · rfl
  · rename_i hl
    cases h : unhexL t with
    | none => rfl
    | some r' =>
      have := unhexL_dec t r' h
      rw [hd] at this
      have e : r = r' := (Prod.mk.inj this.2).1
      subst e
      have := unhexL_len t r h
      omega
theorem unhex_ne {t r : Str} (hd : Lib.Hx.decode t = (r, .ok)) (h1 : ¬ hexB r = t) : unhex t = ([], false) := by
  unfold unhex
  split
  · rfl
  · cases h : unhexL t with
    | none => rfl
    | some r' =>
      have := unhexL_dec t r' h
      rw [hd] at this
      have e : r = r' := (Prod.mk.inj this.2).1
      subst e
      exact absurd this.1 h1
/-- What Hex hands back. -/
def hexP (s : Str) : Str × Bool := if 20000 < (s.length : Int) then ([], false) else (hexB s, true)
theorem hexP_len (s : Str) : (hexP s).1.length ≤ 40000 := by
  unfold hexP
  split
  · simp
  · simp only; rw [hexB_len]; omega
theorem hexS_P (s : Str) : hexS s = (hexP s).1 := by
  unfold hexS hexP
  by_cases h : 20000 < s.length
  · rw [if_pos h, if_pos (by omega)]
  · rw [if_neg h, if_neg (by omega)]
def hexAcc : Str → Str → Str
  | [], out => out
  | c :: s, out => hexAcc s (out ++ [hexFig (c.toNat / 16), hexFig (c.toNat % 16)])
theorem hexAcc_app : ∀ (s out : Str), hexAcc s out = out ++ hexB s
  | [], out => by simp [hexAcc, hexB]
  | c :: s, out => by rw [hexAcc, hexAcc_app s, hexB]; simp
def hexV (c : UInt8) : Int := match hexVal c with | some n => (n : Int) | none => -1
theorem hexV_le (c : UInt8) : -1 ≤ hexV c ∧ hexV c ≤ 15 := by
  unfold hexV
  cases h : hexVal c with
  | none => simp
  | some n => have := (hexVal_some h).1; simp only; omega
theorem unhexL_step {t out : Str} {j : Nat} (h : j + 1 < t.length) : (unhexL (t.drop j)).map (out ++ ·) = if hexV (t.getD j 0) < 0 ∨ hexV (t.getD (j + 1) 0) < 0 then none else
    (unhexL (t.drop (j + 2))).map ((out ++ [UInt8.ofNat (16 * hexV (t.getD j 0) + hexV (t.getD (j + 1) 0)).toNat]) ++ ·) := by
  rw [drop_at (getD_some (d := (0 : UInt8)) (by omega : j < t.length)), drop_at (getD_some (d := (0 : UInt8)) h), unhexL]
  unfold hexV
  cases h1 : hexVal (t.getD j 0) with
  | none => simp
  | some a =>
    cases h2 : hexVal (t.getD (j + 1) 0) with
    | none => simp
    | some b =>
      rw [if_neg (by simp only; omega)]
      have e : (16 * (a : Int) + (b : Int)).toNat = 16 * a + b := by omega
      simp only [e]
      cases unhexL (t.drop (j + 2)) with
      | none => rfl
      | some r => simp
theorem unhex_some {t r : Str} (h : unhexL t = some r) (h1 : ¬ (40000 : Int) < (t.length : Int)) : unhex t = (r, true) := by
  unfold unhex
  rw [if_neg (by omega), h]
theorem unhex_none {t : Str} (h : unhexL t = none) : unhex t = ([], false) := by
  unfold unhex
  rw [h]
  split <;> rfl
theorem unhexL_odd : ∀ (t : Str), t.length % 2 = 1 → unhexL t = none
  | [], h => by simp at h
  | [_], _ => rfl
  | a :: b :: t, h => by
    unfold unhexL
    rw [unhexL_odd t (by simp only [List.length_cons] at h; omega)]
    cases hexVal a <;> cases hexVal b <;> rfl
theorem unhex_bad {t : Str} (h : (40000 : Int) < (t.length : Int) ∨ ¬ ((t.length % 2 : Nat) : Int) = 0) : unhex t = ([], false) := by
  rcases h with h | h
  · unfold unhex
    rw [if_pos (by omega)]
  · exact unhex_none (unhexL_odd t (by omega))
theorem unhex_fst {t : Str} {u : Str} (h : unhex t = (u, false)) : u = [] := by
  unfold unhex at h
  split at h
  · simp at h; exact h
  · split at h <;> simp at h
    exact h
theorem messageOf_nil {v : Str} (h : v = []) : messageOf v = [] := by subst h; rfl
theorem messageOf_one {v : Str} (h : ¬ v = []) (h2 : ((v.getD 0 0).toNat : Int) = 45) : messageOf v = (unhex (v.drop 1)).1 := by
  cases v with
  | nil => exact absurd rfl h
  | cons c t =>
    have hc : c = 45 := by
      simp only [List.getD_cons_zero] at h2
      apply UInt8.toNat.inj
      show c.toNat = 45
      omega
    unfold messageOf
    simp [hc]
theorem messageOf_no {v : Str} (h2 : ¬ ((v.getD 0 0).toNat : Int) = 45) : messageOf v = [] := by
  cases v with
  | nil => rfl
  | cons c t =>
    have hc : ¬ c = 45 := by
      intro e
      subst e
      simp at h2
    unfold messageOf
    simp [hc]
theorem prefix45 {v : Str} : prefixB v [45] = true ↔ ∃ t, v = 45 :: t := by
  unfold prefixB
  simp only [List.length_cons, List.length_nil, Bool.and_eq_true, decide_eq_true_eq]
  cases v with
  | nil => simp
  | cons c t => simp
theorem hexAcc_nil (s : Str) : hexAcc s [] = hexB s := by rw [hexAcc_app]; rfl
theorem hexP_no {s : Str} (h : ¬ (20000 : Int) < (s.length : Int)) : hexP s = (hexB s, true) := by unfold hexP; rw [if_neg h]
theorem hexP_yes {s : Str} (h : (20000 : Int) < (s.length : Int)) : hexP s = ([], false) := by unfold hexP; rw [if_pos h]
theorem hexFig_lo {k : Nat} (h : k < 10) : (hexFig k).toNat = 48 + k := by
  unfold hexFig
  rw [if_pos h, UInt8.toNat_ofNat_of_lt' (by show _ < 256; omega)]
theorem hexFig_hi {k : Nat} (h : ¬ k < 10) (h2 : k < 16) : (hexFig k).toNat = 87 + k := by
  unfold hexFig
  rw [if_neg h, UInt8.toNat_ofNat_of_lt' (by show _ < 256; omega)]
theorem hexV_a {c : UInt8} (h1 : 48 ≤ c.toNat) (h2 : c.toNat ≤ 57) : hexV c = (c.toNat : Int) - 48 := by
  unfold hexV hexVal
  rw [if_pos ⟨h1, h2⟩]
  simp only
  omega
theorem hexV_b {c : UInt8} (h1 : 97 ≤ c.toNat) (h2 : c.toNat ≤ 102) : hexV c = (c.toNat : Int) - 97 + 10 := by
  unfold hexV hexVal
  rw [if_neg (by omega), if_pos ⟨h1, h2⟩]
  simp only
  omega
theorem hexV_c {c : UInt8} (h1 : c.toNat < 48 ∨ 57 < c.toNat) (h2 : c.toNat < 97 ∨ 102 < c.toNat) : hexV c = -1 := by
  unfold hexV hexVal
  rw [if_neg (by omega), if_neg (by omega)]
theorem messageOf_cutT {v u : Str} (h : cutPre v [45] = (u, true)) : messageOf v = (unhex u).1 := by
  unfold cutPre at h
  split at h
  · rename_i hp
    obtain ⟨t, rfl⟩ := prefix45.1 hp
    simp only [Prod.mk.injEq, and_true] at h
    subst h
    rfl
  · simp at h
theorem messageOf_cutF {v u : Str} (h : cutPre v [45] = (u, false)) : messageOf v = [] := by
  unfold cutPre at h
  split at h
  · simp at h
  · rename_i hp
    cases v with
    | nil => rfl
    | cons c t =>
      unfold messageOf
      simp only
      rw [if_neg]
      intro hc
      subst hc
      exact hp (prefix45.2 ⟨t, rfl⟩)
end Go.Proofs.YtenfajgpdhgknaaGreatDoor

set_option linter.unusedSimpArgs false
set_option linter.unusedVariables false
set_option linter.unnecessarySimpa false
namespace Go.Proofs.YtenfajgpdhgknaaGreatDoor
open Go Go.RowKit

@[reducible] def rB (a : Option Addr) (c : Nat) (l : Str) : Res := .row (.slice a l.length c) 5 1 l.length (l.map encB)
theorem wr8u {x : Int} {c : UInt8} (h : 0 ≤ x ∧ x < 256) (hc : c = UInt8.ofNat x.toNat) : IntKind.u8.wrap x = ((c.toNat : Nat) : Int) := by
  subst hc
  refine wr8 ⟨?_, by omega, by omega⟩
  rw [UInt8.toNat_ofNat_of_lt' (by show _ < 256; omega)]
  omega
theorem setB {l : Str} {i : Nat} {c : UInt8} (h : i < l.length) : (l.map encB).take (i * 1) ++ [.int .u8 (c.toNat : Int)] ++ (l.map encB).drop (i * 1 + 1) = (l.set i c).map encB := by
  have e : ∀ q : Str, q.flatMap (fun s => [encB s]) = q.map encB := fun q => by
    induction q with
    | nil => rfl
    | cons x q ih => rw [List.flatMap_cons, ih]; rfl
  have := flat_set (enc := fun s => [encB s]) (k := 1) (fun _ => rfl) l i c h
  rw [e, e] at this
  exact this
section
variable {P : Program} {ops : Array Oper} {Q : Exit → Act → World → Prop} {n : Nat} {w0 w : World} {D : List Nat} {L : List Res} {e : Env}
variable {d : Option Tmp} {ty : TypeId} {pos : String} {aft : Array Edge} {gd : Option (Nat × Bool)}
/-- A text's bytes, copied into a row of their own. -/
theorem JO.toBytes {src dst : TypeId} {x : Operand} {s : Str} (hs : P.underlying src = some .string) (hd : P.underlying dst = some (.slice TB)) (he : P.underlying TB = some (.int .u8)) (hx : rd n e x = str s) (hm : s.length ≤ maxLen) :
    JO P n w0 D L e ⟨d, .convert src dst x, ty, pos, aft, gd⟩ (fun u L' => ∃ a c, u = .slice a s.length c ∧ L' = .row (.slice a s.length c) TB 1 s.length (s.map encB) :: L) := JO.ofRun fun w hw => by
  have hsz : (ByteArray.mk s.toArray).size = s.length := size_mk s
  have hrun := Lib.run_convert_string_bytes (P := P) w src dst TB ⟨s.toArray⟩ hs hd he
  have hge := grownCap_ge w s.length 0 TB
  have hle := grownCap_le_maxLen w s.length 0 TB hm
  have hcs : (Lib.bytesCells w TB ⟨s.toArray⟩).size = grownCap w s.length 0 TB := by
    unfold Lib.bytesCells
    rw [hsz]
    simp
    omega
  have hcl : (Lib.bytesCells w TB ⟨s.toArray⟩).toList.take s.length = s.map encB := by
    unfold Lib.bytesCells
    simp only [Array.toList_append, Array.toList_map]
    rw [List.take_append_of_le_length (by simp), List.take_of_length_le (by simp)]
  refine ⟨_, .row (.slice (some ⟨w.heap.size, 0, none⟩) s.length (grownCap w s.length 0 TB)) TB 1 s.length (s.map encB) :: L, Lib.bytesWorld w TB ⟨s.toArray⟩, ?_, ⟨_, _, rfl, rfl⟩, ?_⟩
  · simp only [execOp, hx, str, Sem.run_bind, hrun, Result.andThen_ok, hsz]
    rfl
  · refine hw.turn (A := []) (A' := [.row (.slice (some ⟨w.heap.size, 0, none⟩) s.length (grownCap w s.length 0 TB)) TB 1 s.length (s.map encB)]) (F := L) (List.Perm.refl _) rfl rfl rfl (by rw [Lib.bytesWorld_size]; omega)
      (fun k hk _ => Lib.bytesWorld_at_old w _ _ k hk) ?_ (by simp [idsOf, Res.ids, Value.ownBlock]) ?_
    · intro r hr
      simp only [List.mem_singleton] at hr
      subst hr
      refine ⟨by simp, .inr ⟨w.heap.size, _, _, rfl, Nat.zero_le _, ⟨_, Lib.bytesWorld_at_new w TB ⟨s.toArray⟩, .inr ⟨Nat.le_refl _, rfl⟩⟩, hge, hle, by rw [hcs, Nat.mul_one], by rw [Nat.mul_one]; exact hcl⟩⟩
    · intro i hi
      simp only [idsOf, Res.ids, Value.ownBlock, List.flatMap_cons, List.flatMap_nil, List.append_nil, Option.mem_toList, Option.some.injEq] at hi
      exact .inr (by omega)
end

theorem N_hexEnc (a : Option Addr) (c : Nat) (l : Str) (hl : l.length ≤ 1000000000000) : Ct Tryz.prog 289 [.slice a l.length c] [] (fun w => Sees w (.slice a l.length c) 1 l.length (l.map encB)) (fun v A' => v = str (hexB l) ∧ A' = []) := fun w hA hs => by
  obtain ⟨hlen, hs⟩ := hs
  rcases hs with ⟨hv, h0⟩ | ⟨b, o, cap, hv, h1, h2, h3, h4⟩
  · have hl0 : l = [] := List.length_eq_zero_iff.1 h0
    subst hl0
    simp only [Value.slice.injEq] at hv
    obtain ⟨rfl, _, rfl⟩ := hv
    refine (Tryz.hex_EncodeToString_nil w).mono fun e w' h => ?_
    obtain ⟨rfl, hb⟩ := h
    exact ⟨_, [], rfl, ⟨rfl, rfl⟩, hA.below hb⟩
  · simp only [Value.slice.injEq] at hv
    obtain ⟨rfl, _, rfl⟩ := hv
    refine (Tryz.hex_EncodeToString_bytes b o c l w (fun i hi => ?_) h3 (by omega)).mono fun e w' h => ?_
    · exact h4 i _ (by rw [List.getElem?_map, List.getElem?_eq_getElem hi]; rfl)
    · obtain ⟨rfl, hb⟩ := h
      exact ⟨_, [], rfl, ⟨by rw [encode_hexB]; rfl, rfl⟩, hA.below hb⟩
/-- What DecodeString hands back. -/
def decPost (t : Str) (v : Value) (A' : List Res) : Prop := ∃ a c, ∃ r : Str, ((Lib.Hx.decode t = (r, .ok) ∧ v = .tuple #[.slice a r.length c, .nilIface]) ∨ ((∀ r, Lib.Hx.decode t ≠ (r, .ok)) ∧ ∃ te pe, v = .tuple #[.slice a r.length c, .iface te pe])) ∧ A' = [rB a c r]
theorem N_hexDec (t : Str) (ht : t.length ≤ 1000000000000) : Ct Tryz.prog 288 [str t] [] (fun w => HexOk w) (fun v A' => decPost t v A') := fun w hA hx => by
  obtain ⟨tp, p, hE⟩ := hx.cell
  have hl : (ByteArray.mk t.toArray).data.toList = t := by simp
  refine (Tryz.hex_DecodeString_owns ⟨t.toArray⟩ w _ hE (by rw [size_mk]; omega)).mono fun e w' h => ?_
  rw [hl] at h
  obtain ⟨v, rfl, hown, hb⟩ := h
  generalize hd : Lib.Hx.decode t = q at hown
  obtain ⟨r, o⟩ := q
  simp only at hown
  have hvs : ∃ a c, v = .slice a r.length c := by
    rcases hown.2 with ⟨hv, h0⟩ | ⟨g, cap, cur, hv, _⟩
    · exact ⟨none, 0, by rw [hv, h0]⟩
    · exact ⟨_, _, hv⟩
  obtain ⟨a, c, rfl⟩ := hvs
  have hst : St w (idsOf []) [rB a c r] w' := by
    refine (St.start hA).turn (A := []) (A' := [rB a c r]) (F := []) (List.Perm.refl _) hb.os hb.tape hb.output hb.size (fun k hk _ => hb.block k hk) ?_ ?_ ?_
    · intro x hx'
      simp only [List.mem_singleton] at hx'
      subst hx'
      have h1 := World.ownsR.of hown
      refine ⟨h1.1, ?_⟩
      rcases h1.2 with h | ⟨g, cap, cur, hv, _, rest⟩
      · exact .inl h
      · exact .inr ⟨g, cap, cur, hv, Nat.zero_le _, rest⟩
    · simp only [idsOf, Res.ids, List.flatMap_cons, List.flatMap_nil, List.append_nil]
      cases (Value.slice a r.length c).ownBlock <;> simp
    · intro i hi
      simp only [idsOf, Res.ids, List.flatMap_cons, List.flatMap_nil, List.append_nil, Option.mem_toList] at hi
      exact .inr (World.ownsRow.lt hown i hi).1
  refine ⟨_, _, rfl, ⟨a, c, r, ?_, rfl⟩, hst⟩
  cases o with
  | ok => exact .inl ⟨hd, rfl⟩
  | bad q => exact .inr ⟨fun r' h => by rw [hd] at h; simp at h, _, _, rfl⟩
  | odd => exact .inr ⟨fun r' h => by rw [hd] at h; simp at h, _, _, rfl⟩
end Go.Proofs.YtenfajgpdhgknaaGreatDoor

set_option linter.unusedSimpArgs false
set_option linter.unusedVariables false
set_option linter.unnecessarySimpa false
namespace Go.Proofs.YtenfajgpdhgknaaGreatDoor
open Go Go.RowKit
@[reducible] def cb (b : Nat) (a : Option Addr) (c : Nat) (l : Str) (p : Nat) (s : Int) : Res := bk b 162 [.slice a l.length c, .int .i64 ((p : Nat) : Int), .int .i64 s]
/-- The bytes that a cursor goes over can be read, and none of these resources holds them. -/
def seesC (w : World) (a : Option Addr) (c : Nat) (l : Str) (A : List Res) : Prop := Sees w (.slice a l.length c) 1 l.length (l.map encB) ∧ ∀ i, (Value.slice a l.length c).ownBlock = some i → i ∉ idsOf A
theorem atB {l : Str} {i : Nat} (h : i < l.length) : (l.map encB)[i * 1]? = some (.int .u8 (((l.getD i 0).toNat : Nat) : Int)) := by simp [h, encB]
theorem and_bnd (x m : Int) (h0 : 0 ≤ m) (h1 : m < 9223372036854775808) : 0 ≤ bits .and .i64 x m ∧ bits .and .i64 x m ≤ m := by
  have hm : (BitVec.ofInt 64 m).toNat = m.toNat := by
    rw [BitVec.toNat_ofInt]
    congr 1
    omega
  have hle : ((BitVec.ofInt 64 x) &&& (BitVec.ofInt 64 m)).toNat ≤ m.toNat := by
    rw [BitVec.toNat_and, hm]
    exact Nat.and_le_right
  have hw : bits .and .i64 x m = ((((BitVec.ofInt 64 x) &&& (BitVec.ofInt 64 m)).toNat : Nat) : Int) := by
    unfold bits
    show IntKind.i64.wrap ((((BitVec.ofInt 64 x) &&& (BitVec.ofInt 64 m)).toNat : Nat) : Int) = _
    exact wr (by omega)
  rw [hw]
  omega
theorem St.apart {w0 w : World} {D : List Nat} {L A : List Res} {v : Value} {k m : Nat} {vs : List Value} (hw : St w0 D L w) (hs : Sees w0 v k m vs) (hD : ∀ b, v.ownBlock = some b → b ∉ D) (hA : ∀ r ∈ A, r ∈ L) :
    ∀ j, v.ownBlock = some j → j ∉ idsOf A := fun j hj hin => by
  obtain ⟨r, hr, hjr⟩ := mem_idsOf.1 hin
  rcases hs.2 with ⟨rfl, _⟩ | ⟨b, o, cap, hv, h1, h2, h3, h4⟩
  · simp [Value.ownBlock] at hj
  · rcases hw.fresh j (mem_idsOf.2 ⟨r, hA r hr, hjr⟩) with h | h
    · exact hD j hj h
    · subst hv
      simp [Value.ownBlock] at hj
      omega
/-- What PutKey keeps. -/
def okC' (n k : Nat) (s : List Cell) : Prop := s.length ≤ n ∧ ∀ c ∈ s, c.1.length ≤ k ∧ c.2.length ≤ k
theorem okC'.put {n k : Nat} {s : List Cell} (h : okC' n k s) (key val : Str) (h1 : key.length ≤ k) (h2 : val.length ≤ k) : okC' (n + 1) k (putKey s key val) := by
  refine ⟨Nat.le_trans (putKey_len s key val) (by have := h.1; omega), fun c hc => ?_⟩
  rcases putKey_mem (s := s) hc with hc | ⟨rfl, _, _⟩
  · exact h.2 c hc
  · exact ⟨h1, h2⟩
theorem okC'.mono {n n' k : Nat} {s : List Cell} (h : okC' n k s) (hn : n ≤ n') : okC' n' k s := ⟨Nat.le_trans h.1 hn, h.2⟩
attribute [local irreducible] JL JC JQ JO LO PO JA JX Ct

theorem D_byte (qb : Nat) (qa : Option Addr) (qc : Nat) (ql : Str) (qp : Nat) (qs : Int) (hql : ql.length ≤ 1048576) (hqp : qp ≤ ql.length)  :
    Ct Tryz.prog 262 [.pointer (some ⟨qb, 0, none⟩)] [cb qb qa qc ql qp qs] (fun w => seesC w qa qc ql [cb qb qa qc ql qp qs]) (fun v A' => ∃ qp' qs' r0, qp' ≤ ql.length ∧ (r0 ≤ 255) ∧ v = .int .i64 ((r0 : Nat) : Int) ∧ A' = [cb qb qa qc ql qp' qs']) := by
  refine Ct.intro Tryz.func262 rfl Tryz.ntmps262 (Nat.le_of_ble_eq_true rfl) fun w0 hpre => ?_
  have hs_qa : Sees w0 _ _ _ _ := hpre.1
  refine JC.seq ?_
  refine JC.region ?_
  refine JL.pure rfl (PO.assign (v := .int .i64 0) rfl) ?_
  refine JL.nil ?_
  refine JQ.seq ?_
  refine JC.seq ?_
  refine JC.region ?_
  refine JL.pure rfl (PO.move (v := .pointer (some ⟨qb, 0, none⟩)) rfl) ?_
  refine JL.pure rfl (PO.move (v := .pointer (some ⟨qb, 0, none⟩)) rfl) ?_
  refine JL.pure rfl (PO.nilCheck rfl) ?_
  refine JL.pure rfl (PO.fieldAddr fo162_2 rfl) ?_
  refine JL.ld rfl (LO.load1 0 (v := .int .i64 qs) rfl rfl Tryz.isAgg3 rfl) ?_
  refine JL.pure rfl (PO.mulW rfl rfl) ?_
  refine JL.pure rfl (PO.addW rfl rfl) ?_
  refine JL.pure rfl (PO.nilCheck rfl) ?_
  refine JL.pure rfl (PO.fieldAddr fo162_2 rfl) ?_
  refine JL.op rfl (JO.store 0 (vs := [.int .i64 (IntKind.i64.wrap ((IntKind.i64.wrap (qs * 6364136223846793005)) + 1442695040888963407))]) (cs' := [.slice qa ql.length qc, .int .i64 ((qp : Nat) : Int), .int .i64 (IntKind.i64.wrap ((IntKind.i64.wrap (qs * 6364136223846793005)) + 1442695040888963407))]) rfl rfl rfl rfl Tryz.sizeOf3 rfl rfl (Nat.le_of_ble_eq_true rfl) rfl) ?_
  rintro _ _ rfl
  refine JL.nil ?_
  refine JQ.seq ?_
  refine JC.seq ?_
  refine JC.regionA [cb qb qa qc ql qp (IntKind.i64.wrap ((IntKind.i64.wrap (qs * 6364136223846793005)) + 1442695040888963407))] 12 mixed (by simp) ?_
  refine JA.takeP 0 rfl (by kernel_rfl) (NP.th NP.body) (by kernel_rfl) (by kernel_rfl) rfl (PO.move (v := .pointer (some ⟨qb, 0, none⟩)) rfl) ?_
  refine JA.takeP 1 rfl (by kernel_rfl) (NP.th NP.body) (by kernel_rfl) (by kernel_rfl) rfl (PO.nilCheck rfl) ?_
  refine JA.takeP 2 rfl (by kernel_rfl) (NP.th NP.body) (by kernel_rfl) (by kernel_rfl) rfl (PO.fieldAddr fo162_2 rfl) ?_
  refine JA.take 3 rfl (by kernel_rfl) (NP.th NP.body) (by kernel_rfl) (by kernel_rfl) (by kernel_rfl) rfl (LO.load1 0 (v := .int .i64 (IntKind.i64.wrap ((IntKind.i64.wrap (qs * 6364136223846793005)) + 1442695040888963407))) rfl rfl Tryz.isAgg3 rfl) ?_
  refine JA.takeP 4 rfl (by kernel_rfl) (NP.th NP.body) (by kernel_rfl) (by kernel_rfl) rfl (PO.shr rfl rfl (by decide) (by decide)) ?_
  refine JA.takeP 5 rfl (by kernel_rfl) (NP.th NP.body) (by kernel_rfl) (by kernel_rfl) rfl (PO.move (v := .pointer (some ⟨qb, 0, none⟩)) rfl) ?_
  refine JA.takeP 6 rfl (by kernel_rfl) (NP.th NP.body) (by kernel_rfl) (by kernel_rfl) rfl (PO.nilCheck rfl) ?_
  refine JA.takeP 7 rfl (by kernel_rfl) (NP.th NP.body) (by kernel_rfl) (by kernel_rfl) rfl (PO.fieldAddr fo162_2 rfl) ?_
  refine JA.take 8 rfl (by kernel_rfl) (NP.th NP.body) (by kernel_rfl) (by kernel_rfl) (by kernel_rfl) rfl (LO.load1 0 (v := .int .i64 (IntKind.i64.wrap ((IntKind.i64.wrap (qs * 6364136223846793005)) + 1442695040888963407))) rfl rfl Tryz.isAgg3 rfl) ?_
  refine JA.takeP 9 rfl (by kernel_rfl) (NP.th NP.body) (by kernel_rfl) (by kernel_rfl) rfl (PO.shr rfl rfl (by decide) (by decide)) ?_
  refine JA.takeP 10 rfl (by kernel_rfl) (NP.th NP.body) (by kernel_rfl) (by kernel_rfl) rfl (PO.bits (by simp) rfl rfl) ?_
  refine JA.takeP 11 rfl (by kernel_rfl) (NP.th NP.body) (by kernel_rfl) (by kernel_rfl) rfl (PO.bits (by simp) rfl rfl) ?_
  refine JA.takeP 12 rfl (by kernel_rfl) (NP.th NP.body) (by kernel_rfl) (by kernel_rfl) rfl (PO.assign (v := .int .i64 (Go.bits .and .i64 (Go.bits .xor .i64 ((IntKind.i64.wrap ((IntKind.i64.wrap (qs * 6364136223846793005)) + 1442695040888963407)) / 2 ^ (33 : Int).toNat) ((IntKind.i64.wrap ((IntKind.i64.wrap (qs * 6364136223846793005)) + 1442695040888963407)) / 2 ^ (45 : Int).toNat)) 255)) rfl) ?_
  refine JA.done (by kernel_rfl) ?_
  refine JQ.seq ?_
  refine JC.seq ?_
  refine JC.seq ?_
  refine JC.regionA [cb qb qa qc ql qp (IntKind.i64.wrap ((IntKind.i64.wrap (qs * 6364136223846793005)) + 1442695040888963407))] 1000 mixed (by simp) ?_
  refine JA.takeP 0 rfl (by kernel_rfl) (NP.th (NP.th NP.body)) (by kernel_rfl) (by kernel_rfl) rfl (PO.move (v := .pointer (some ⟨qb, 0, none⟩)) rfl) ?_
  refine JA.takeP 1 rfl (by kernel_rfl) (NP.th (NP.th NP.body)) (by kernel_rfl) (by kernel_rfl) rfl (PO.nilCheck rfl) ?_
  refine JA.takeP 2 rfl (by kernel_rfl) (NP.th (NP.th NP.body)) (by kernel_rfl) (by kernel_rfl) rfl (PO.fieldAddr fo162_1 rfl) ?_
  refine JA.take 3 rfl (by kernel_rfl) (NP.th (NP.th NP.body)) (by kernel_rfl) (by kernel_rfl) (by kernel_rfl) rfl (LO.load1 0 (v := .int .i64 ((qp : Nat) : Int)) rfl rfl Tryz.isAgg3 rfl) ?_
  refine JA.takeP 4 rfl (by kernel_rfl) (NP.th (NP.th NP.body)) (by kernel_rfl) (by kernel_rfl) rfl (PO.move (v := .pointer (some ⟨qb, 0, none⟩)) rfl) ?_
  refine JA.takeP 5 rfl (by kernel_rfl) (NP.th (NP.th NP.body)) (by kernel_rfl) (by kernel_rfl) rfl (PO.nilCheck rfl) ?_
  refine JA.takeP 6 rfl (by kernel_rfl) (NP.th (NP.th NP.body)) (by kernel_rfl) (by kernel_rfl) rfl (PO.fieldAddr fo162_0 rfl) ?_
  refine JA.take 7 rfl (by kernel_rfl) (NP.th (NP.th NP.body)) (by kernel_rfl) (by kernel_rfl) (by kernel_rfl) rfl (LO.load1 0 (v := .slice qa ql.length qc) rfl rfl Tryz.isAgg44 rfl) ?_
  refine JA.takeP 8 rfl (by kernel_rfl) (NP.th (NP.th NP.body)) (by kernel_rfl) (by kernel_rfl) rfl (PO.lenV Tryz.underlying44 rfl) ?_
  refine JA.takeP 9 rfl (by kernel_rfl) (NP.th (NP.th NP.body)) (by kernel_rfl) (by kernel_rfl) rfl (PO.lss rfl rfl) ?_
  refine JA.done (by kernel_rfl) ?_
  refine JQ.seq ?_
  by_cases h_1 : ((qp : Nat) : Int) < ((ql.length : Nat) : Int)
  · skip
    have hu8 := UInt8.toNat_lt (ql.getD qp 0)
    refine JC.condT (congrArg Value.bool (decide_eq_true h_1)) ?_
    refine JC.seq ?_
    refine JC.regionA [cb qb qa qc ql qp (IntKind.i64.wrap ((IntKind.i64.wrap (qs * 6364136223846793005)) + 1442695040888963407))] 14 mixed (by simp) ?_
    refine JA.takeP 0 rfl (by kernel_rfl) (NP.th (NP.th NP.body)) (by kernel_rfl) (by kernel_rfl) rfl (PO.move (v := .int .i64 (Go.bits .and .i64 (Go.bits .xor .i64 ((IntKind.i64.wrap ((IntKind.i64.wrap (qs * 6364136223846793005)) + 1442695040888963407)) / 2 ^ (33 : Int).toNat) ((IntKind.i64.wrap ((IntKind.i64.wrap (qs * 6364136223846793005)) + 1442695040888963407)) / 2 ^ (45 : Int).toNat)) 255)) rfl) ?_
    refine JA.takeP 1 rfl (by kernel_rfl) (NP.th (NP.th NP.body)) (by kernel_rfl) (by kernel_rfl) rfl (PO.move (v := .pointer (some ⟨qb, 0, none⟩)) rfl) ?_
    refine JA.takeP 2 rfl (by kernel_rfl) (NP.th (NP.th NP.body)) (by kernel_rfl) (by kernel_rfl) rfl (PO.nilCheck rfl) ?_
    refine JA.takeP 3 rfl (by kernel_rfl) (NP.th (NP.th NP.body)) (by kernel_rfl) (by kernel_rfl) rfl (PO.fieldAddr fo162_0 rfl) ?_
    refine JA.take 4 rfl (by kernel_rfl) (NP.th (NP.th NP.body)) (by kernel_rfl) (by kernel_rfl) (by kernel_rfl) rfl (LO.load1 0 (v := .slice qa ql.length qc) rfl rfl Tryz.isAgg44 rfl) ?_
    refine JA.takeP 5 rfl (by kernel_rfl) (NP.th (NP.th NP.body)) (by kernel_rfl) (by kernel_rfl) rfl (PO.move (v := .pointer (some ⟨qb, 0, none⟩)) rfl) ?_
    refine JA.takeP 6 rfl (by kernel_rfl) (NP.th (NP.th NP.body)) (by kernel_rfl) (by kernel_rfl) rfl (PO.nilCheck rfl) ?_
    refine JA.takeP 7 rfl (by kernel_rfl) (NP.th (NP.th NP.body)) (by kernel_rfl) (by kernel_rfl) rfl (PO.fieldAddr fo162_1 rfl) ?_
    refine JA.take 8 rfl (by kernel_rfl) (NP.th (NP.th NP.body)) (by kernel_rfl) (by kernel_rfl) (by kernel_rfl) rfl (LO.load1 0 (v := .int .i64 ((qp : Nat) : Int)) rfl rfl Tryz.isAgg3 rfl) ?_
    obtain ⟨hr_2, hr_2b, -⟩ := sees_some hs_qa (by omega)
    refine JA.takeP 9 rfl (by kernel_rfl) (NP.th (NP.th NP.body)) (by kernel_rfl) (by kernel_rfl) rfl (PO.indexAddrV (i := qp) Tryz.underlying44 Tryz.sizeOf5 hr_2 hr_2b rfl rfl (by omega)) ?_
    refine JA.take 10 rfl (by kernel_rfl) (NP.th (NP.th NP.body)) (by kernel_rfl) (by kernel_rfl) (by kernel_rfl) rfl (LO.loadS1 (v := .int .u8 (((ql.getD qp 0).toNat : Nat) : Int)) hs_qa (hpre.2) rfl Tryz.isAgg5 (atB (by omega))) ?_
    refine JA.takeP 11 rfl (by kernel_rfl) (NP.th (NP.th NP.body)) (by kernel_rfl) (by kernel_rfl) rfl (PO.convI (c := (((ql.getD qp 0).toNat : Nat) : Int)) Tryz.underlying5 Tryz.underlying3 rfl (wr (by omega))) ?_
    refine JA.takeP 12 rfl (by kernel_rfl) (NP.th (NP.th NP.body)) (by kernel_rfl) (by kernel_rfl) rfl (PO.addW rfl rfl) ?_
    refine JA.takeP 13 rfl (by kernel_rfl) (NP.th (NP.th NP.body)) (by kernel_rfl) (by kernel_rfl) rfl (PO.bits (by simp) rfl rfl) ?_
    refine JA.takeP 14 rfl (by kernel_rfl) (NP.th (NP.th NP.body)) (by kernel_rfl) (by kernel_rfl) rfl (PO.assign (v := .int .i64 (Go.bits .and .i64 (IntKind.i64.wrap ((Go.bits .and .i64 (Go.bits .xor .i64 ((IntKind.i64.wrap ((IntKind.i64.wrap (qs * 6364136223846793005)) + 1442695040888963407)) / 2 ^ (33 : Int).toNat) ((IntKind.i64.wrap ((IntKind.i64.wrap (qs * 6364136223846793005)) + 1442695040888963407)) / 2 ^ (45 : Int).toNat)) 255) + (((ql.getD qp 0).toNat : Nat) : Int))) 255)) rfl) ?_
    refine JA.done (by kernel_rfl) ?_
    refine JQ.seq ?_
    refine JC.region ?_
    refine JL.pure rfl (PO.move (v := .pointer (some ⟨qb, 0, none⟩)) rfl) ?_
    refine JL.pure rfl (PO.move (v := .pointer (some ⟨qb, 0, none⟩)) rfl) ?_
    refine JL.pure rfl (PO.nilCheck rfl) ?_
    refine JL.pure rfl (PO.fieldAddr fo162_1 rfl) ?_
    refine JL.ld rfl (LO.load1 0 (v := .int .i64 ((qp : Nat) : Int)) rfl rfl Tryz.isAgg3 rfl) ?_
    refine JL.pure rfl (PO.add (c := ((qp + 1 : Nat) : Int)) rfl rfl (wr (by omega))) ?_
    refine JL.pure rfl (PO.nilCheck rfl) ?_
    refine JL.pure rfl (PO.fieldAddr fo162_1 rfl) ?_
    refine JL.op rfl (JO.store 0 (vs := [.int .i64 ((qp + 1 : Nat) : Int)]) (cs' := [.slice qa ql.length qc, .int .i64 ((qp + 1 : Nat) : Int), .int .i64 (IntKind.i64.wrap ((IntKind.i64.wrap (qs * 6364136223846793005)) + 1442695040888963407))]) rfl rfl rfl rfl Tryz.sizeOf3 rfl rfl (Nat.le_of_ble_eq_true rfl) rfl) ?_
    rintro _ _ rfl
    refine JL.nil ?_
    refine JQ.seq ?_
    refine JC.seq ?_
    refine JC.region ?_
    refine JL.pure rfl (PO.move (v := .int .i64 (Go.bits .and .i64 (IntKind.i64.wrap ((Go.bits .and .i64 (Go.bits .xor .i64 ((IntKind.i64.wrap ((IntKind.i64.wrap (qs * 6364136223846793005)) + 1442695040888963407)) / 2 ^ (33 : Int).toNat) ((IntKind.i64.wrap ((IntKind.i64.wrap (qs * 6364136223846793005)) + 1442695040888963407)) / 2 ^ (45 : Int).toNat)) 255) + (((ql.getD qp 0).toNat : Nat) : Int))) 255)) rfl) ?_
    refine JL.pure rfl (PO.assign (v := .int .i64 (Go.bits .and .i64 (IntKind.i64.wrap ((Go.bits .and .i64 (Go.bits .xor .i64 ((IntKind.i64.wrap ((IntKind.i64.wrap (qs * 6364136223846793005)) + 1442695040888963407)) / 2 ^ (33 : Int).toNat) ((IntKind.i64.wrap ((IntKind.i64.wrap (qs * 6364136223846793005)) + 1442695040888963407)) / 2 ^ (45 : Int).toNat)) 255) + (((ql.getD qp 0).toNat : Nat) : Int))) 255)) rfl) ?_
    refine JL.nil ?_
    refine JQ.seq ?_
    refine JC.ret ?_
    refine Done.one (.inl rfl) rfl (RV.tmp (v := .int .i64 (Go.bits .and .i64 (IntKind.i64.wrap ((Go.bits .and .i64 (Go.bits .xor .i64 ((IntKind.i64.wrap ((IntKind.i64.wrap (qs * 6364136223846793005)) + 1442695040888963407)) / 2 ^ (33 : Int).toNat) ((IntKind.i64.wrap ((IntKind.i64.wrap (qs * 6364136223846793005)) + 1442695040888963407)) / 2 ^ (45 : Int).toNat)) 255) + (((ql.getD qp 0).toNat : Nat) : Int))) 255)) rfl) (List.Sublist.refl _) ?_
    have hbb := and_bnd (IntKind.i64.wrap ((Go.bits .and .i64 (Go.bits .xor .i64 ((IntKind.i64.wrap ((IntKind.i64.wrap (qs * 6364136223846793005)) + 1442695040888963407)) / 2 ^ (33 : Int).toNat) ((IntKind.i64.wrap ((IntKind.i64.wrap (qs * 6364136223846793005)) + 1442695040888963407)) / 2 ^ (45 : Int).toNat)) 255) + (((ql.getD qp 0).toNat : Nat) : Int))) 255 (by decide) (by decide)
    obtain ⟨r0, hr0⟩ : ∃ r0 : Nat, Go.bits .and .i64 (IntKind.i64.wrap ((Go.bits .and .i64 (Go.bits .xor .i64 ((IntKind.i64.wrap ((IntKind.i64.wrap (qs * 6364136223846793005)) + 1442695040888963407)) / 2 ^ (33 : Int).toNat) ((IntKind.i64.wrap ((IntKind.i64.wrap (qs * 6364136223846793005)) + 1442695040888963407)) / 2 ^ (45 : Int).toNat)) 255) + (((ql.getD qp 0).toNat : Nat) : Int))) 255 = ((r0 : Nat) : Int) := ⟨(Go.bits .and .i64 (IntKind.i64.wrap ((Go.bits .and .i64 (Go.bits .xor .i64 ((IntKind.i64.wrap ((IntKind.i64.wrap (qs * 6364136223846793005)) + 1442695040888963407)) / 2 ^ (33 : Int).toNat) ((IntKind.i64.wrap ((IntKind.i64.wrap (qs * 6364136223846793005)) + 1442695040888963407)) / 2 ^ (45 : Int).toNat)) 255) + (((ql.getD qp 0).toNat : Nat) : Int))) 255).toNat, by omega⟩
    rw [hr0] at hbb
    exact ⟨(qp + 1), (IntKind.i64.wrap ((IntKind.i64.wrap (qs * 6364136223846793005)) + 1442695040888963407)), r0, by omega, by omega, congrArg (Value.int .i64) hr0, rfl⟩
  · skip
    refine JC.condF (congrArg Value.bool (decide_eq_false h_1)) ?_
    refine JC.skip ?_
    refine JQ.seq ?_
    refine JC.seq ?_
    refine JC.region ?_
    refine JL.pure rfl (PO.move (v := .int .i64 (Go.bits .and .i64 (Go.bits .xor .i64 ((IntKind.i64.wrap ((IntKind.i64.wrap (qs * 6364136223846793005)) + 1442695040888963407)) / 2 ^ (33 : Int).toNat) ((IntKind.i64.wrap ((IntKind.i64.wrap (qs * 6364136223846793005)) + 1442695040888963407)) / 2 ^ (45 : Int).toNat)) 255)) rfl) ?_
    refine JL.pure rfl (PO.assign (v := .int .i64 (Go.bits .and .i64 (Go.bits .xor .i64 ((IntKind.i64.wrap ((IntKind.i64.wrap (qs * 6364136223846793005)) + 1442695040888963407)) / 2 ^ (33 : Int).toNat) ((IntKind.i64.wrap ((IntKind.i64.wrap (qs * 6364136223846793005)) + 1442695040888963407)) / 2 ^ (45 : Int).toNat)) 255)) rfl) ?_
    refine JL.nil ?_
    refine JQ.seq ?_
    refine JC.ret ?_
    refine Done.one (.inl rfl) rfl (RV.tmp (v := .int .i64 (Go.bits .and .i64 (Go.bits .xor .i64 ((IntKind.i64.wrap ((IntKind.i64.wrap (qs * 6364136223846793005)) + 1442695040888963407)) / 2 ^ (33 : Int).toNat) ((IntKind.i64.wrap ((IntKind.i64.wrap (qs * 6364136223846793005)) + 1442695040888963407)) / 2 ^ (45 : Int).toNat)) 255)) rfl) (List.Sublist.refl _) ?_
    have hbb := and_bnd (Go.bits .xor .i64 ((IntKind.i64.wrap ((IntKind.i64.wrap (qs * 6364136223846793005)) + 1442695040888963407)) / 2 ^ (33 : Int).toNat) ((IntKind.i64.wrap ((IntKind.i64.wrap (qs * 6364136223846793005)) + 1442695040888963407)) / 2 ^ (45 : Int).toNat)) 255 (by decide) (by decide)
    obtain ⟨r0, hr0⟩ : ∃ r0 : Nat, Go.bits .and .i64 (Go.bits .xor .i64 ((IntKind.i64.wrap ((IntKind.i64.wrap (qs * 6364136223846793005)) + 1442695040888963407)) / 2 ^ (33 : Int).toNat) ((IntKind.i64.wrap ((IntKind.i64.wrap (qs * 6364136223846793005)) + 1442695040888963407)) / 2 ^ (45 : Int).toNat)) 255 = ((r0 : Nat) : Int) := ⟨(Go.bits .and .i64 (Go.bits .xor .i64 ((IntKind.i64.wrap ((IntKind.i64.wrap (qs * 6364136223846793005)) + 1442695040888963407)) / 2 ^ (33 : Int).toNat) ((IntKind.i64.wrap ((IntKind.i64.wrap (qs * 6364136223846793005)) + 1442695040888963407)) / 2 ^ (45 : Int).toNat)) 255).toNat, by omega⟩
    rw [hr0] at hbb
    exact ⟨qp, (IntKind.i64.wrap ((IntKind.i64.wrap (qs * 6364136223846793005)) + 1442695040888963407)), r0, by omega, by omega, congrArg (Value.int .i64) hr0, rfl⟩

theorem D_below (qb : Nat) (qa : Option Addr) (qc : Nat) (ql : Str) (qp : Nat) (qs : Int) (hql : ql.length ≤ 1048576) (hqp : qp ≤ ql.length) (k : Int) (hk : -9223372036854775808 ≤ k ∧ k ≤ 9223372036854775807) :
    Ct Tryz.prog 173 [.pointer (some ⟨qb, 0, none⟩), .int .i64 k] [cb qb qa qc ql qp qs] (fun w => seesC w qa qc ql [cb qb qa qc ql qp qs]) (fun v A' => ∃ qp' qs' r0, qp' ≤ ql.length ∧ (((r0 : Nat) : Int) < k ∨ r0 = 0) ∧ v = .int .i64 ((r0 : Nat) : Int) ∧ A' = [cb qb qa qc ql qp' qs']) := by
  refine Ct.intro Tryz.func173 rfl Tryz.ntmps173 (Nat.le_of_ble_eq_true rfl) fun w0 hpre => ?_
  have hs_qa : Sees w0 _ _ _ _ := hpre.1
  refine JC.seq ?_
  refine JC.region ?_
  refine JL.pure rfl (PO.assign (v := .int .i64 0) rfl) ?_
  refine JL.nil ?_
  refine JQ.seq ?_
  refine JC.seq ?_
  refine JC.seq ?_
  refine JC.region ?_
  refine JL.pure rfl (PO.move (v := .int .i64 k) rfl) ?_
  refine JL.pure rfl (PO.leq rfl rfl) ?_
  refine JL.nil ?_
  refine JQ.seq ?_
  by_cases h_1 : k ≤ 0
  · skip
    refine JC.condT (congrArg Value.bool (decide_eq_true h_1)) ?_
    refine JC.seq ?_
    refine JC.region ?_
    refine JL.pure rfl (PO.assign (v := .int .i64 0) rfl) ?_
    refine JL.nil ?_
    refine JQ.seq ?_
    refine JC.ret ?_
    refine JQ.thenRet ?_
    refine Done.one (.inl rfl) rfl (RV.tmp (v := .int .i64 0) rfl) (List.Sublist.refl _) ?_
    exact ⟨qp, qs, 0, (by omega), (.inr rfl), rfl, rfl⟩
  · skip
    obtain ⟨kk, hkk⟩ : ∃ kk : Nat, k = ((kk : Nat) : Int) := ⟨k.toNat, by omega⟩
    refine JC.condF (congrArg Value.bool (decide_eq_false h_1)) ?_
    refine JC.skip ?_
    refine JQ.seq ?_
    refine JC.seq ?_
    refine JC.seq ?_
    refine JC.region ?_
    refine JL.pure rfl (PO.move (v := .int .i64 ((kk : Nat) : Int)) (congrArg (Value.int .i64) hkk)) ?_
    refine JL.pure rfl (PO.leq rfl rfl) ?_
    refine JL.nil ?_
    refine JQ.seq ?_
    by_cases h_2 : ((kk : Nat) : Int) ≤ 256
    · skip
      refine JC.condT (congrArg Value.bool (decide_eq_true h_2)) ?_
      refine JC.seq ?_
      refine JC.region ?_
      refine JL.pure rfl (PO.move (v := .pointer (some ⟨qb, 0, none⟩)) rfl) ?_
      refine JL.op rfl (JO.call [0] Tryz.call262 rfl (D_byte qb qa qc ql qp qs (by omega) (by omega)) rfl (fun w hw => ⟨hw.seeOut_ hs_qa (hpre.2), hw.apart hs_qa (hpre.2) (by simp)⟩)) ?_
      rintro _ _ ⟨_, ⟨qp_3, qs_4, n_6, fq_5, f_7, rfl, rfl⟩, rfl⟩
      refine JL.pure rfl (PO.move (v := .int .i64 ((kk : Nat) : Int)) (congrArg (Value.int .i64) hkk)) ?_
      refine JL.pure rfl (PO.remN (c := ((n_6 % kk : Nat) : Int)) rfl rfl (by omega) (by omega) (by omega)) ?_
      refine JL.pure rfl (PO.assign (v := .int .i64 ((n_6 % kk : Nat) : Int)) rfl) ?_
      refine JL.nil ?_
      refine JQ.seq ?_
      refine JC.ret ?_
      refine JQ.thenRet ?_
      refine Done.one (.inl rfl) rfl (RV.tmp (v := .int .i64 ((n_6 % kk : Nat) : Int)) rfl) (List.Sublist.refl _) ?_
      exact ⟨qp_3, qs_4, (n_6 % kk), (by omega), (.inl (by have hm_ := Nat.mod_lt (n_6) (show 0 < kk by omega); omega)), rfl, rfl⟩
    · skip
      refine JC.condF (congrArg Value.bool (decide_eq_false h_2)) ?_
      refine JC.skip ?_
      refine JQ.seq ?_
      refine JC.seq ?_
      refine JC.region ?_
      refine JL.pure rfl (PO.move (v := .pointer (some ⟨qb, 0, none⟩)) rfl) ?_
      refine JL.op rfl (JO.call [0] Tryz.call262 rfl (D_byte qb qa qc ql qp qs (by omega) (by omega)) rfl (fun w hw => ⟨hw.seeOut_ hs_qa (hpre.2), hw.apart hs_qa (hpre.2) (by simp)⟩)) ?_
      rintro _ _ ⟨_, ⟨qp_9, qs_10, n_12, fq_11, f_13, rfl, rfl⟩, rfl⟩
      refine JL.pure rfl (PO.assign (v := .int .i64 ((n_12 : Nat) : Int)) rfl) ?_
      refine JL.nil ?_
      refine JQ.seq ?_
      refine JC.seq ?_
      refine JC.region ?_
      refine JL.pure rfl (PO.move (v := .pointer (some ⟨qb, 0, none⟩)) rfl) ?_
      refine JL.op rfl (JO.call [0] Tryz.call262 rfl (D_byte qb qa qc ql qp_9 qs_10 (by omega) (by omega)) rfl (fun w hw => ⟨hw.seeOut_ hs_qa (hpre.2), hw.apart hs_qa (hpre.2) (by simp)⟩)) ?_
      rintro _ _ ⟨_, ⟨qp_15, qs_16, n_18, fq_17, f_19, rfl, rfl⟩, rfl⟩
      refine JL.pure rfl (PO.assign (v := .int .i64 ((n_18 : Nat) : Int)) rfl) ?_
      refine JL.nil ?_
      refine JQ.seq ?_
      refine JC.seq ?_
      refine JC.region ?_
      refine JL.pure rfl (PO.move (v := .pointer (some ⟨qb, 0, none⟩)) rfl) ?_
      refine JL.op rfl (JO.call [0] Tryz.call262 rfl (D_byte qb qa qc ql qp_15 qs_16 (by omega) (by omega)) rfl (fun w hw => ⟨hw.seeOut_ hs_qa (hpre.2), hw.apart hs_qa (hpre.2) (by simp)⟩)) ?_
      rintro _ _ ⟨_, ⟨qp_21, qs_22, n_24, fq_23, f_25, rfl, rfl⟩, rfl⟩
      refine JL.pure rfl (PO.assign (v := .int .i64 ((n_24 : Nat) : Int)) rfl) ?_
      refine JL.nil ?_
      refine JQ.seq ?_
      refine JC.seq ?_
      refine JC.region ?_
      refine JL.pure rfl (PO.move (v := .pointer (some ⟨qb, 0, none⟩)) rfl) ?_
      refine JL.op rfl (JO.call [0] Tryz.call262 rfl (D_byte qb qa qc ql qp_21 qs_22 (by omega) (by omega)) rfl (fun w hw => ⟨hw.seeOut_ hs_qa (hpre.2), hw.apart hs_qa (hpre.2) (by simp)⟩)) ?_
      rintro _ _ ⟨_, ⟨qp_27, qs_28, n_30, fq_29, f_31, rfl, rfl⟩, rfl⟩
      refine JL.pure rfl (PO.assign (v := .int .i64 ((n_30 : Nat) : Int)) rfl) ?_
      refine JL.nil ?_
      refine JQ.seq ?_
      refine JC.seq ?_
      refine JC.region ?_
      refine JL.pure rfl (PO.move (v := .int .i64 ((n_12 : Nat) : Int)) rfl) ?_
      refine JL.pure rfl (PO.mul (c := ((n_12 * 16777216 : Nat) : Int)) rfl rfl (wr (by omega))) ?_
      refine JL.pure rfl (PO.move (v := .int .i64 ((n_18 : Nat) : Int)) rfl) ?_
      refine JL.pure rfl (PO.mul (c := ((n_18 * 65536 : Nat) : Int)) rfl rfl (wr (by omega))) ?_
      refine JL.pure rfl (PO.add (c := (((n_12 * 16777216) + (n_18 * 65536) : Nat) : Int)) rfl rfl (wr (by omega))) ?_
      refine JL.pure rfl (PO.move (v := .int .i64 ((n_24 : Nat) : Int)) rfl) ?_
      refine JL.pure rfl (PO.mul (c := ((n_24 * 256 : Nat) : Int)) rfl rfl (wr (by omega))) ?_
      refine JL.pure rfl (PO.add (c := ((((n_12 * 16777216) + (n_18 * 65536)) + (n_24 * 256) : Nat) : Int)) rfl rfl (wr (by omega))) ?_
      refine JL.pure rfl (PO.move (v := .int .i64 ((n_30 : Nat) : Int)) rfl) ?_
      refine JL.pure rfl (PO.add (c := (((((n_12 * 16777216) + (n_18 * 65536)) + (n_24 * 256)) + n_30 : Nat) : Int)) rfl rfl (wr (by omega))) ?_
      refine JL.pure rfl (PO.move (v := .int .i64 ((kk : Nat) : Int)) (congrArg (Value.int .i64) hkk)) ?_
      refine JL.pure rfl (PO.remN (c := ((((((n_12 * 16777216) + (n_18 * 65536)) + (n_24 * 256)) + n_30) % kk : Nat) : Int)) rfl rfl (by omega) (by omega) (by omega)) ?_
      refine JL.pure rfl (PO.assign (v := .int .i64 ((((((n_12 * 16777216) + (n_18 * 65536)) + (n_24 * 256)) + n_30) % kk : Nat) : Int)) rfl) ?_
      refine JL.nil ?_
      refine JQ.seq ?_
      refine JC.ret ?_
      refine Done.one (.inl rfl) rfl (RV.tmp (v := .int .i64 ((((((n_12 * 16777216) + (n_18 * 65536)) + (n_24 * 256)) + n_30) % kk : Nat) : Int)) rfl) (List.Sublist.refl _) ?_
      exact ⟨qp_27, qs_28, (((((n_12 * 16777216) + (n_18 * 65536)) + (n_24 * 256)) + n_30) % kk), (by omega), (.inl (by have hm_ := Nat.mod_lt (((((n_12 * 16777216) + (n_18 * 65536)) + (n_24 * 256)) + n_30)) (show 0 < kk by omega); omega)), rfl, rfl⟩

theorem D_pick (qb : Nat) (qa : Option Addr) (qc : Nat) (ql : Str) (qp : Nat) (qs : Int) (la : Option Addr) (lc : Nat) (l : List Str) (hql : ql.length ≤ 1048576) (hqp : qp ≤ ql.length)  (hl0 : 0 < l.length) (hl1 : l.length ≤ 1000) :
    Ct Tryz.prog 259 [.pointer (some ⟨qb, 0, none⟩), .slice la l.length lc] [cb qb qa qc ql qp qs, rS la lc l] (fun w => seesC w qa qc ql [cb qb qa qc ql qp qs, rS la lc l]) (fun v A' => ∃ qp' qs' r0, qp' ≤ ql.length ∧ (r0 ∈ l) ∧ v = str r0 ∧ A' = [cb qb qa qc ql qp' qs']) := by
  refine Ct.intro Tryz.func259 rfl Tryz.ntmps259 (Nat.le_of_ble_eq_true rfl) fun w0 hpre => ?_
  have hs_qa : Sees w0 _ _ _ _ := hpre.1
  refine JC.seq ?_
  refine JC.region ?_
  refine JL.pure rfl (PO.assign (v := str []) rfl) ?_
  refine JL.nil ?_
  refine JQ.seq ?_
  refine JC.seq ?_
  refine JC.region ?_
  refine JL.pure rfl (PO.move (v := .slice la l.length lc) rfl) ?_
  refine JL.pure rfl (PO.move (v := .pointer (some ⟨qb, 0, none⟩)) rfl) ?_
  refine JL.pure rfl (PO.move (v := .slice la l.length lc) rfl) ?_
  refine JL.pure rfl (PO.lenV Tryz.underlying23 rfl) ?_
  refine JL.op rfl (JO.call [0] Tryz.call173 rfl (D_below qb qa qc ql qp qs (by omega) (by omega) ((l.length : Nat) : Int) (by omega)) rfl (fun w hw => ⟨hw.seeOut_ hs_qa (hpre.2), hw.apart hs_qa (hpre.2) (by simp)⟩)) ?_
  rintro _ _ ⟨_, ⟨qp_1, qs_2, n_4, fq_3, f_5, rfl, rfl⟩, rfl⟩
  refine JL.facts fun hst => ?_
  obtain ⟨hr_7, hr_7b, -⟩ := row_some 1 rfl (by omega) hst
  refine JL.pure rfl (PO.indexAddrV (i := n_4) Tryz.underlying23 Tryz.sizeOf9 hr_7 hr_7b rfl rfl (by omega)) ?_
  refine JL.ld rfl (LO.loadR1 1 (v := str (l.getD n_4 [])) rfl rfl Tryz.isAgg9 (atS (by omega))) ?_
  refine JL.pure rfl (PO.assign (v := str (l.getD n_4 [])) rfl) ?_
  refine JL.nil ?_
  refine JQ.seq ?_
  refine JC.ret ?_
  refine Done.one (.inl rfl) rfl (RV.tmp (v := str (l.getD n_4 [])) rfl) (List.sublist_append_left [cb qb qa qc ql qp_1 qs_2] [rS la lc l]) ?_
  exact ⟨qp_1, qs_2, (l.getD n_4 []), (by omega), (getD_mem (by omega)), rfl, rfl⟩

theorem D_pickInt (qb : Nat) (qa : Option Addr) (qc : Nat) (ql : Str) (qp : Nat) (qs : Int) (la : Option Addr) (lc : Nat) (l : List Int) (hql : ql.length ≤ 1048576) (hqp : qp ≤ ql.length)  (hl0 : 0 < l.length) (hl1 : l.length ≤ 1000) :
    Ct Tryz.prog 162 [.pointer (some ⟨qb, 0, none⟩), .slice la l.length lc] [cb qb qa qc ql qp qs, rI la lc l] (fun w => seesC w qa qc ql [cb qb qa qc ql qp qs, rI la lc l]) (fun v A' => ∃ qp' qs' r0, qp' ≤ ql.length ∧ (r0 ∈ l) ∧ v = .int .i64 r0 ∧ A' = [cb qb qa qc ql qp' qs']) := by
  refine Ct.intro Tryz.func162 rfl Tryz.ntmps162 (Nat.le_of_ble_eq_true rfl) fun w0 hpre => ?_
  have hs_qa : Sees w0 _ _ _ _ := hpre.1
  refine JC.seq ?_
  refine JC.region ?_
  refine JL.pure rfl (PO.assign (v := .int .i64 0) rfl) ?_
  refine JL.nil ?_
  refine JQ.seq ?_
  refine JC.seq ?_
  refine JC.region ?_
  refine JL.pure rfl (PO.move (v := .slice la l.length lc) rfl) ?_
  refine JL.pure rfl (PO.move (v := .pointer (some ⟨qb, 0, none⟩)) rfl) ?_
  refine JL.pure rfl (PO.move (v := .slice la l.length lc) rfl) ?_
  refine JL.pure rfl (PO.lenV Tryz.underlying70 rfl) ?_
  refine JL.op rfl (JO.call [0] Tryz.call173 rfl (D_below qb qa qc ql qp qs (by omega) (by omega) ((l.length : Nat) : Int) (by omega)) rfl (fun w hw => ⟨hw.seeOut_ hs_qa (hpre.2), hw.apart hs_qa (hpre.2) (by simp)⟩)) ?_
  rintro _ _ ⟨_, ⟨qp_1, qs_2, n_4, fq_3, f_5, rfl, rfl⟩, rfl⟩
  refine JL.facts fun hst => ?_
  obtain ⟨hr_7, hr_7b, -⟩ := row_some 1 rfl (by omega) hst
  refine JL.pure rfl (PO.indexAddrV (i := n_4) Tryz.underlying70 Tryz.sizeOf3 hr_7 hr_7b rfl rfl (by omega)) ?_
  refine JL.ld rfl (LO.loadR1 1 (v := .int .i64 (l.getD n_4 0)) rfl rfl Tryz.isAgg3 (atI (by omega))) ?_
  refine JL.pure rfl (PO.assign (v := .int .i64 (l.getD n_4 0)) rfl) ?_
  refine JL.nil ?_
  refine JQ.seq ?_
  refine JC.ret ?_
  refine Done.one (.inl rfl) rfl (RV.tmp (v := .int .i64 (l.getD n_4 0)) rfl) (List.sublist_append_left [cb qb qa qc ql qp_1 qs_2] [rI la lc l]) ?_
  exact ⟨qp_1, qs_2, (l.getD n_4 0), (by omega), (getD_mem (by omega)), rfl, rfl⟩

theorem D_new (pa : Option Addr) (pc : Nat) (p : Str) (hp : p.length ≤ 1048576)  :
    Ct Tryz.prog 157 [.slice pa p.length pc] [] (fun w => Sees w (.slice pa p.length pc) 1 p.length (p.map encB)) (fun v A' => ∃ r0 r0s, True ∧ v = .pointer (some ⟨r0, 0, none⟩) ∧ A' = [cb r0 pa pc p 0 r0s]) := by
  refine Ct.intro Tryz.func157 rfl Tryz.ntmps157 (Nat.le_of_ble_eq_true rfl) fun w0 hpre => ?_
  have hs_pa : Sees w0 _ _ _ _ := hpre
  refine JC.seq ?_
  refine JC.region ?_
  refine JL.pure rfl (PO.assign (v := .pointer none) rfl) ?_
  refine JL.nil ?_
  refine JQ.seq ?_
  refine JC.seq ?_
  refine JC.region ?_
  refine JL.pure rfl (PO.move (v := .slice pa p.length pc) rfl) ?_
  refine JL.pure rfl (PO.lenV Tryz.underlying44 rfl) ?_
  refine JL.pure rfl (PO.add (c := ((94701 + p.length : Nat) : Int)) rfl rfl (wr (by omega))) ?_
  refine JL.pure rfl (PO.assign (v := .int .i64 ((94701 + p.length : Nat) : Int)) rfl) ?_
  refine JL.nil ?_
  refine JQ.seq ?_
  refine JC.seq ?_
  refine JC.seq ?_
  refine JC.region ?_
  refine JL.pure rfl (PO.assign (v := .int .i64 0) rfl) ?_
  refine JL.nil ?_
  refine JQ.seq ?_
  refine JC.block ?_
  refine JC.loop (fun k_ e_ L_ => ∃ i_ : Nat, ∃ s_ : Int, (i_ ≤ p.length) ∧ (0 ≤ s_ ∧ s_ ≤ 1073741823) ∧ e_ 0 = .slice pa p.length pc ∧ e_ 2 = .pointer none ∧ e_ 3 = .int .i64 s_ ∧ e_ 4 = .int .i64 ((i_ : Nat) : Int) ∧ L_ = [] ∧ k_ = 1048577 - i_) _ ⟨0, ((94701 + p.length : Nat) : Int), (by omega), (by omega), rfl, rfl, rfl, rfl, rfl, rfl⟩ ?_
  rintro _ e_1 _ ⟨i_, s_, hi, hs, he_2, he_3, he_4, he_5, rfl, rfl⟩
  refine JC.seq ?_
  refine JC.seq ?_
  refine JC.region ?_
  refine JL.pure rfl (PO.move (v := .int .i64 ((i_ : Nat) : Int)) he_5) ?_
  refine JL.pure rfl (PO.move (v := .slice pa p.length pc) he_2) ?_
  refine JL.pure rfl (PO.lenV Tryz.underlying44 rfl) ?_
  refine JL.pure rfl (PO.lss rfl rfl) ?_
  refine JL.pure rfl (PO.move (v := .bool (decide (((i_ : Nat) : Int) < ((p.length : Nat) : Int)))) rfl) ?_
  by_cases h_6 : ((i_ : Nat) : Int) < ((p.length : Nat) : Int)
  · skip
    have hu8 := UInt8.toNat_lt (p.getD i_ 0)
    refine JL.guardOn rfl rfl rfl (congrArg Value.bool (decide_eq_true h_6)) (JO.ofLO (LO.pure (PO.move (v := .int .i64 ((i_ : Nat) : Int)) he_5))) ?_
    rintro _ _ ⟨rfl, rfl⟩
    refine JL.guardOn rfl rfl rfl (congrArg Value.bool (decide_eq_true h_6)) (JO.ofLO (LO.pure (PO.lss rfl rfl))) ?_
    rintro _ _ ⟨rfl, rfl⟩
    refine JL.pure rfl (PO.pickT (v := .bool (decide (((i_ : Nat) : Int) < 4000))) (congrArg Value.bool (decide_eq_true h_6)) rfl) ?_
    refine JL.nil ?_
    refine JQ.seq ?_
    by_cases h_7 : ((i_ : Nat) : Int) < 4000
    · skip
      refine JC.condT (congrArg Value.bool (decide_eq_true h_7)) ?_
      refine JC.skip ?_
      refine JQ.seq ?_
      refine JC.seq ?_
      refine JC.block ?_
      refine JC.region ?_
      refine JL.pure rfl (PO.move (v := .int .i64 s_) he_4) ?_
      refine JL.pure rfl (PO.mul (c := s_ * 131) rfl rfl (wr (by omega))) ?_
      refine JL.pure rfl (PO.move (v := .slice pa p.length pc) he_2) ?_
      refine JL.pure rfl (PO.move (v := .int .i64 ((i_ : Nat) : Int)) he_5) ?_
      obtain ⟨hr_8, hr_8b, -⟩ := sees_some hs_pa (by omega)
      refine JL.pure rfl (PO.indexAddrV (i := i_) Tryz.underlying44 Tryz.sizeOf5 hr_8 hr_8b rfl rfl (by omega)) ?_
      refine JL.ld rfl (LO.loadS1 (v := .int .u8 (((p.getD i_ 0).toNat : Nat) : Int)) hs_pa (fun _ _ => List.not_mem_nil) rfl Tryz.isAgg5 (atB (by omega))) ?_
      refine JL.pure rfl (PO.convI (c := (((p.getD i_ 0).toNat : Nat) : Int)) Tryz.underlying5 Tryz.underlying3 rfl (wr (by omega))) ?_
      refine JL.pure rfl (PO.add (c := (s_ * 131) + (((p.getD i_ 0).toNat : Nat) : Int)) rfl rfl (wr (by omega))) ?_
      refine JL.pure rfl (PO.add (c := ((s_ * 131) + (((p.getD i_ 0).toNat : Nat) : Int)) + 7) rfl rfl (wr (by omega))) ?_
      refine JL.pure rfl (PO.bits (by simp) rfl rfl) ?_
      refine JL.pure rfl (PO.assign (v := .int .i64 (Go.bits .and .i64 (((s_ * 131) + (((p.getD i_ 0).toNat : Nat) : Int)) + 7) 1073741823)) rfl) ?_
      refine JL.nil ?_
      refine JQ.blockN ?_
      refine JQ.seq ?_
      refine JC.region ?_
      refine JL.pure rfl (PO.move (v := .int .i64 ((i_ : Nat) : Int)) he_5) ?_
      refine JL.pure rfl (PO.add (c := ((i_ + 1 : Nat) : Int)) rfl rfl (wr (by omega))) ?_
      refine JL.pure rfl (PO.assign (v := .int .i64 ((i_ + 1 : Nat) : Int)) rfl) ?_
      refine JL.nil ?_
      refine JQ.pick [] (A := []) rfl ?_
      refine JQ.again (1048577 - (i_ + 1)) (by omega) ⟨(i_ + 1), (Go.bits .and .i64 (((s_ * 131) + (((p.getD i_ 0).toNat : Nat) : Int)) + 7) 1073741823), (by omega), (and_bnd _ _ (by decide) (by decide)), he_2, he_3, rfl, rfl, rfl, rfl⟩
    · skip
      refine JC.condF (congrArg Value.bool (decide_eq_false h_7)) ?_
      refine JC.exit ?_
      refine JQ.thenExit ?_
      refine JQ.thenExit ?_
      refine JQ.blockE ?_
      refine JQ.seq ?_
      refine JC.seq ?_
      refine JC.region ?_
      refine JL.pure rfl (PO.move (v := .slice pa p.length pc) he_2) ?_
      refine JL.pure rfl (PO.move (v := .int .i64 s_) he_4) ?_
      refine JL.pure rfl (PO.build (ps := [(0, .slice pa p.length pc), (2, .int .i64 s_)]) (cs := [.slice pa p.length pc, .int .i64 0, .int .i64 s_]) rfl (by kernel_rfl)) ?_
      refine JL.op rfl (JO.box (cs := [.slice pa p.length pc, .int .i64 0, .int .i64 s_]) rfl rfl) ?_
      rintro _ _ ⟨b_9, rfl, rfl⟩
      refine JL.pure rfl (PO.assign (v := .pointer (some ⟨b_9, 0, none⟩)) rfl) ?_
      refine JL.nil ?_
      refine JQ.seq ?_
      refine JC.ret ?_
      refine Done.one (.inl rfl) rfl (RV.tmp (v := .pointer (some ⟨b_9, 0, none⟩)) rfl) (List.Sublist.refl _) ?_
      exact ⟨b_9, s_, trivial, rfl, rfl⟩
  · skip
    refine JL.guardOff (b := false) rfl rfl rfl (congrArg Value.bool (decide_eq_false h_6)) ?_
    refine JL.guardOff (b := false) rfl rfl rfl (congrArg Value.bool (decide_eq_false h_6)) ?_
    refine JL.pure rfl (PO.pickF (v := .bool false) (congrArg Value.bool (decide_eq_false h_6)) rfl) ?_
    refine JL.nil ?_
    refine JQ.seq ?_
    refine JC.condF (congrArg Value.bool rfl) ?_
    refine JC.exit ?_
    refine JQ.thenExit ?_
    refine JQ.thenExit ?_
    refine JQ.blockE ?_
    refine JQ.seq ?_
    refine JC.seq ?_
    refine JC.region ?_
    refine JL.pure rfl (PO.move (v := .slice pa p.length pc) he_2) ?_
    refine JL.pure rfl (PO.move (v := .int .i64 s_) he_4) ?_
    refine JL.pure rfl (PO.build (ps := [(0, .slice pa p.length pc), (2, .int .i64 s_)]) (cs := [.slice pa p.length pc, .int .i64 0, .int .i64 s_]) rfl (by kernel_rfl)) ?_
    refine JL.op rfl (JO.box (cs := [.slice pa p.length pc, .int .i64 0, .int .i64 s_]) rfl rfl) ?_
    rintro _ _ ⟨b_10, rfl, rfl⟩
    refine JL.pure rfl (PO.assign (v := .pointer (some ⟨b_10, 0, none⟩)) rfl) ?_
    refine JL.nil ?_
    refine JQ.seq ?_
    refine JC.ret ?_
    refine Done.one (.inl rfl) rfl (RV.tmp (v := .pointer (some ⟨b_10, 0, none⟩)) rfl) (List.Sublist.refl _) ?_
    exact ⟨b_10, s_, trivial, rfl, rfl⟩

end Go.Proofs.YtenfajgpdhgknaaGreatDoor

set_option linter.unusedSimpArgs false
set_option linter.unusedVariables false
set_option linter.unnecessarySimpa false
namespace Go.Proofs.YtenfajgpdhgknaaGreatDoor
open Go Go.RowKit

def MS.empty : MS := ⟨[], [], []⟩
theorem getKey_app {key : Str} : ∀ (a b : List Cell), (∀ c ∈ a, ¬ c.1 = key) → getKey (a ++ b) key = getKey b key
  | [], b, _ => rfl
  | c :: a, b, h => by
    rw [List.cons_append, getKey, if_neg (h c (List.mem_cons_self ..)), getKey_app a b (fun d hd => h d (List.mem_cons_of_mem _ hd))]
theorem getKey_ins {key val : Str} {f : List Cell} (h : ∀ c ∈ f, ¬ c.1 = key) (i : Nat) : getKey (insertAt i (key, val) f) key = val := by
  unfold insertAt
  first
  | (rw [List.append_assoc, getKey_app _ _ (fun c hc => h c (List.mem_of_mem_take hc)), List.cons_append, getKey, if_pos rfl])
  | (rw [getKey_app _ _ (fun c hc => h c (List.mem_of_mem_take hc)), getKey, if_pos rfl])
theorem getKey_put {s : List Cell} {key val : Str} (hk : keyOk key = true) (hv : ¬ val = []) (hl : val.length ≤ 60) : getKey (putKey s key val) key = val := by
  unfold putKey
  rw [hk, decide_eq_false (by omega)]
  simp only [Bool.not_true, Bool.false_or, Bool.or_false, Bool.false_eq_true, if_false, if_neg hv]
  exact getKey_ins (fun c hc => by simpa using (List.mem_filter.1 hc).2) _
theorem numOf_decF : ∀ k : Fin 1000, numOf (dec ((k.val : Nat) : Int)) = ((k.val : Nat) : Int) ∧ (k.val = 0 ∨ ¬ dec ((k.val : Nat) : Int) = []) := by decide +kernel
theorem numOf_dec {n : Int} (h0 : 1 ≤ n) (h1 : n ≤ 999) : numOf (dec n) = n ∧ ¬ dec n = [] := by
  have := numOf_decF ⟨n.toNat, by omega⟩
  simp only at this
  rw [Int.toNat_of_nonneg (by omega)] at this
  exact ⟨this.1, this.2.resolve_left (by omega)⟩
theorem num_setNum {m m1 m2 : MS} {key : Str} {n n2 : Int} (hk : keyOk key = true) (h0 : 1 ≤ n) (h1 : n ≤ 999) (e1 : m.setNum key n = m1) (e2 : m1.num key = (m2, n2)) : n2 = n := by
  subst e1
  obtain ⟨hn, hne⟩ := numOf_dec h0 h1
  have hl := dec_len21 (n := n) (by omega) (by omega)
  have h3 : numOf (getKey (putKey m.s key (dec n)) key) = n2 := by
    have h4 := congrArg Prod.snd e2
    unfold MS.setNum at h4
    rw [if_pos ⟨h0, h1⟩] at h4
    exact h4
  rw [getKey_put hk hne (by omega), hn] at h3
  exact h3.symm
end Go.Proofs.YtenfajgpdhgknaaGreatDoor

set_option linter.unusedSimpArgs false
set_option linter.unusedVariables false
set_option linter.unnecessarySimpa false
namespace Go.Proofs.YtenfajgpdhgknaaGreatDoor
open Go Go.RowKit
theorem Ct.toMach {P : Program} {f : FuncId} {args : List Value} {A : List Res} {Pre : World → Prop} {s : List Cell} {n : Nat} (h : Ct P f args A Pre (fun v A' => ∃ a c, v = .agg #[.slice a s.length c, .slice none 0 0, .slice none 0 0] ∧ A' = [rC a c s])) (hO : okC' n 64 s) :
    Ct P f args A Pre (fun v A' => ∃ r0x r0, (fun s => (⟨s, [], []⟩ : MS)) s = r0 ∧ r0.ok n 0 ∧ v = mv r0x r0 ∧ A' = mr r0x r0) := fun w hA hp => by
  refine (h w hA hp).mono fun e w' h => ?_
  obtain ⟨v, A', rfl, ⟨a, c, rfl, rfl⟩, hst⟩ := h
  refine ⟨_, mr ⟨a, c, none, 0, none, 0⟩ ⟨s, [], []⟩, rfl, ⟨⟨a, c, none, 0, none, 0⟩, _, rfl, ⟨hO.1, Nat.le_refl _, Nat.le_refl _, fun c hc => ⟨Nat.le_trans (hO.2 c hc).1 (by decide), Nat.le_trans (hO.2 c hc).2 (by decide)⟩⟩, rfl, rfl⟩, ?_⟩
  exact ((hst.nilRow 9 1).nilRow 9 1).perm (List.perm_append_comm (l₁ := [rS none 0 [], rS none 0 []]) (l₂ := [rC a c s])).symm
attribute [local irreducible] JL JC JQ JO LO PO JA JX Ct

theorem D_machOf0 (sa : Option Addr) (sc : Nat) (s : List Cell) (hs : s.length ≤ 1000000000) :
    Ct Tryz.prog 147 [.slice sa s.length sc] [] (fun w => Sees w (.slice sa s.length sc) 2 s.length (s.flatMap encC)) (fun v A' => ∃ a c, v = .agg #[.slice a s.length c, .slice none 0 0, .slice none 0 0] ∧ A' = [rC a c s]) := by
  refine Ct.intro Tryz.func147 rfl Tryz.ntmps147 (Nat.le_of_ble_eq_true rfl) fun w0 hpre => ?_
  have hs_sa : Sees w0 _ _ _ _ := hpre
  refine JC.seq ?_
  refine JC.region ?_
  refine JL.op rfl (JO.alloc (z := .agg #[.slice none 0 0, .slice none 0 0, .slice none 0 0]) (cs := [.slice none 0 0, .slice none 0 0, .slice none 0 0]) Tryz.zeroValue32 rfl) ?_
  rintro _ _ ⟨b_1, rfl, rfl⟩
  refine JL.nil ?_
  refine JQ.seq ?_
  refine JC.seq ?_
  refine JC.region ?_
  refine JL.op rfl (JO.buildSlice (ps := []) (cur := #[]) Tryz.underlying29 Tryz.sizeOf113 Tryz.zeroValue113 rfl (by kernel_rfl) (by decide) (by decide)) ?_
  rintro _ _ ⟨a_2, rfl, rfl⟩
  refine JL.pure rfl (PO.move (v := .slice sa s.length sc) rfl) ?_
  refine JL.op rfl (JO.append' 0 (q := s.length) (news := s.flatMap encC) (n' := s.length) (cs' := s.flatMap encC) rfl Tryz.underlying29 Tryz.underlying29 Tryz.typeInfo113 rfl (by' := 32) rfl rfl rfl rfl rfl (fun w hw => Src.sees (hw.seeOut_ hs_sa (fun _ _ => List.not_mem_nil)) (oneC _)) (by (try simp only [List.length_append, List.length_cons, List.length_nil, List.length_take, List.length_drop]); omega) (by (try simp only [List.length_append, List.length_cons, List.length_nil, List.length_take, List.length_drop]); omega) (by (try simp only [List.length_take, List.length_drop]); first | rfl | omega) rfl) ?_
  rintro _ _ ⟨a_3, c_4, rfl, rfl⟩
  refine JL.pure rfl (PO.build (ps := [(0, .slice a_3 s.length c_4)]) (cs := [.slice a_3 s.length c_4, .slice none 0 0, .slice none 0 0]) rfl (by kernel_rfl)) ?_
  refine JL.op rfl (JO.store 1 (vs := [.slice a_3 s.length c_4, .slice none 0 0, .slice none 0 0]) (cs' := [.slice a_3 s.length c_4, .slice none 0 0, .slice none 0 0]) rfl rfl rfl rfl Tryz.sizeOf32 rfl rfl (Nat.le_of_ble_eq_true rfl) rfl) ?_
  rintro _ _ rfl
  refine JL.nil ?_
  refine JQ.seq ?_
  refine JC.ret ?_
  refine Done.one (.inl rfl) rfl (RV.cell1 (LO.loadK 1 (vs := [.slice a_3 s.length c_4, .slice none 0 0, .slice none 0 0]) rfl rfl Tryz.isAgg32 Tryz.sizeOf32 rfl rfl) ⟨_, rfl⟩) (List.sublist_append_left [rC a_3 c_4 s] [bk b_1 32 [.slice a_3 s.length c_4, .slice none 0 0, .slice none 0 0]]) ?_
  exact ⟨a_3, c_4, rfl, rfl⟩

theorem D_machOf (sa : Option Addr) (sc : Nat) (s : List Cell) (hs : s.length ≤ 1000000000) (n : Nat) (hO : okC' n 64 s) :
    Ct Tryz.prog 147 [.slice sa s.length sc] [] (fun w => Sees w (.slice sa s.length sc) 2 s.length (s.flatMap encC)) (fun v A' => ∃ r0x r0, (fun s => (⟨s, [], []⟩ : MS)) s = r0 ∧ r0.ok n 0 ∧ v = mv r0x r0 ∧ A' = mr r0x r0) := (D_machOf0 sa sc s hs).toMach hO

theorem D_base  :
    Ct Tryz.prog 36 [] [] (fun _ => True) (fun v A' => ∃ r0x r0, MS.empty = r0 ∧ r0.ok (0) (0) ∧ v = mv r0x r0 ∧ A' = mr r0x r0) := by
  refine Ct.intro Tryz.func36 rfl Tryz.ntmps36 (Nat.le_of_ble_eq_true rfl) fun w0 hpre => ?_
  refine JC.seq ?_
  refine JC.region ?_
  refine JL.op rfl (JO.alloc (z := .agg #[.slice none 0 0, .slice none 0 0, .slice none 0 0]) (cs := [.slice none 0 0, .slice none 0 0, .slice none 0 0]) Tryz.zeroValue32 rfl) ?_
  rintro _ _ ⟨b_1, rfl, rfl⟩
  refine JL.nil ?_
  refine JQ.seq ?_
  refine JC.seq ?_
  refine JC.region ?_
  refine JL.op rfl (JO.buildSlice (ps := []) (cur := #[]) Tryz.underlying29 Tryz.sizeOf113 Tryz.zeroValue113 rfl (by kernel_rfl) (by decide) (by decide)) ?_
  rintro _ _ ⟨a_2, rfl, rfl⟩
  refine JL.op rfl (JO.call [] Tryz.call147 rfl (D_machOf a_2 0 ([] : List Cell) (by first | omega | simp) 0 ⟨by simp, fun c hc => by cases hc⟩) rfl (fun w hw => hw.see (i := 0) rfl)) ?_
  rintro _ _ ⟨_, ⟨x_3, m_4, e_6, k_5, rfl, rfl⟩, rfl⟩
  refine JL.op rfl (JO.store 4 (vs := [.slice x_3.a0 m_4.s.length x_3.c0, .slice x_3.a1 m_4.r.length x_3.c1, .slice x_3.a2 m_4.w.length x_3.c2]) (cs' := [.slice x_3.a0 m_4.s.length x_3.c0, .slice x_3.a1 m_4.r.length x_3.c1, .slice x_3.a2 m_4.w.length x_3.c2]) rfl rfl rfl rfl Tryz.sizeOf32 rfl rfl (Nat.le_of_ble_eq_true rfl) rfl) ?_
  rintro _ _ rfl
  refine JL.nil ?_
  refine JQ.seq ?_
  refine JC.ret ?_
  refine Done.one (.inl rfl) rfl (RV.cell1 (LO.loadK 4 (vs := [.slice x_3.a0 m_4.s.length x_3.c0, .slice x_3.a1 m_4.r.length x_3.c1, .slice x_3.a2 m_4.w.length x_3.c2]) rfl rfl Tryz.isAgg32 Tryz.sizeOf32 rfl rfl) ⟨_, rfl⟩) (List.sublist_append_left [rC x_3.a0 x_3.c0 m_4.s, rS x_3.a1 x_3.c1 m_4.r, rS x_3.a2 x_3.c2 m_4.w] [Res.row (.slice a_2 0 0) 113 2 0 (([] : List Cell).flatMap encC), mb b_1 x_3 m_4]) ?_
  exact ⟨x_3, m_4, (by simp only [MS.empty, e_6, if_true, if_false, Bool.false_eq_true, Bool.not_true, Bool.not_false]; (repeat (first | rw [if_pos (by omega)] | rw [if_neg (by omega)])); all_goals (first | rfl | simp only [if_true, if_false, Bool.false_eq_true, Bool.not_true, Bool.not_false, e_6])), (k_5.mono (by omega) (by omega)), rfl, rfl⟩

end Go.Proofs.YtenfajgpdhgknaaGreatDoor

set_option linter.unusedSimpArgs false
set_option linter.unusedVariables false
set_option linter.unnecessarySimpa false
namespace Go.Proofs.YtenfajgpdhgknaaGreatDoor
open Go Go.RowKit
theorem cellUnder : Tryz.prog.underlying 113 = some (.struct (Tryz.prog.fieldsOf 113)) := by kernel_rfl
section
variable {n : Nat} {e : Env} {d : Option Tmp} {ty : TypeId} {pos : String} {aft : Array Edge} {gd : Option (Nat × Bool)}
theorem PO.neqCell {x y : Operand} {a b : Cell} {u : TypeId} (hx : rd n e x = .agg #[str a.1, str a.2]) (hy : rd n e y = .agg #[str b.1, str b.2]) : PO Tryz.prog n e ⟨d, .binOp .neq 113 x y u, ty, pos, aft, gd⟩ (.bool (!decide (a = b))) := fun w => by
  have he : (Op.equalIn 10000 113 (.agg #[str a.1, str a.2]) (.agg #[str b.1, str b.2])).run Tryz.prog w = .ok (decide (a = b)) w := by
    rw [run_equalIn_struct w 9999 113 _ _ cellUnder Tryz.stoodInHeld113]
    rw [show (Tryz.prog.fieldsOf 113).toList = [⟨ "Key", 9, 0, false, "", "", 0⟩, ⟨ "Val", 9, 1, false, "", "", 16⟩] by kernel_rfl]
    have e1 : (Op.equalIn 9999 9 (str a.1) (str b.1)).run Tryz.prog w = .ok (decide (a.1 = b.1)) w := by
      simp only [str]
      rw [run_equalIn_string w 9998 9 _ _ Tryz.underlying9]
      simp [beq_dec]
    have e2 : (Op.equalIn 9999 9 (str a.2) (str b.2)).run Tryz.prog w = .ok (decide (a.2 = b.2)) w := by
      simp only [str]
      rw [run_equalIn_string w 9998 9 _ _ Tryz.underlying9]
      simp [beq_dec]
    have p1 : ∀ c : Cell, (part 9 #[str c.1, str c.2] 0).run Tryz.prog w = .ok (str c.1) w := fun c => by simp [part, str]
    have p2 : ∀ c : Cell, (part 9 #[str c.1, str c.2] 1).run Tryz.prog w = .ok (str c.2) w := fun c => by simp [part, str]
    simp only [Op.eqFields, Sem.run_bind, p1, p2, e1, e2, Result.andThen_ok, ne_eq, Sem.run_ite, Sem.run_pure]
    obtain ⟨a1, a2⟩ := a
    obtain ⟨b1, b2⟩ := b
    by_cases h1 : a1 = b1 <;> by_cases h2 : a2 = b2 <;> simp [h1, h2, Prod.mk.injEq]

  simp only [execOp, hx, hy, Sem.run_bind, run_eqGuard_agg w .neq 113 x y _ _ Tryz.eqGuardType113, Result.andThen_ok, run_neq_struct, he, Sem.run_pure]
end
attribute [local irreducible] JL JC JQ JO LO PO JA JX Ct

theorem C_sameCells (a b : Option Addr) (c c' : Nat) (s t : List Cell) (hn : s.length ≤ 9223372036854775807) :
    Ct Tryz.prog 37 [.slice a s.length c, .slice b t.length c'] [] (fun w => Sees w (.slice a s.length c) 2 s.length (s.flatMap encC) ∧ Sees w (.slice b t.length c') 2 t.length (t.flatMap encC)) (fun r A' => r = .bool (decide (s = t)) ∧ A' = []) := by
  refine Ct.intro Tryz.func37 rfl Tryz.ntmps37 (Nat.le_of_ble_eq_true rfl) fun w0 hpre => ?_
  have hs_a : Sees w0 _ _ _ _ := hpre.1
  have hs_b : Sees w0 _ _ _ _ := hpre.2
  refine JC.seq ?_
  refine JC.region ?_
  refine JL.pure rfl (PO.assign (v := .bool false) rfl) ?_
  refine JL.nil ?_
  refine JQ.seq ?_
  refine JC.seq ?_
  refine JC.seq ?_
  refine JC.region ?_
  refine JL.pure rfl (PO.move (v := .slice a s.length c) rfl) ?_
  refine JL.pure rfl (PO.lenV Tryz.underlying29 rfl) ?_
  refine JL.pure rfl (PO.move (v := .slice b t.length c') rfl) ?_
  refine JL.pure rfl (PO.lenV Tryz.underlying29 rfl) ?_
  refine JL.pure rfl (PO.neqI rfl rfl) ?_
  refine JL.nil ?_
  refine JQ.seq ?_
  by_cases h_1 : ((s.length : Nat) : Int) = ((t.length : Nat) : Int)
  · skip
    have hlen := h_1
    refine JC.condF (congrArg Value.bool (congrArg Bool.not (decide_eq_true h_1))) ?_
    refine JC.skip ?_
    refine JQ.seq ?_
    refine JC.seq ?_
    refine JC.seq ?_
    refine JC.region ?_
    refine JL.pure rfl (PO.assign (v := .int .i64 0) rfl) ?_
    refine JL.nil ?_
    refine JQ.seq ?_
    refine JC.block ?_
    refine JC.loop (fun k_ e_ L_ => ∃ j : Nat, (j ≤ s.length) ∧ (s.take j = t.take j) ∧ (s.length = t.length) ∧ e_ 0 = .slice a s.length c ∧ e_ 1 = .slice b t.length c' ∧ e_ 5 = .int .i64 ((j : Nat) : Int) ∧ L_ = [] ∧ k_ = s.length - j) _ ⟨0, by omega, rfl, by omega, rfl, rfl, rfl, rfl, rfl⟩ ?_
    rintro _ e_2 _ ⟨j, hj, hE, hln, he_3, he_4, he_5, rfl, rfl⟩
    refine JC.seq ?_
    refine JC.seq ?_
    refine JC.region ?_
    refine JL.pure rfl (PO.move (v := .int .i64 ((j : Nat) : Int)) he_5) ?_
    refine JL.pure rfl (PO.move (v := .slice a s.length c) he_3) ?_
    refine JL.pure rfl (PO.lenV Tryz.underlying29 rfl) ?_
    refine JL.pure rfl (PO.lss rfl rfl) ?_
    refine JL.nil ?_
    refine JQ.seq ?_
    by_cases h_6 : ((j : Nat) : Int) < ((s.length : Nat) : Int)
    · skip
      have hlt : j < s.length := by omega
      refine JC.condT (congrArg Value.bool (decide_eq_true h_6)) ?_
      refine JC.skip ?_
      refine JQ.seq ?_
      refine JC.seq ?_
      refine JC.block ?_
      refine JC.seq ?_
      refine JC.regionA [] 8 mixed (by simp) ?_
      refine JA.takeP 0 rfl (by kernel_rfl) (NP.th (NP.bl (NP.th (NP.th (NP.bl (NP.th NP.body)))))) (by kernel_rfl) (by kernel_rfl) rfl (PO.move (v := .slice a s.length c) he_3) ?_
      refine JA.takeP 1 rfl (by kernel_rfl) (NP.th (NP.bl (NP.th (NP.th (NP.bl (NP.th NP.body)))))) (by kernel_rfl) (by kernel_rfl) rfl (PO.move (v := .int .i64 ((j : Nat) : Int)) he_5) ?_
      obtain ⟨hr_7, hr_7b, -⟩ := sees_some hs_a (by omega)
      refine JA.takeP 2 rfl (by kernel_rfl) (NP.th (NP.bl (NP.th (NP.th (NP.bl (NP.th NP.body)))))) (by kernel_rfl) (by kernel_rfl) rfl (PO.indexAddrV (i := j) Tryz.underlying29 Tryz.sizeOf113 hr_7 hr_7b rfl rfl (by omega)) ?_
      refine JA.take 3 rfl (by kernel_rfl) (NP.th (NP.bl (NP.th (NP.th (NP.bl (NP.th NP.body)))))) (by kernel_rfl) (by kernel_rfl) (by kernel_rfl) rfl (LO.loadSK (vs := [str ((s.getD j c0).1), str ((s.getD j c0).2)]) hs_a (fun _ _ => List.not_mem_nil) rfl Tryz.isAgg113 Tryz.sizeOf113 (atC (by omega)) rfl (by decide)) ?_
      refine JA.takeP 4 rfl (by kernel_rfl) (NP.th (NP.bl (NP.th (NP.th (NP.bl (NP.th NP.body)))))) (by kernel_rfl) (by kernel_rfl) rfl (PO.move (v := .slice b t.length c') he_4) ?_
      refine JA.takeP 5 rfl (by kernel_rfl) (NP.th (NP.bl (NP.th (NP.th (NP.bl (NP.th NP.body)))))) (by kernel_rfl) (by kernel_rfl) rfl (PO.move (v := .int .i64 ((j : Nat) : Int)) he_5) ?_
      obtain ⟨hr_8, hr_8b, -⟩ := sees_some hs_b (by omega)
      refine JA.takeP 6 rfl (by kernel_rfl) (NP.th (NP.bl (NP.th (NP.th (NP.bl (NP.th NP.body)))))) (by kernel_rfl) (by kernel_rfl) rfl (PO.indexAddrV (i := j) Tryz.underlying29 Tryz.sizeOf113 hr_8 hr_8b rfl rfl (by omega)) ?_
      refine JA.take 7 rfl (by kernel_rfl) (NP.th (NP.bl (NP.th (NP.th (NP.bl (NP.th NP.body)))))) (by kernel_rfl) (by kernel_rfl) (by kernel_rfl) rfl (LO.loadSK (vs := [str ((t.getD j c0).1), str ((t.getD j c0).2)]) hs_b (fun _ _ => List.not_mem_nil) rfl Tryz.isAgg113 Tryz.sizeOf113 (atC (by omega)) rfl (by decide)) ?_
      refine JA.takeP 8 rfl (by kernel_rfl) (NP.th (NP.bl (NP.th (NP.th (NP.bl (NP.th NP.body)))))) (by kernel_rfl) (by kernel_rfl) rfl (PO.neqCell (a := s.getD j c0) (b := t.getD j c0) rfl rfl) ?_
      refine JA.done (by kernel_rfl) ?_
      refine JQ.seq ?_
      by_cases h_9 : s.getD j c0 = t.getD j c0
      · skip
        have heq := h_9
        refine JC.condF (congrArg Value.bool (congrArg Bool.not (decide_eq_true h_9))) ?_
        refine JC.skip ?_
        refine JQ.blockN ?_
        refine JQ.seq ?_
        refine JC.region ?_
        refine JL.pure rfl (PO.move (v := .int .i64 ((j : Nat) : Int)) he_5) ?_
        refine JL.pure rfl (PO.add (c := ((j + 1 : Nat) : Int)) rfl rfl (wr (by omega))) ?_
        refine JL.pure rfl (PO.assign (v := .int .i64 ((j + 1 : Nat) : Int)) rfl) ?_
        refine JL.nil ?_
        refine JQ.again (s.length - (j + 1)) (by omega) ⟨j + 1, by omega, take_succ_eq c0 hE hlt hln heq, hln, he_3, he_4, rfl, rfl, rfl⟩
      · skip
        have hne := h_9
        refine JC.condT (congrArg Value.bool (congrArg Bool.not (decide_eq_false h_9))) ?_
        refine JC.seq ?_
        refine JC.region ?_
        refine JL.pure rfl (PO.assign (v := .bool false) rfl) ?_
        refine JL.nil ?_
        refine JQ.seq ?_
        refine JC.ret ?_
        refine JQ.blockRet ?_
        refine JQ.thenRet ?_
        refine JQ.thenRet ?_
        refine JQ.blockRet ?_
        refine JQ.thenRet ?_
        refine Done.one (.inl rfl) rfl (RV.tmp (v := .bool false) rfl) (List.nil_sublist _) ?_
        refine ⟨?_, rfl⟩
        rw [decide_eq_false (fun h => hne (by rw [h]))]
    · skip
      refine JC.condF (congrArg Value.bool (decide_eq_false h_6)) ?_
      refine JC.exit ?_
      refine JQ.thenExit ?_
      refine JQ.thenExit ?_
      refine JQ.blockE ?_
      refine JQ.seq ?_
      refine JC.seq ?_
      refine JC.region ?_
      refine JL.pure rfl (PO.assign (v := .bool true) rfl) ?_
      refine JL.nil ?_
      refine JQ.seq ?_
      refine JC.ret ?_
      refine Done.one (.inl rfl) rfl (RV.tmp (v := .bool true) rfl) (List.nil_sublist _) ?_
      refine ⟨?_, rfl⟩
      rw [decide_eq_true (take_all_eq hE (by omega) (by omega))]
  · skip
    have hlen := h_1
    refine JC.condT (congrArg Value.bool (congrArg Bool.not (decide_eq_false h_1))) ?_
    refine JC.seq ?_
    refine JC.region ?_
    refine JL.pure rfl (PO.assign (v := .bool false) rfl) ?_
    refine JL.nil ?_
    refine JQ.seq ?_
    refine JC.ret ?_
    refine JQ.thenRet ?_
    refine Done.one (.inl rfl) rfl (RV.tmp (v := .bool false) rfl) (List.nil_sublist _) ?_
    refine ⟨?_, rfl⟩
    rw [decide_eq_false (fun h => by rw [h] at hlen; omega)]

theorem C_sameTexts (a b : Option Addr) (c c' : Nat) (s t : List Str) (hn : s.length ≤ 9223372036854775807) :
    Ct Tryz.prog 51 [.slice a s.length c, .slice b t.length c'] [] (fun w => Sees w (.slice a s.length c) 1 s.length (s.map str) ∧ Sees w (.slice b t.length c') 1 t.length (t.map str)) (fun r A' => r = .bool (decide (s = t)) ∧ A' = []) := by
  refine Ct.intro Tryz.func51 rfl Tryz.ntmps51 (Nat.le_of_ble_eq_true rfl) fun w0 hpre => ?_
  have hs_a : Sees w0 _ _ _ _ := hpre.1
  have hs_b : Sees w0 _ _ _ _ := hpre.2
  refine JC.seq ?_
  refine JC.region ?_
  refine JL.pure rfl (PO.assign (v := .bool false) rfl) ?_
  refine JL.nil ?_
  refine JQ.seq ?_
  refine JC.seq ?_
  refine JC.seq ?_
  refine JC.region ?_
  refine JL.pure rfl (PO.move (v := .slice a s.length c) rfl) ?_
  refine JL.pure rfl (PO.lenV Tryz.underlying23 rfl) ?_
  refine JL.pure rfl (PO.move (v := .slice b t.length c') rfl) ?_
  refine JL.pure rfl (PO.lenV Tryz.underlying23 rfl) ?_
  refine JL.pure rfl (PO.neqI rfl rfl) ?_
  refine JL.nil ?_
  refine JQ.seq ?_
  by_cases h_1 : ((s.length : Nat) : Int) = ((t.length : Nat) : Int)
  · skip
    have hlen := h_1
    refine JC.condF (congrArg Value.bool (congrArg Bool.not (decide_eq_true h_1))) ?_
    refine JC.skip ?_
    refine JQ.seq ?_
    refine JC.seq ?_
    refine JC.seq ?_
    refine JC.region ?_
    refine JL.pure rfl (PO.assign (v := .int .i64 0) rfl) ?_
    refine JL.nil ?_
    refine JQ.seq ?_
    refine JC.block ?_
    refine JC.loop (fun k_ e_ L_ => ∃ j : Nat, (j ≤ s.length) ∧ (s.take j = t.take j) ∧ (s.length = t.length) ∧ e_ 0 = .slice a s.length c ∧ e_ 1 = .slice b t.length c' ∧ e_ 5 = .int .i64 ((j : Nat) : Int) ∧ L_ = [] ∧ k_ = s.length - j) _ ⟨0, by omega, rfl, by omega, rfl, rfl, rfl, rfl, rfl⟩ ?_
    rintro _ e_2 _ ⟨j, hj, hE, hln, he_3, he_4, he_5, rfl, rfl⟩
    refine JC.seq ?_
    refine JC.seq ?_
    refine JC.region ?_
    refine JL.pure rfl (PO.move (v := .int .i64 ((j : Nat) : Int)) he_5) ?_
    refine JL.pure rfl (PO.move (v := .slice a s.length c) he_3) ?_
    refine JL.pure rfl (PO.lenV Tryz.underlying23 rfl) ?_
    refine JL.pure rfl (PO.lss rfl rfl) ?_
    refine JL.nil ?_
    refine JQ.seq ?_
    by_cases h_6 : ((j : Nat) : Int) < ((s.length : Nat) : Int)
    · skip
      have hlt : j < s.length := by omega
      refine JC.condT (congrArg Value.bool (decide_eq_true h_6)) ?_
      refine JC.skip ?_
      refine JQ.seq ?_
      refine JC.seq ?_
      refine JC.block ?_
      refine JC.seq ?_
      refine JC.regionA [] 8 mixed (by simp) ?_
      refine JA.takeP 0 rfl (by kernel_rfl) (NP.th (NP.bl (NP.th (NP.th (NP.bl (NP.th NP.body)))))) (by kernel_rfl) (by kernel_rfl) rfl (PO.move (v := .slice a s.length c) he_3) ?_
      refine JA.takeP 1 rfl (by kernel_rfl) (NP.th (NP.bl (NP.th (NP.th (NP.bl (NP.th NP.body)))))) (by kernel_rfl) (by kernel_rfl) rfl (PO.move (v := .int .i64 ((j : Nat) : Int)) he_5) ?_
      obtain ⟨hr_7, hr_7b, -⟩ := sees_some hs_a (by omega)
      refine JA.takeP 2 rfl (by kernel_rfl) (NP.th (NP.bl (NP.th (NP.th (NP.bl (NP.th NP.body)))))) (by kernel_rfl) (by kernel_rfl) rfl (PO.indexAddrV (i := j) Tryz.underlying23 Tryz.sizeOf9 hr_7 hr_7b rfl rfl (by omega)) ?_
      refine JA.take 3 rfl (by kernel_rfl) (NP.th (NP.bl (NP.th (NP.th (NP.bl (NP.th NP.body)))))) (by kernel_rfl) (by kernel_rfl) (by kernel_rfl) rfl (LO.loadS1 (v := str (s.getD j [])) hs_a (fun _ _ => List.not_mem_nil) rfl Tryz.isAgg9 (atS (by omega))) ?_
      refine JA.takeP 4 rfl (by kernel_rfl) (NP.th (NP.bl (NP.th (NP.th (NP.bl (NP.th NP.body)))))) (by kernel_rfl) (by kernel_rfl) rfl (PO.move (v := .slice b t.length c') he_4) ?_
      refine JA.takeP 5 rfl (by kernel_rfl) (NP.th (NP.bl (NP.th (NP.th (NP.bl (NP.th NP.body)))))) (by kernel_rfl) (by kernel_rfl) rfl (PO.move (v := .int .i64 ((j : Nat) : Int)) he_5) ?_
      obtain ⟨hr_8, hr_8b, -⟩ := sees_some hs_b (by omega)
      refine JA.takeP 6 rfl (by kernel_rfl) (NP.th (NP.bl (NP.th (NP.th (NP.bl (NP.th NP.body)))))) (by kernel_rfl) (by kernel_rfl) rfl (PO.indexAddrV (i := j) Tryz.underlying23 Tryz.sizeOf9 hr_8 hr_8b rfl rfl (by omega)) ?_
      refine JA.take 7 rfl (by kernel_rfl) (NP.th (NP.bl (NP.th (NP.th (NP.bl (NP.th NP.body)))))) (by kernel_rfl) (by kernel_rfl) (by kernel_rfl) rfl (LO.loadS1 (v := str (t.getD j [])) hs_b (fun _ _ => List.not_mem_nil) rfl Tryz.isAgg9 (atS (by omega))) ?_
      refine JA.takeP 8 rfl (by kernel_rfl) (NP.th (NP.bl (NP.th (NP.th (NP.bl (NP.th NP.body)))))) (by kernel_rfl) (by kernel_rfl) rfl (PO.neqS rfl rfl) ?_
      refine JA.done (by kernel_rfl) ?_
      refine JQ.seq ?_
      by_cases h_9 : (s.getD j []) = (t.getD j [])
      · skip
        have heq := h_9
        refine JC.condF (congrArg Value.bool (congrArg Bool.not (decide_eq_true h_9))) ?_
        refine JC.skip ?_
        refine JQ.blockN ?_
        refine JQ.seq ?_
        refine JC.region ?_
        refine JL.pure rfl (PO.move (v := .int .i64 ((j : Nat) : Int)) he_5) ?_
        refine JL.pure rfl (PO.add (c := ((j + 1 : Nat) : Int)) rfl rfl (wr (by omega))) ?_
        refine JL.pure rfl (PO.assign (v := .int .i64 ((j + 1 : Nat) : Int)) rfl) ?_
        refine JL.nil ?_
        refine JQ.again (s.length - (j + 1)) (by omega) ⟨j + 1, by omega, take_succ_eq [] hE hlt hln heq, hln, he_3, he_4, rfl, rfl, rfl⟩
      · skip
        have hne := h_9
        refine JC.condT (congrArg Value.bool (congrArg Bool.not (decide_eq_false h_9))) ?_
        refine JC.seq ?_
        refine JC.region ?_
        refine JL.pure rfl (PO.assign (v := .bool false) rfl) ?_
        refine JL.nil ?_
        refine JQ.seq ?_
        refine JC.ret ?_
        refine JQ.blockRet ?_
        refine JQ.thenRet ?_
        refine JQ.thenRet ?_
        refine JQ.blockRet ?_
        refine JQ.thenRet ?_
        refine Done.one (.inl rfl) rfl (RV.tmp (v := .bool false) rfl) (List.nil_sublist _) ?_
        refine ⟨?_, rfl⟩
        rw [decide_eq_false (fun h => hne (by rw [h]))]
    · skip
      refine JC.condF (congrArg Value.bool (decide_eq_false h_6)) ?_
      refine JC.exit ?_
      refine JQ.thenExit ?_
      refine JQ.thenExit ?_
      refine JQ.blockE ?_
      refine JQ.seq ?_
      refine JC.seq ?_
      refine JC.region ?_
      refine JL.pure rfl (PO.assign (v := .bool true) rfl) ?_
      refine JL.nil ?_
      refine JQ.seq ?_
      refine JC.ret ?_
      refine Done.one (.inl rfl) rfl (RV.tmp (v := .bool true) rfl) (List.nil_sublist _) ?_
      refine ⟨?_, rfl⟩
      rw [decide_eq_true (take_all_eq hE (by omega) (by omega))]
  · skip
    have hlen := h_1
    refine JC.condT (congrArg Value.bool (congrArg Bool.not (decide_eq_false h_1))) ?_
    refine JC.seq ?_
    refine JC.region ?_
    refine JL.pure rfl (PO.assign (v := .bool false) rfl) ?_
    refine JL.nil ?_
    refine JQ.seq ?_
    refine JC.ret ?_
    refine JQ.thenRet ?_
    refine Done.one (.inl rfl) rfl (RV.tmp (v := .bool false) rfl) (List.nil_sublist _) ?_
    refine ⟨?_, rfl⟩
    rw [decide_eq_false (fun h => by rw [h] at hlen; omega)]

theorem C_sameInts (a b : Option Addr) (c c' : Nat) (s t : List Int) (hn : s.length ≤ 9223372036854775807) :
    Ct Tryz.prog 79 [.slice a s.length c, .slice b t.length c'] [] (fun w => Sees w (.slice a s.length c) 1 s.length (s.map (Value.int .i64)) ∧ Sees w (.slice b t.length c') 1 t.length (t.map (Value.int .i64))) (fun r A' => r = .bool (decide (s = t)) ∧ A' = []) := by
  refine Ct.intro Tryz.func79 rfl Tryz.ntmps79 (Nat.le_of_ble_eq_true rfl) fun w0 hpre => ?_
  have hs_a : Sees w0 _ _ _ _ := hpre.1
  have hs_b : Sees w0 _ _ _ _ := hpre.2
  refine JC.seq ?_
  refine JC.region ?_
  refine JL.pure rfl (PO.assign (v := .bool false) rfl) ?_
  refine JL.nil ?_
  refine JQ.seq ?_
  refine JC.seq ?_
  refine JC.seq ?_
  refine JC.region ?_
  refine JL.pure rfl (PO.move (v := .slice a s.length c) rfl) ?_
  refine JL.pure rfl (PO.lenV Tryz.underlying70 rfl) ?_
  refine JL.pure rfl (PO.move (v := .slice b t.length c') rfl) ?_
  refine JL.pure rfl (PO.lenV Tryz.underlying70 rfl) ?_
  refine JL.pure rfl (PO.neqI rfl rfl) ?_
  refine JL.nil ?_
  refine JQ.seq ?_
  by_cases h_1 : ((s.length : Nat) : Int) = ((t.length : Nat) : Int)
  · skip
    have hlen := h_1
    refine JC.condF (congrArg Value.bool (congrArg Bool.not (decide_eq_true h_1))) ?_
    refine JC.skip ?_
    refine JQ.seq ?_
    refine JC.seq ?_
    refine JC.seq ?_
    refine JC.region ?_
    refine JL.pure rfl (PO.assign (v := .int .i64 0) rfl) ?_
    refine JL.nil ?_
    refine JQ.seq ?_
    refine JC.block ?_
    refine JC.loop (fun k_ e_ L_ => ∃ j : Nat, (j ≤ s.length) ∧ (s.take j = t.take j) ∧ (s.length = t.length) ∧ e_ 0 = .slice a s.length c ∧ e_ 1 = .slice b t.length c' ∧ e_ 5 = .int .i64 ((j : Nat) : Int) ∧ L_ = [] ∧ k_ = s.length - j) _ ⟨0, by omega, rfl, by omega, rfl, rfl, rfl, rfl, rfl⟩ ?_
    rintro _ e_2 _ ⟨j, hj, hE, hln, he_3, he_4, he_5, rfl, rfl⟩
    refine JC.seq ?_
    refine JC.seq ?_
    refine JC.region ?_
    refine JL.pure rfl (PO.move (v := .int .i64 ((j : Nat) : Int)) he_5) ?_
    refine JL.pure rfl (PO.move (v := .slice a s.length c) he_3) ?_
    refine JL.pure rfl (PO.lenV Tryz.underlying70 rfl) ?_
    refine JL.pure rfl (PO.lss rfl rfl) ?_
    refine JL.nil ?_
    refine JQ.seq ?_
    by_cases h_6 : ((j : Nat) : Int) < ((s.length : Nat) : Int)
    · skip
      have hlt : j < s.length := by omega
      refine JC.condT (congrArg Value.bool (decide_eq_true h_6)) ?_
      refine JC.skip ?_
      refine JQ.seq ?_
      refine JC.seq ?_
      refine JC.block ?_
      refine JC.seq ?_
      refine JC.regionA [] 8 mixed (by simp) ?_
      refine JA.takeP 0 rfl (by kernel_rfl) (NP.th (NP.bl (NP.th (NP.th (NP.bl (NP.th NP.body)))))) (by kernel_rfl) (by kernel_rfl) rfl (PO.move (v := .slice a s.length c) he_3) ?_
      refine JA.takeP 1 rfl (by kernel_rfl) (NP.th (NP.bl (NP.th (NP.th (NP.bl (NP.th NP.body)))))) (by kernel_rfl) (by kernel_rfl) rfl (PO.move (v := .int .i64 ((j : Nat) : Int)) he_5) ?_
      obtain ⟨hr_7, hr_7b, -⟩ := sees_some hs_a (by omega)
      refine JA.takeP 2 rfl (by kernel_rfl) (NP.th (NP.bl (NP.th (NP.th (NP.bl (NP.th NP.body)))))) (by kernel_rfl) (by kernel_rfl) rfl (PO.indexAddrV (i := j) Tryz.underlying70 Tryz.sizeOf3 hr_7 hr_7b rfl rfl (by omega)) ?_
      refine JA.take 3 rfl (by kernel_rfl) (NP.th (NP.bl (NP.th (NP.th (NP.bl (NP.th NP.body)))))) (by kernel_rfl) (by kernel_rfl) (by kernel_rfl) rfl (LO.loadS1 (v := .int .i64 (s.getD j 0)) hs_a (fun _ _ => List.not_mem_nil) rfl Tryz.isAgg3 (atI (by omega))) ?_
      refine JA.takeP 4 rfl (by kernel_rfl) (NP.th (NP.bl (NP.th (NP.th (NP.bl (NP.th NP.body)))))) (by kernel_rfl) (by kernel_rfl) rfl (PO.move (v := .slice b t.length c') he_4) ?_
      refine JA.takeP 5 rfl (by kernel_rfl) (NP.th (NP.bl (NP.th (NP.th (NP.bl (NP.th NP.body)))))) (by kernel_rfl) (by kernel_rfl) rfl (PO.move (v := .int .i64 ((j : Nat) : Int)) he_5) ?_
      obtain ⟨hr_8, hr_8b, -⟩ := sees_some hs_b (by omega)
      refine JA.takeP 6 rfl (by kernel_rfl) (NP.th (NP.bl (NP.th (NP.th (NP.bl (NP.th NP.body)))))) (by kernel_rfl) (by kernel_rfl) rfl (PO.indexAddrV (i := j) Tryz.underlying70 Tryz.sizeOf3 hr_8 hr_8b rfl rfl (by omega)) ?_
      refine JA.take 7 rfl (by kernel_rfl) (NP.th (NP.bl (NP.th (NP.th (NP.bl (NP.th NP.body)))))) (by kernel_rfl) (by kernel_rfl) (by kernel_rfl) rfl (LO.loadS1 (v := .int .i64 (t.getD j 0)) hs_b (fun _ _ => List.not_mem_nil) rfl Tryz.isAgg3 (atI (by omega))) ?_
      refine JA.takeP 8 rfl (by kernel_rfl) (NP.th (NP.bl (NP.th (NP.th (NP.bl (NP.th NP.body)))))) (by kernel_rfl) (by kernel_rfl) rfl (PO.neqI rfl rfl) ?_
      refine JA.done (by kernel_rfl) ?_
      refine JQ.seq ?_
      by_cases h_9 : (s.getD j 0) = (t.getD j 0)
      · skip
        have heq := h_9
        refine JC.condF (congrArg Value.bool (congrArg Bool.not (decide_eq_true h_9))) ?_
        refine JC.skip ?_
        refine JQ.blockN ?_
        refine JQ.seq ?_
        refine JC.region ?_
        refine JL.pure rfl (PO.move (v := .int .i64 ((j : Nat) : Int)) he_5) ?_
        refine JL.pure rfl (PO.add (c := ((j + 1 : Nat) : Int)) rfl rfl (wr (by omega))) ?_
        refine JL.pure rfl (PO.assign (v := .int .i64 ((j + 1 : Nat) : Int)) rfl) ?_
        refine JL.nil ?_
        refine JQ.again (s.length - (j + 1)) (by omega) ⟨j + 1, by omega, take_succ_eq 0 hE hlt hln heq, hln, he_3, he_4, rfl, rfl, rfl⟩
      · skip
        have hne := h_9
        refine JC.condT (congrArg Value.bool (congrArg Bool.not (decide_eq_false h_9))) ?_
        refine JC.seq ?_
        refine JC.region ?_
        refine JL.pure rfl (PO.assign (v := .bool false) rfl) ?_
        refine JL.nil ?_
        refine JQ.seq ?_
        refine JC.ret ?_
        refine JQ.blockRet ?_
        refine JQ.thenRet ?_
        refine JQ.thenRet ?_
        refine JQ.blockRet ?_
        refine JQ.thenRet ?_
        refine Done.one (.inl rfl) rfl (RV.tmp (v := .bool false) rfl) (List.nil_sublist _) ?_
        refine ⟨?_, rfl⟩
        rw [decide_eq_false (fun h => hne (by rw [h]))]
    · skip
      refine JC.condF (congrArg Value.bool (decide_eq_false h_6)) ?_
      refine JC.exit ?_
      refine JQ.thenExit ?_
      refine JQ.thenExit ?_
      refine JQ.blockE ?_
      refine JQ.seq ?_
      refine JC.seq ?_
      refine JC.region ?_
      refine JL.pure rfl (PO.assign (v := .bool true) rfl) ?_
      refine JL.nil ?_
      refine JQ.seq ?_
      refine JC.ret ?_
      refine Done.one (.inl rfl) rfl (RV.tmp (v := .bool true) rfl) (List.nil_sublist _) ?_
      refine ⟨?_, rfl⟩
      rw [decide_eq_true (take_all_eq hE (by omega) (by omega))]
  · skip
    have hlen := h_1
    refine JC.condT (congrArg Value.bool (congrArg Bool.not (decide_eq_false h_1))) ?_
    refine JC.seq ?_
    refine JC.region ?_
    refine JL.pure rfl (PO.assign (v := .bool false) rfl) ?_
    refine JL.nil ?_
    refine JQ.seq ?_
    refine JC.ret ?_
    refine JQ.thenRet ?_
    refine Done.one (.inl rfl) rfl (RV.tmp (v := .bool false) rfl) (List.nil_sublist _) ?_
    refine ⟨?_, rfl⟩
    rw [decide_eq_false (fun h => by rw [h] at hlen; omega)]

theorem C_sameTouch (a1 a2 b1 b2 : Option Addr) (c1 c2 d1 d2 : Nat) (r w r' w' : List Str) (h1 : r.length ≤ 9223372036854775807) (h2 : w.length ≤ 9223372036854775807) :
    Ct Tryz.prog 142 [.agg #[.slice a1 r.length c1, .slice a2 w.length c2], .agg #[.slice b1 r'.length d1, .slice b2 w'.length d2]] [] (fun w_ => Sees w_ (.slice a1 r.length c1) 1 r.length (r.map str) ∧ Sees w_ (.slice a2 w.length c2) 1 w.length (w.map str) ∧ Sees w_ (.slice b1 r'.length d1) 1 r'.length (r'.map str) ∧ Sees w_ (.slice b2 w'.length d2) 1 w'.length (w'.map str)) (fun v A' => v = .bool (decide (r = r') && decide (w = w')) ∧ A' = []) := by
  refine Ct.intro Tryz.func142 rfl Tryz.ntmps142 (Nat.le_of_ble_eq_true rfl) fun w0 hpre => ?_
  have hs_a1 : Sees w0 _ _ _ _ := hpre.1
  have hs_a2 : Sees w0 _ _ _ _ := hpre.2.1
  have hs_b1 : Sees w0 _ _ _ _ := hpre.2.2.1
  have hs_b2 : Sees w0 _ _ _ _ := hpre.2.2.2
  refine JC.seq ?_
  refine JC.region ?_
  refine JL.op rfl (JO.box (cs := [.slice a1 r.length c1, .slice a2 w.length c2]) rfl rfl) ?_
  rintro _ _ ⟨b_1, rfl, rfl⟩
  refine JL.op rfl (JO.box (cs := [.slice b1 r'.length d1, .slice b2 w'.length d2]) rfl rfl) ?_
  rintro _ _ ⟨b_2, rfl, rfl⟩
  refine JL.pure rfl (PO.assign (v := .bool false) rfl) ?_
  refine JL.nil ?_
  refine JQ.seq ?_
  refine JC.seq ?_
  refine JC.region ?_
  refine JL.pure rfl (PO.fieldAddr fo30_0 rfl) ?_
  refine JL.ld rfl (LO.load1 1 (v := .slice a1 r.length c1) rfl rfl Tryz.isAgg23 rfl) ?_
  refine JL.pure rfl (PO.fieldAddr fo30_0 rfl) ?_
  refine JL.ld rfl (LO.load1 0 (v := .slice b1 r'.length d1) rfl rfl Tryz.isAgg23 rfl) ?_
  refine JL.op rfl (JO.call [] Tryz.call51 rfl (C_sameTexts a1 b1 c1 d1 r r' (by omega)) rfl (fun w hw => ⟨hw.seeOut_ hs_a1 (fun _ _ => List.not_mem_nil), hw.seeOut_ hs_b1 (fun _ _ => List.not_mem_nil)⟩)) ?_
  rintro _ _ ⟨_, ⟨rfl, rfl⟩, rfl⟩
  refine JL.pure rfl (PO.move (v := .bool (decide (r = r'))) rfl) ?_
  by_cases h_3 : r = r'
  · skip
    refine JL.guardOn rfl rfl rfl (congrArg Value.bool (decide_eq_true h_3)) (JO.ofLO (LO.pure (PO.fieldAddr fo30_1 rfl))) ?_
    rintro _ _ ⟨rfl, rfl⟩
    refine JL.guardOn rfl rfl rfl (congrArg Value.bool (decide_eq_true h_3)) (JO.ofLO (LO.load1 1 (v := .slice a2 w.length c2) rfl rfl Tryz.isAgg23 rfl)) ?_
    rintro _ _ ⟨rfl, rfl⟩
    refine JL.guardOn rfl rfl rfl (congrArg Value.bool (decide_eq_true h_3)) (JO.ofLO (LO.pure (PO.fieldAddr fo30_1 rfl))) ?_
    rintro _ _ ⟨rfl, rfl⟩
    refine JL.guardOn rfl rfl rfl (congrArg Value.bool (decide_eq_true h_3)) (JO.ofLO (LO.load1 0 (v := .slice b2 w'.length d2) rfl rfl Tryz.isAgg23 rfl)) ?_
    rintro _ _ ⟨rfl, rfl⟩
    refine JL.guardOn rfl rfl rfl (congrArg Value.bool (decide_eq_true h_3)) (JO.call [] Tryz.call51 rfl (C_sameTexts a2 b2 c2 d2 w w' (by omega)) rfl (fun w hw => ⟨hw.seeOut_ hs_a2 (fun _ _ => List.not_mem_nil), hw.seeOut_ hs_b2 (fun _ _ => List.not_mem_nil)⟩)) ?_
    rintro _ _ ⟨_, ⟨rfl, rfl⟩, rfl⟩
    refine JL.pure rfl (PO.pickT (v := .bool (decide (w = w'))) (congrArg Value.bool (decide_eq_true h_3)) rfl) ?_
    refine JL.pure rfl (PO.assign (v := .bool (decide (w = w'))) rfl) ?_
    refine JL.nil ?_
    refine JQ.seq ?_
    refine JC.ret ?_
    refine Done.one (.inl rfl) rfl (RV.tmp (v := .bool (decide (w = w'))) rfl) (List.nil_sublist _) ?_
    refine ⟨?_, rfl⟩
    simp_all
  · skip
    refine JL.guardOff (b := false) rfl rfl rfl (congrArg Value.bool (decide_eq_false h_3)) ?_
    refine JL.guardOff (b := false) rfl rfl rfl (congrArg Value.bool (decide_eq_false h_3)) ?_
    refine JL.guardOff (b := false) rfl rfl rfl (congrArg Value.bool (decide_eq_false h_3)) ?_
    refine JL.guardOff (b := false) rfl rfl rfl (congrArg Value.bool (decide_eq_false h_3)) ?_
    refine JL.guardOff (b := false) rfl rfl rfl (congrArg Value.bool (decide_eq_false h_3)) ?_
    refine JL.pure rfl (PO.pickF (v := .bool false) (congrArg Value.bool (decide_eq_false h_3)) rfl) ?_
    refine JL.pure rfl (PO.assign (v := .bool false) rfl) ?_
    refine JL.nil ?_
    refine JQ.seq ?_
    refine JC.ret ?_
    refine Done.one (.inl rfl) rfl (RV.tmp (v := .bool false) rfl) (List.nil_sublist _) ?_
    refine ⟨?_, rfl⟩
    simp_all

theorem C_sameMach (a0 a1 a2 b0 b1 b2 : Option Addr) (c0_ c1 c2 d0_ d1 d2 : Nat) (s : List Cell) (r w : List Str) (s' : List Cell) (r' w' : List Str) (h0 : s.length ≤ 9223372036854775807) (h1 : r.length ≤ 9223372036854775807) (h2 : w.length ≤ 9223372036854775807) :
    Ct Tryz.prog 30 [.agg #[.slice a0 s.length c0_, .slice a1 r.length c1, .slice a2 w.length c2], .agg #[.slice b0 s'.length d0_, .slice b1 r'.length d1, .slice b2 w'.length d2]] [] (fun w_ => Sees w_ (.slice a0 s.length c0_) 2 s.length (s.flatMap encC) ∧ Sees w_ (.slice a1 r.length c1) 1 r.length (r.map str) ∧ Sees w_ (.slice a2 w.length c2) 1 w.length (w.map str) ∧ Sees w_ (.slice b0 s'.length d0_) 2 s'.length (s'.flatMap encC) ∧ Sees w_ (.slice b1 r'.length d1) 1 r'.length (r'.map str) ∧ Sees w_ (.slice b2 w'.length d2) 1 w'.length (w'.map str)) (fun v A' => v = .bool (decide (s = s') && (decide (r = r') && decide (w = w'))) ∧ A' = []) := by
  refine Ct.intro Tryz.func30 rfl Tryz.ntmps30 (Nat.le_of_ble_eq_true rfl) fun w0 hpre => ?_
  have hs_a0 : Sees w0 _ _ _ _ := hpre.1
  have hs_a1 : Sees w0 _ _ _ _ := hpre.2.1
  have hs_a2 : Sees w0 _ _ _ _ := hpre.2.2.1
  have hs_b0 : Sees w0 _ _ _ _ := hpre.2.2.2.1
  have hs_b1 : Sees w0 _ _ _ _ := hpre.2.2.2.2.1
  have hs_b2 : Sees w0 _ _ _ _ := hpre.2.2.2.2.2
  refine JC.seq ?_
  refine JC.region ?_
  refine JL.op rfl (JO.box (cs := [.slice a0 s.length c0_, .slice a1 r.length c1, .slice a2 w.length c2]) rfl rfl) ?_
  rintro _ _ ⟨b_1, rfl, rfl⟩
  refine JL.op rfl (JO.box (cs := [.slice b0 s'.length d0_, .slice b1 r'.length d1, .slice b2 w'.length d2]) rfl rfl) ?_
  rintro _ _ ⟨b_2, rfl, rfl⟩
  refine JL.pure rfl (PO.assign (v := .bool false) rfl) ?_
  refine JL.nil ?_
  refine JQ.seq ?_
  refine JC.seq ?_
  refine JC.region ?_
  refine JL.pure rfl (PO.fieldAddr fo32_0 rfl) ?_
  refine JL.ld rfl (LO.load1 1 (v := .slice a0 s.length c0_) rfl rfl Tryz.isAgg29 rfl) ?_
  refine JL.pure rfl (PO.fieldAddr fo32_0 rfl) ?_
  refine JL.ld rfl (LO.load1 0 (v := .slice b0 s'.length d0_) rfl rfl Tryz.isAgg29 rfl) ?_
  refine JL.op rfl (JO.call [] Tryz.call37 rfl (C_sameCells a0 b0 c0_ d0_ s s' (by omega)) rfl (fun w hw => ⟨hw.seeOut_ hs_a0 (fun _ _ => List.not_mem_nil), hw.seeOut_ hs_b0 (fun _ _ => List.not_mem_nil)⟩)) ?_
  rintro _ _ ⟨_, ⟨rfl, rfl⟩, rfl⟩
  refine JL.pure rfl (PO.move (v := .bool (decide (s = s'))) rfl) ?_
  by_cases h_3 : s = s'
  · skip
    refine JL.guardOn rfl rfl rfl (congrArg Value.bool (decide_eq_true h_3)) (JO.ofLO (LO.pure (PO.fieldAddr fo32_1 rfl))) ?_
    rintro _ _ ⟨rfl, rfl⟩
    refine JL.guardOn rfl rfl rfl (congrArg Value.bool (decide_eq_true h_3)) (JO.ofLO (LO.loadK 1 (vs := [.slice a1 r.length c1, .slice a2 w.length c2]) rfl rfl Tryz.isAgg30 Tryz.sizeOf30 rfl rfl)) ?_
    rintro _ _ ⟨rfl, rfl⟩
    refine JL.guardOn rfl rfl rfl (congrArg Value.bool (decide_eq_true h_3)) (JO.ofLO (LO.pure (PO.fieldAddr fo32_1 rfl))) ?_
    rintro _ _ ⟨rfl, rfl⟩
    refine JL.guardOn rfl rfl rfl (congrArg Value.bool (decide_eq_true h_3)) (JO.ofLO (LO.loadK 0 (vs := [.slice b1 r'.length d1, .slice b2 w'.length d2]) rfl rfl Tryz.isAgg30 Tryz.sizeOf30 rfl rfl)) ?_
    rintro _ _ ⟨rfl, rfl⟩
    refine JL.guardOn rfl rfl rfl (congrArg Value.bool (decide_eq_true h_3)) (JO.call [] Tryz.call142 rfl (C_sameTouch a1 a2 b1 b2 c1 c2 d1 d2 r w r' w' (by omega) (by omega)) rfl (fun w hw => ⟨hw.seeOut_ hs_a1 (fun _ _ => List.not_mem_nil), hw.seeOut_ hs_a2 (fun _ _ => List.not_mem_nil), hw.seeOut_ hs_b1 (fun _ _ => List.not_mem_nil), hw.seeOut_ hs_b2 (fun _ _ => List.not_mem_nil)⟩)) ?_
    rintro _ _ ⟨_, ⟨rfl, rfl⟩, rfl⟩
    refine JL.pure rfl (PO.pickT (v := .bool (decide (r = r') && decide (w = w'))) (congrArg Value.bool (decide_eq_true h_3)) rfl) ?_
    refine JL.pure rfl (PO.assign (v := .bool (decide (r = r') && decide (w = w'))) rfl) ?_
    refine JL.nil ?_
    refine JQ.seq ?_
    refine JC.ret ?_
    refine Done.one (.inl rfl) rfl (RV.tmp (v := .bool (decide (r = r') && decide (w = w'))) rfl) (List.nil_sublist _) ?_
    refine ⟨?_, rfl⟩
    simp_all
  · skip
    refine JL.guardOff (b := false) rfl rfl rfl (congrArg Value.bool (decide_eq_false h_3)) ?_
    refine JL.guardOff (b := false) rfl rfl rfl (congrArg Value.bool (decide_eq_false h_3)) ?_
    refine JL.guardOff (b := false) rfl rfl rfl (congrArg Value.bool (decide_eq_false h_3)) ?_
    refine JL.guardOff (b := false) rfl rfl rfl (congrArg Value.bool (decide_eq_false h_3)) ?_
    refine JL.guardOff (b := false) rfl rfl rfl (congrArg Value.bool (decide_eq_false h_3)) ?_
    refine JL.pure rfl (PO.pickF (v := .bool false) (congrArg Value.bool (decide_eq_false h_3)) rfl) ?_
    refine JL.pure rfl (PO.assign (v := .bool false) rfl) ?_
    refine JL.nil ?_
    refine JQ.seq ?_
    refine JC.ret ?_
    refine Done.one (.inl rfl) rfl (RV.tmp (v := .bool false) rfl) (List.nil_sublist _) ?_
    refine ⟨?_, rfl⟩
    simp_all

theorem N_sameMach (x y : MA) (m : MS) {S T : Nat} (hk : m.ok S T) (hS : S ≤ 100000000) (hT : T ≤ 100000000) : Ct Tryz.prog 30 [mv x m, mv y m] [] (fun w => seesM w x m ∧ seesM w y m) (fun v A' => v = .bool true ∧ A' = []) :=
  (C_sameMach x.a0 x.a1 x.a2 y.a0 y.a1 y.a2 x.c0 x.c1 x.c2 y.c0 y.c1 y.c2 m.s m.r m.w m.s m.r m.w (by have := hk.1; omega) (by have := hk.2.1; omega) (by have := hk.2.2.1; omega)).weak (fun w ⟨h1, h2⟩ => ⟨h1.1, h1.2.1, h1.2.2, h2⟩) fun v A' ⟨hv, hA⟩ => ⟨by rw [hv]; simp, hA⟩

end Go.Proofs.YtenfajgpdhgknaaGreatDoor

set_option linter.unusedSimpArgs false
set_option linter.unusedVariables false
set_option linter.unnecessarySimpa false
namespace Go.Proofs.YtenfajgpdhgknaaGreatDoor
open Go Go.RowKit
section
variable {P : Program} {ops : Array Oper} {Q : Exit → Act → World → Prop} {n : Nat} {w0 : World} {D : List Nat} {L M : List Res} {e : Env} {z fuel : Nat} {listed : Array Bool}
theorem JX.opOn {i : Nat} {o : Oper} {Φ : Value → List Res → Prop} {j : Nat} {b : Bool} {t : Tmp} (hi : ops[i]? = some o) (hg : o.guard = some (j, b)) (hj : (ops[j]?).bind (·.dst) = some t) (ht : Nat.blt t n = true) (hv : e t = .bool b) (ho : JO P n w0 D L e o Φ)
    (h : ∀ v L', Φ v L' → (∀ r ∈ M, r ∈ L') ∧ JA P ops Q n w0 D M z fuel (listed.setIfInBounds i true) L' (updO e o.dst v)) : JX P ops Q n w0 D M z fuel listed L e i := fun w hw => by
  have hlt : t < n := (Nat.blt_eq (x := t) (y := n)) ▸ ht
  have hyy : yielded ops (act n e).tmps j = some b := by simp [yielded, hj, act, hlt, hv]
  unfold wpOp
  simp only [hi]
  rw [if_pos (by simp [Region.wanted, hg, hyy])]
  refine .inl (ho w hw _ Q fun v L' w' hΦ hw' => ?_)
  obtain ⟨h1, h2⟩ := h v L' hΦ
  have hq := hw'.qw.sub h1
  exact ⟨fun _ => .inr hq, h2 w' hw' hq⟩
end
section
variable {P : Program} {n : Nat} {e : Env} {d : Option Tmp} {ty : TypeId} {pos : String} {aft : Array Edge} {gd : Option (Nat × Bool)}
theorem PO.eqlB {x y : Operand} {a b : Bool} {t u : TypeId} (ht : P.underlying t = some .bool) (hx : rd n e x = .bool a) (hy : rd n e y = .bool b) : PO P n e ⟨d, .binOp .eql t x y u, ty, pos, aft, gd⟩ (.bool (decide (a = b))) := fun w => by
  have h := run_eql_bool (P := P) w t a b ht
  simp [execOp, hx, hy, eqGuard, h, beq_dec]
theorem PO.neqB {x y : Operand} {a b : Bool} {t u : TypeId} (ht : P.underlying t = some .bool) (hx : rd n e x = .bool a) (hy : rd n e y = .bool b) : PO P n e ⟨d, .binOp .neq t x y u, ty, pos, aft, gd⟩ (.bool (!decide (a = b))) := fun w => by
  have h := run_equal_bool (P := P) w t a b ht
  simp [execOp, hx, hy, eqGuard, binOp, h, beq_dec]
end
theorem bump_num {m m1 m2 : MS} {key : Str} {n1 n2 : Int} (h1 : m.bump key = (m1, n1)) (h2 : m.num key = (m2, n2)) : n1 = 0 ∨ n1 = n2 + 1 := by
  unfold MS.bump at h1
  rw [h2] at h1
  simp only at h1
  split at h1
  · simp only [Prod.mk.injEq] at h1; exact .inl h1.2.symm
  · simp only [Prod.mk.injEq] at h1; exact .inr h1.2.symm
attribute [local irreducible] JL JC JQ JO LO PO JA JX Ct

theorem N_big (pa : Option Addr) (pc : Nat) (p : Str) :
    Ct Tryz.prog 26 [.slice pa p.length pc] [] (fun _ => True) (fun v A' => v = .bool (decide (1048576 < ((p.length : Nat) : Int))) ∧ A' = []) := by
  refine Ct.intro Tryz.func26 rfl Tryz.ntmps26 (Nat.le_of_ble_eq_true rfl) fun w0 hpre => ?_
  refine JC.seq ?_
  refine JC.region ?_
  refine JL.pure rfl (PO.assign (v := .bool false) rfl) ?_
  refine JL.nil ?_
  refine JQ.seq ?_
  refine JC.seq ?_
  refine JC.region ?_
  refine JL.pure rfl (PO.move (v := .slice pa p.length pc) rfl) ?_
  refine JL.pure rfl (PO.lenV Tryz.underlying44 rfl) ?_
  refine JL.pure rfl (PO.gtr rfl rfl) ?_
  refine JL.pure rfl (PO.assign (v := .bool (decide (1048576 < ((p.length : Nat) : Int)))) rfl) ?_
  refine JL.nil ?_
  refine JQ.seq ?_
  refine JC.ret ?_
  refine Done.one (.inl rfl) rfl (RV.tmp (v := .bool (decide (1048576 < ((p.length : Nat) : Int)))) rfl) (List.nil_sublist _) ?_
  exact ⟨rfl, rfl⟩

end Go.Proofs.YtenfajgpdhgknaaGreatDoor

set_option linter.unusedSimpArgs false
set_option linter.unusedVariables false
set_option linter.unnecessarySimpa false
namespace Go.Proofs.YtenfajgpdhgknaaGreatDoor
open Go Go.RowKit

/-- What stands between two places. -/
def piece (b : Str) (lo hi : Nat) : Str := (b.drop lo).take (hi - lo)
theorem piece_nil {b : Str} {lo hi : Nat} (h : hi ≤ lo) : piece b lo hi = [] := by
  unfold piece
  rw [show hi - lo = 0 by omega]
  simp
theorem piece_len (b : Str) (lo hi : Nat) : (piece b lo hi).length ≤ hi - lo := by
  unfold piece
  rw [List.length_take]
  omega
theorem piece_yes {b : Str} {lo i e : Nat} (h1 : lo ≤ i) (h2 : i < e) (h3 : i < b.length) : piece b lo (min e (i + 1)) = piece b lo (min e i) ++ [b.getD i 0] := by
  unfold piece
  rw [show min e (i + 1) - lo = (i - lo) + 1 by omega, show min e i - lo = i - lo by omega]
  have : (b.drop lo)[i - lo]? = some (b.getD i 0) := by
    rw [List.getElem?_drop, show lo + (i - lo) = i by omega]
    exact getD_some h3
  rw [List.take_add_one, this]
  rfl
theorem piece_no {b : Str} {lo i e : Nat} (h : i < lo ∨ e ≤ i) : piece b lo (min e (i + 1)) = piece b lo (min e i) := by
  rcases h with h | h
  · rw [piece_nil (by omega), piece_nil (by omega)]
  · rw [show min e (i + 1) = min e i by omega]
/-- A byte put at a place, with noughts between. -/
def setPad (b : Str) (i : Nat) (c : UInt8) : Str := (b ++ List.replicate (i + 1 - b.length) 0).set i c
theorem setPad_len (b : Str) (i : Nat) (c : UInt8) : (setPad b i c).length = max b.length (i + 1) := by
  unfold setPad
  simp only [List.length_set, List.length_append, List.length_replicate]
  omega
theorem pad_step {c : Str} {n : Nat} (h : c.length < n + 1) : (c ++ [0]) ++ List.replicate (n + 1 - (c.length + 1)) (0 : UInt8) = c ++ List.replicate (n + 1 - c.length) 0 := by
  rw [show n + 1 - c.length = (n + 1 - (c.length + 1)) + 1 by omega, List.replicate_succ]
  simp
def overTo (text : Str) (a f : Nat) (b : Str) : Nat → Str
  | 0 => b
  | k + 1 => setPad (overTo text a f b k) (a - f + k) (text.getD (f + (a - f + k) - a) 0)
theorem overTo_step {text b c d : Str} {a f j : Nat} (h : max a f ≤ j) (hc : c = overTo text a f b (j - max a f)) (hd : d = c ++ List.replicate (j - f + 1 - c.length) 0) :
    d.set (j - f) (text.getD (j - a) 0) = overTo text a f b (j + 1 - max a f) := by
  rw [show j + 1 - max a f = (j - max a f) + 1 by omega, overTo, ← hc, show a - f + (j - max a f) = j - f by omega, show f + (j - f) - a = j - a by omega, setPad, ← hd]
namespace MS
def blockKey (id : Int) (p : Nat) : Str := keyNum (keyNum ([105, 47] : Str) id ([47, 98, 47] : Str)) (p : Int) []
def readL (id : Int) (a e : Nat) : Nat → Nat → MS → Str → MS × Str
  | 0, _, m, out => (m, out)
  | k + 1, p, m, out => if p * 8 < e then
      match m.block id (p : Int) with
      | (m, b) => readL id a e k (p + 1) m (out ++ piece b (a - p * 8) (min (min (e - p * 8) 8) b.length))
    else (m, out)
theorem readL_stop {id : Int} {a e k p : Nat} {m : MS} {out : Str} (h : ¬ p * 8 < e) : readL id a e k p m out = (m, out) := by
  cases k with
  | zero => rfl
  | succ k => rw [readL, if_neg h]
def readFile (m : MS) (id at_ n : Int) : MS × Str :=
  match m.sizeOf id with
  | (m, size) => if at_ < 0 ∨ n < 1 ∨ size ≤ at_ then (m, []) else
    readL id at_.toNat (at_ + min n (size - at_)).toNat (130 - at_.toNat / 8) (at_.toNat / 8) m []
def writeL (id : Int) (text : Str) (a e : Nat) : Nat → Nat → MS → MS
  | 0, _, m => m
  | k + 1, p, m => if p * 8 < e then
      match m.block id (p : Int) with
      | (m, b) => writeL id text a e k (p + 1) (m.lay (blockKey id p) (hexS (overTo text a (p * 8) b (min e (p * 8 + 8) - max a (p * 8)))))
    else m
theorem writeL_stop {id : Int} {text : Str} {a e k p : Nat} {m : MS} (h : ¬ p * 8 < e) : writeL id text a e k p m = m := by
  cases k with
  | zero => rfl
  | succ k => rw [writeL, if_neg h]
def writeFile (m : MS) (id at_ : Int) (text : Str) : MS × Int :=
  match m.sizeOf id with
  | (m, size) => if at_ < 0 ∨ size < at_ ∨ (text.length : Int) = 0 then (m, 4) else
    if 64 < at_ + (text.length : Int) then (m, 3) else
    if size < at_ + (text.length : Int) then ((writeL id text at_.toNat (at_.toNat + text.length) (130 - at_.toNat / 8) (at_.toNat / 8) m).setNum (keyNum ([105, 47] : Str) id ([47, 115] : Str)) ((at_.toNat + text.length : Nat) : Int), 0)
    else (writeL id text at_.toNat (at_.toNat + text.length) (130 - at_.toNat / 8) (at_.toNat / 8) m, 0)
def cutL (id : Int) (z : Nat) : Nat → Nat → MS → MS
  | 0, _, m => m
  | k + 1, p, m => if p * 8 < z then cutL id z k (p + 1) (m.lay (blockKey id p) []) else m
theorem cutL_stop {id : Int} {z k p : Nat} {m : MS} (h : ¬ p * 8 < z) : cutL id z k p m = m := by
  cases k with
  | zero => rfl
  | succ k => rw [cutL, if_neg h]
def cutFile (m : MS) (id n : Int) : MS × Int :=
  match m.sizeOf id with
  | (m, size) => if n < 0 ∨ size < n then (m, 4) else
    if 0 < n.toNat % 8 then
      match m.block id ((n.toNat / 8 : Nat) : Int) with
      | (m, b) => ((cutL id size.toNat (130 - (n.toNat / 8 + 1)) (n.toNat / 8 + 1) (m.lay (blockKey id (n.toNat / 8)) (hexS (b.take (min (n.toNat % 8) b.length))))).setNum (keyNum ([105, 47] : Str) id ([47, 115] : Str)) n, 0)
    else ((cutL id size.toNat (130 - n.toNat / 8) (n.toNat / 8) m).setNum (keyNum ([105, 47] : Str) id ([47, 115] : Str)) n, 0)
end MS
end Go.Proofs.YtenfajgpdhgknaaGreatDoor
