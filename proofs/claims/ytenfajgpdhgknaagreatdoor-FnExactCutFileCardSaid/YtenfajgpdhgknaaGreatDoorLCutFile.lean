/-
  The laws on calls of a machine, walked: each says yes, whatever it is handed.
-/
import Derived.Test.YtenfajgpdhgknaaGreatDoorS20FILES
import Derived.Test.YtenfajgpdhgknaaGreatDoorS15HARNESS
set_option linter.unusedSimpArgs false
set_option linter.unusedVariables false
set_option linter.unnecessarySimpa false
set_option maxRecDepth 4000
namespace Go.Proofs.YtenfajgpdhgknaaGreatDoor
open Go Go.RowKit
attribute [local irreducible] JL JC JQ JO LO PO JA JX Ct

theorem L_CutFile (x : MA) (m : MS) (aId : Int) (aN : Int) (haId : -9223372036854775808 ≤ aId ∧ aId ≤ 9223372036854775807) (haN : -9223372036854775808 ≤ aN ∧ aN ≤ 9223372036854775807) (hok_s : okC m.s) (hok_r : okS m.r) (hok_w : okS m.w) :
    Ct Tryz.prog 4 [mv x m, .int .i64 aId, .int .i64 aN] [] (fun w => seesM w x m ∧ HexOk w) (fun v A' => v = .bool true ∧ A' = []) := by
  refine Ct.introL Tryz.func4 rfl Tryz.ntmps4 (Nat.le_of_ble_eq_true rfl) fun w0 hpre hlow => ?_
  have hs_x_a0 : Sees w0 _ _ _ _ := hpre.1.1
  have hs_x_a1 : Sees w0 _ _ _ _ := hpre.1.2.1
  have hs_x_a2 : Sees w0 _ _ _ _ := hpre.1.2.2
  refine JC.seq ?_
  refine JC.region ?_
  refine JL.op rfl (JO.box (cs := [.slice x.a0 m.s.length x.c0, .slice x.a1 m.r.length x.c1, .slice x.a2 m.w.length x.c2]) rfl rfl) ?_
  rintro _ _ ⟨b_1, rfl, rfl⟩
  refine JL.pure rfl (PO.assign (v := .bool false) rfl) ?_
  refine JL.nil ?_
  refine JQ.seq ?_
  refine JC.seq ?_
  refine JC.region ?_
  refine JL.pure rfl (PO.assign (v := .int .i64 1048576) rfl) ?_
  refine JL.nil ?_
  refine JQ.seq ?_
  refine JC.seq ?_
  refine JC.region ?_
  refine JL.ld rfl (LO.loadK 0 (vs := [.slice x.a0 m.s.length x.c0, .slice x.a1 m.r.length x.c1, .slice x.a2 m.w.length x.c2]) rfl rfl Tryz.isAgg27 Tryz.sizeOf27 rfl rfl) ?_
  refine JL.pure rfl (PO.move (v := .int .i64 1048576) rfl) ?_
  refine JL.op rfl (JO.call [] Tryz.call15 rfl (N_szMach x m hok_s hok_r hok_w) rfl (fun w hw => ⟨hw.seeOut_ hs_x_a0 (fun _ _ => List.not_mem_nil), hw.seeOut_ hs_x_a1 (fun _ _ => List.not_mem_nil), hw.seeOut_ hs_x_a2 (fun _ _ => List.not_mem_nil)⟩)) ?_
  rintro _ _ ⟨_, ⟨rfl, rfl⟩, rfl⟩
  refine JL.pure rfl (PO.assign (v := .int .i64 (szMach m 1048576)) rfl) ?_
  refine JL.nil ?_
  refine JQ.seq ?_
  refine JC.seq ?_
  refine JC.seq ?_
  refine JC.region ?_
  refine JL.pure rfl (PO.move (v := .int .i64 (szMach m 1048576)) rfl) ?_
  refine JL.pure rfl (PO.lss rfl rfl) ?_
  refine JL.nil ?_
  refine JQ.seq ?_
  by_cases h_2 : (szMach m 1048576) < 0
  · skip
    refine JC.condT (congrArg Value.bool (decide_eq_true h_2)) ?_
    refine JC.seq ?_
    refine JC.region ?_
    refine JL.pure rfl (PO.assign (v := .bool true) rfl) ?_
    refine JL.nil ?_
    refine JQ.seq ?_
    refine JC.ret ?_
    refine JQ.thenRet ?_
    refine Done.one (.inl rfl) rfl (RV.tmp (v := .bool true) rfl) (List.nil_sublist _) ?_
    exact ⟨rfl, rfl⟩
  · skip
    have hok := szMach_ok h_2
    refine JC.condF (congrArg Value.bool (decide_eq_false h_2)) ?_
    refine JC.skip ?_
    refine JQ.seq ?_
    refine JC.seq ?_
    refine JC.region ?_
    refine JL.ld rfl (LO.loadK 0 (vs := [.slice x.a0 m.s.length x.c0, .slice x.a1 m.r.length x.c1, .slice x.a2 m.w.length x.c2]) rfl rfl Tryz.isAgg27 Tryz.sizeOf27 rfl rfl) ?_
    refine JL.op rfl (JO.call [] Tryz.call17 rfl (N_toMach x m hok (by omega) (by omega)) rfl (fun w hw => ⟨hw.seeOut_ hs_x_a0 (fun _ _ => List.not_mem_nil), hw.seeOut_ hs_x_a1 (fun _ _ => List.not_mem_nil), hw.seeOut_ hs_x_a2 (fun _ _ => List.not_mem_nil)⟩)) ?_
    rintro _ _ ⟨_, ⟨x_5, m_6, rfl, k_4, rfl, rfl⟩, rfl⟩
    refine JL.pure rfl (PO.move (v := .int .i64 aId) rfl) ?_
    refine JL.pure rfl (PO.move (v := .int .i64 aN) rfl) ?_
    refine JL.op rfl (JO.call [] Tryz.call22 rfl (Q_cutFile x_5 m k_4 (by omega) (by omega) aId aN (by omega) (by omega)) rfl (fun w hw => ⟨hw.see (i := 0) rfl, hw.see (i := 1) rfl, hw.see (i := 2) rfl⟩)) ?_
    rintro _ _ ⟨_, ⟨x_9, m_10, n_11, e_7, k_8, f_12, rfl, rfl⟩, rfl⟩
    refine JL.pure rfl (PO.move (v := .tuple #[mv x_9 m_10, .int .i64 n_11]) rfl) ?_
    refine JL.pure rfl (PO.extract (v := mv x_9 m_10) rfl rfl) ?_
    refine JL.pure rfl (PO.extract (v := .int .i64 n_11) rfl rfl) ?_
    refine JL.op rfl (JO.alloc (z := .agg #[.slice none 0 0, .slice none 0 0, .slice none 0 0]) (cs := [.slice none 0 0, .slice none 0 0, .slice none 0 0]) Tryz.zeroValue32 rfl) ?_
    rintro _ _ ⟨b_13, rfl, rfl⟩
    refine JL.op rfl (JO.store 0 (vs := [.slice x_9.a0 m_10.s.length x_9.c0, .slice x_9.a1 m_10.r.length x_9.c1, .slice x_9.a2 m_10.w.length x_9.c2]) (cs' := [.slice x_9.a0 m_10.s.length x_9.c0, .slice x_9.a1 m_10.r.length x_9.c1, .slice x_9.a2 m_10.w.length x_9.c2]) rfl rfl rfl rfl Tryz.sizeOf32 rfl rfl (Nat.le_of_ble_eq_true rfl) rfl) ?_
    rintro _ _ rfl
    refine JL.pure rfl (PO.assign (v := .int .i64 n_11) rfl) ?_
    refine JL.nil ?_
    refine JQ.seq ?_
    refine JC.seq ?_
    refine JC.region ?_
    refine JL.ld rfl (LO.loadK 7 (vs := [.slice x.a0 m.s.length x.c0, .slice x.a1 m.r.length x.c1, .slice x.a2 m.w.length x.c2]) rfl rfl Tryz.isAgg27 Tryz.sizeOf27 rfl rfl) ?_
    refine JL.op rfl (JO.call [] Tryz.call17 rfl (N_toMach x m k_4 (by omega) (by omega)) rfl (fun w hw => ⟨hw.seeOut_ hs_x_a0 (fun _ _ => List.not_mem_nil), hw.seeOut_ hs_x_a1 (fun _ _ => List.not_mem_nil), hw.seeOut_ hs_x_a2 (fun _ _ => List.not_mem_nil)⟩)) ?_
    rintro _ _ ⟨_, ⟨x_16, m_17, rfl, k_15, rfl, rfl⟩, rfl⟩
    refine JL.op rfl (JO.alloc (z := .agg #[.slice none 0 0, .slice none 0 0, .slice none 0 0]) (cs := [.slice none 0 0, .slice none 0 0, .slice none 0 0]) Tryz.zeroValue32 rfl) ?_
    rintro _ _ ⟨b_18, rfl, rfl⟩
    refine JL.op rfl (JO.store 0 (vs := [.slice x_16.a0 m.s.length x_16.c0, .slice x_16.a1 m.r.length x_16.c1, .slice x_16.a2 m.w.length x_16.c2]) (cs' := [.slice x_16.a0 m.s.length x_16.c0, .slice x_16.a1 m.r.length x_16.c1, .slice x_16.a2 m.w.length x_16.c2]) rfl rfl rfl rfl Tryz.sizeOf32 rfl rfl (Nat.le_of_ble_eq_true rfl) rfl) ?_
    rintro _ _ rfl
    refine JL.nil ?_
    refine JQ.seq ?_
    refine JC.seq ?_
    refine JC.region ?_
    refine JL.ld rfl (LO.loadK 0 (vs := [.slice x_16.a0 m.s.length x_16.c0, .slice x_16.a1 m.r.length x_16.c1, .slice x_16.a2 m.w.length x_16.c2]) rfl rfl Tryz.isAgg32 Tryz.sizeOf32 rfl rfl) ?_
    refine JL.pure rfl (PO.move (v := .int .i64 aId) rfl) ?_
    refine JL.pure rfl (PO.move (v := .int .i64 aN) rfl) ?_
    refine JL.op rfl (JO.call [] Tryz.call23 rfl (P_cutFile x_16 m k_15 (by omega) (by omega) aId aN (by omega) (by omega)) rfl (fun w hw => ⟨⟨hw.see (i := 1) rfl, hw.see (i := 2) rfl, hw.see (i := 3) rfl⟩, hw.hex hlow hpre.2⟩)) ?_
    rintro _ _ ⟨_, ⟨x_21, m_22, n_23, e_19, k_20, f_24, rfl, rfl⟩, rfl⟩
    have hqe_19 := e_7.symm.trans e_19
    simp only [Prod.mk.injEq] at hqe_19
    obtain ⟨rfl, rfl⟩ := hqe_19
    refine JL.pure rfl (PO.move (v := .tuple #[mv x_21 m_10, .int .i64 n_11]) rfl) ?_
    refine JL.pure rfl (PO.extract (v := mv x_21 m_10) rfl rfl) ?_
    refine JL.pure rfl (PO.extract (v := .int .i64 n_11) rfl rfl) ?_
    refine JL.op rfl (JO.alloc (z := .agg #[.slice none 0 0, .slice none 0 0, .slice none 0 0]) (cs := [.slice none 0 0, .slice none 0 0, .slice none 0 0]) Tryz.zeroValue32 rfl) ?_
    rintro _ _ ⟨b_25, rfl, rfl⟩
    refine JL.op rfl (JO.store 0 (vs := [.slice x_21.a0 m_10.s.length x_21.c0, .slice x_21.a1 m_10.r.length x_21.c1, .slice x_21.a2 m_10.w.length x_21.c2]) (cs' := [.slice x_21.a0 m_10.s.length x_21.c0, .slice x_21.a1 m_10.r.length x_21.c1, .slice x_21.a2 m_10.w.length x_21.c2]) rfl rfl rfl rfl Tryz.sizeOf32 rfl rfl (Nat.le_of_ble_eq_true rfl) rfl) ?_
    rintro _ _ rfl
    refine JL.pure rfl (PO.assign (v := .int .i64 n_11) rfl) ?_
    refine JL.nil ?_
    refine JQ.seq ?_
    refine JC.seq ?_
    refine JC.seq ?_
    refine JC.region ?_
    refine JL.ld rfl (LO.loadK 0 (vs := [.slice x_21.a0 m_10.s.length x_21.c0, .slice x_21.a1 m_10.r.length x_21.c1, .slice x_21.a2 m_10.w.length x_21.c2]) rfl rfl Tryz.isAgg32 Tryz.sizeOf32 rfl rfl) ?_
    refine JL.ld rfl (LO.loadK 8 (vs := [.slice x_9.a0 m_10.s.length x_9.c0, .slice x_9.a1 m_10.r.length x_9.c1, .slice x_9.a2 m_10.w.length x_9.c2]) rfl rfl Tryz.isAgg32 Tryz.sizeOf32 rfl rfl) ?_
    refine JL.op rfl (JO.call [] Tryz.call19 rfl (N_eqMach x_21 x_9 m_10 k_8 (by omega) (by omega)) rfl (fun w hw => ⟨⟨hw.see (i := 1) rfl, hw.see (i := 2) rfl, hw.see (i := 3) rfl⟩, ⟨hw.see (i := 9) rfl, hw.see (i := 10) rfl, hw.see (i := 11) rfl⟩⟩)) ?_
    rintro _ _ ⟨_, ⟨rfl, rfl⟩, rfl⟩
    refine JL.pure rfl (PO.not rfl) ?_
    refine JL.pure rfl (PO.move (v := .bool false) rfl) ?_
    refine JL.guardOn rfl rfl rfl (congrArg Value.bool rfl) (JO.ofLO (LO.pure (PO.move (v := .int .i64 n_11) rfl))) ?_
    rintro _ _ ⟨rfl, rfl⟩
    refine JL.guardOn rfl rfl rfl (congrArg Value.bool rfl) (JO.ofLO (LO.pure (PO.move (v := .int .i64 n_11) rfl))) ?_
    rintro _ _ ⟨rfl, rfl⟩
    refine JL.guardOn rfl rfl rfl (congrArg Value.bool rfl) (JO.ofLO (LO.pure (PO.neqI rfl rfl))) ?_
    rintro _ _ ⟨rfl, rfl⟩
    refine JL.pure rfl (PO.pickF (v := .bool (!(decide (n_11 = n_11)))) (congrArg Value.bool rfl) rfl) ?_
    refine JL.nil ?_
    refine JQ.seq ?_
    refine JC.condF (congrArg Value.bool (congrArg Bool.not (decide_eq_true rfl))) ?_
    refine JC.skip ?_
    refine JQ.seq ?_
    refine JC.seq ?_
    refine JC.seq ?_
    refine JC.regionA [mb b_18 x_16 m, bk b_1 27 [.slice x.a0 m.s.length x.c0, .slice x.a1 m.r.length x.c1, .slice x.a2 m.w.length x.c2]] 1000 mixed (by simp) ?_
    refine JA.take 0 rfl (by kernel_rfl) (NP.th (NP.th NP.body)) (by kernel_rfl) (by kernel_rfl) (by kernel_rfl) rfl (LO.loadK 0 (vs := [.slice x_16.a0 m.s.length x_16.c0, .slice x_16.a1 m.r.length x_16.c1, .slice x_16.a2 m.w.length x_16.c2]) rfl rfl Tryz.isAgg32 Tryz.sizeOf32 rfl rfl) ?_
    refine JA.take 1 rfl (by kernel_rfl) (NP.th (NP.th NP.body)) (by kernel_rfl) (by kernel_rfl) (by kernel_rfl) rfl (LO.loadK 1 (vs := [.slice x.a0 m.s.length x.c0, .slice x.a1 m.r.length x.c1, .slice x.a2 m.w.length x.c2]) rfl rfl Tryz.isAgg27 Tryz.sizeOf27 rfl rfl) ?_
    refine JA.one (i := 2) (by kernel_rfl) ?_
    refine JX.op rfl rfl (JO.call [] Tryz.call17 rfl (N_toMach x m k_15 (by omega) (by omega)) rfl (fun w hw => ⟨hw.seeOut_ hs_x_a0 (fun _ _ => List.not_mem_nil), hw.seeOut_ hs_x_a1 (fun _ _ => List.not_mem_nil), hw.seeOut_ hs_x_a2 (fun _ _ => List.not_mem_nil)⟩)) ?_
    rintro _ _ ⟨_, ⟨x_32, m_33, rfl, k_31, rfl, rfl⟩, rfl⟩
    refine ⟨(by simp), ?_⟩
    refine JA.one (i := 3) (by kernel_rfl) ?_
    refine JX.op rfl rfl (JO.call [] Tryz.call19 rfl (N_eqMach x_16 x_32 m k_31 (by omega) (by omega)) rfl (fun w hw => ⟨⟨hw.see (i := 8) rfl, hw.see (i := 9) rfl, hw.see (i := 10) rfl⟩, ⟨hw.see (i := 0) rfl, hw.see (i := 1) rfl, hw.see (i := 2) rfl⟩⟩)) ?_
    rintro _ _ ⟨_, ⟨rfl, rfl⟩, rfl⟩
    refine ⟨(by simp), ?_⟩
    refine JA.takeP 4 rfl (by kernel_rfl) (NP.th (NP.th NP.body)) (by kernel_rfl) (by kernel_rfl) rfl (PO.not rfl) ?_
    refine JA.done (by kernel_rfl) ?_
    refine JQ.seq ?_
    refine JC.condF (congrArg Value.bool rfl) ?_
    refine JC.skip ?_
    refine JQ.seq ?_
    refine JC.seq ?_
    refine JC.region ?_
    refine JL.pure rfl (PO.assign (v := .int .i64 1) rfl) ?_
    refine JL.nil ?_
    refine JQ.seq ?_
    refine JC.seq ?_
    refine JC.region ?_
    refine JL.ld rfl (LO.loadK 7 (vs := [.slice x_16.a0 m.s.length x_16.c0, .slice x_16.a1 m.r.length x_16.c1, .slice x_16.a2 m.w.length x_16.c2]) rfl rfl Tryz.isAgg32 Tryz.sizeOf32 rfl rfl) ?_
    refine JL.pure rfl (PO.move (v := .int .i64 1) rfl) ?_
    refine JL.op rfl (JO.call [8, 8, 8] Tryz.call20 rfl (N_markMach x_16 m 1 k_31 (by omega) (by omega) (by omega) (by omega)) rfl (fun _ _ => trivial)) ?_
    rintro _ _ ⟨_, ⟨rfl, rfl⟩, rfl⟩
    have hz33s := k_31.1
    have hz33r := k_31.2.1
    have hz33w := k_31.2.2.1
    refine JL.pure rfl (PO.assign (v := .int .i64 ((1 + 2 * m.s.length + m.r.length + m.w.length : Nat) : Int)) rfl) ?_
    refine JL.nil ?_
    refine JQ.seq ?_
    refine JC.seq ?_
    refine JC.seq ?_
    refine JC.region ?_
    refine JL.pure rfl (PO.move (v := .int .i64 ((1 + 2 * m.s.length + m.r.length + m.w.length : Nat) : Int)) rfl) ?_
    refine JL.pure rfl (PO.lss rfl rfl) ?_
    refine JL.pure rfl (PO.move (v := .bool (decide (((1 + 2 * m.s.length + m.r.length + m.w.length : Nat) : Int) < 0))) rfl) ?_
    have h_34 : ¬ (((1 + 2 * m.s.length + m.r.length + m.w.length : Nat) : Int) < 0) := (by omega)
    refine JL.guardOn rfl rfl rfl (congrArg Value.bool (decide_eq_false h_34)) (JO.ofLO (LO.loadK 6 (vs := [.slice x_21.a0 m_10.s.length x_21.c0, .slice x_21.a1 m_10.r.length x_21.c1, .slice x_21.a2 m_10.w.length x_21.c2]) rfl rfl Tryz.isAgg32 Tryz.sizeOf32 rfl rfl)) ?_
    rintro _ _ ⟨rfl, rfl⟩
    refine JL.guardOn rfl rfl rfl (congrArg Value.bool (decide_eq_false h_34)) (JO.ofLO (LO.loadK 11 (vs := [.slice x_9.a0 m_10.s.length x_9.c0, .slice x_9.a1 m_10.r.length x_9.c1, .slice x_9.a2 m_10.w.length x_9.c2]) rfl rfl Tryz.isAgg32 Tryz.sizeOf32 rfl rfl)) ?_
    rintro _ _ ⟨rfl, rfl⟩
    refine JL.guardOn rfl rfl rfl (congrArg Value.bool (decide_eq_false h_34)) (JO.call [] Tryz.call19 rfl (N_eqMach x_21 x_9 m_10 k_8 (by omega) (by omega)) rfl (fun w hw => ⟨⟨hw.see (i := 7) rfl, hw.see (i := 8) rfl, hw.see (i := 9) rfl⟩, ⟨hw.see (i := 12) rfl, hw.see (i := 13) rfl, hw.see (i := 14) rfl⟩⟩)) ?_
    rintro _ _ ⟨_, ⟨rfl, rfl⟩, rfl⟩
    refine JL.guardOn rfl rfl rfl (congrArg Value.bool (decide_eq_false h_34)) (JO.ofLO (LO.pure (PO.not rfl))) ?_
    rintro _ _ ⟨rfl, rfl⟩
    refine JL.pure rfl (PO.pickF (v := .bool false) (congrArg Value.bool (decide_eq_false h_34)) rfl) ?_
    refine JL.pure rfl (PO.move (v := .bool false) rfl) ?_
    refine JL.guardOn rfl rfl rfl (congrArg Value.bool rfl) (JO.ofLO (LO.pure (PO.move (v := .int .i64 n_11) rfl))) ?_
    rintro _ _ ⟨rfl, rfl⟩
    refine JL.guardOn rfl rfl rfl (congrArg Value.bool rfl) (JO.ofLO (LO.pure (PO.move (v := .int .i64 n_11) rfl))) ?_
    rintro _ _ ⟨rfl, rfl⟩
    refine JL.guardOn rfl rfl rfl (congrArg Value.bool rfl) (JO.ofLO (LO.pure (PO.neqI rfl rfl))) ?_
    rintro _ _ ⟨rfl, rfl⟩
    refine JL.pure rfl (PO.pickF (v := .bool (!(decide (n_11 = n_11)))) (congrArg Value.bool rfl) rfl) ?_
    refine JL.nil ?_
    refine JQ.seq ?_
    refine JC.condF (congrArg Value.bool (congrArg Bool.not (decide_eq_true rfl))) ?_
    refine JC.skip ?_
    refine JQ.seq ?_
    refine JC.seq ?_
    refine JC.region ?_
    refine JL.pure rfl (PO.assign (v := .int .i64 1) rfl) ?_
    refine JL.nil ?_
    refine JQ.seq ?_
    refine JC.seq ?_
    refine JC.region ?_
    refine JL.ld rfl (LO.loadK 6 (vs := [.slice x_21.a0 m_10.s.length x_21.c0, .slice x_21.a1 m_10.r.length x_21.c1, .slice x_21.a2 m_10.w.length x_21.c2]) rfl rfl Tryz.isAgg32 Tryz.sizeOf32 rfl rfl) ?_
    refine JL.pure rfl (PO.move (v := .int .i64 1) rfl) ?_
    refine JL.op rfl (JO.call [7, 7, 7] Tryz.call20 rfl (N_markMach x_21 m_10 1 k_8 (by omega) (by omega) (by omega) (by omega)) rfl (fun _ _ => trivial)) ?_
    rintro _ _ ⟨_, ⟨rfl, rfl⟩, rfl⟩
    have hz34s := k_8.1
    have hz34r := k_8.2.1
    have hz34w := k_8.2.2.1
    refine JL.pure rfl (PO.assign (v := .int .i64 ((1 + 2 * m_10.s.length + m_10.r.length + m_10.w.length : Nat) : Int)) rfl) ?_
    refine JL.nil ?_
    refine JQ.seq ?_
    refine JC.seq ?_
    refine JC.region ?_
    refine JL.pure rfl (PO.assign (v := .int .i64 1) rfl) ?_
    refine JL.nil ?_
    refine JQ.seq ?_
    refine JC.seq ?_
    refine JC.region ?_
    refine JL.ld rfl (LO.loadK 9 (vs := [.slice x_21.a0 m_10.s.length x_21.c0, .slice x_21.a1 m_10.r.length x_21.c1, .slice x_21.a2 m_10.w.length x_21.c2]) rfl rfl Tryz.isAgg32 Tryz.sizeOf32 rfl rfl) ?_
    refine JL.pure rfl (PO.move (v := .int .i64 1) rfl) ?_
    refine JL.op rfl (JO.call [] Tryz.call21 rfl (N_heldMach x_21 m_10 1 k_8 (by omega) (by omega) (by omega) (by omega)) rfl (fun w hw => ⟨hw.see (i := 0) rfl, hw.see (i := 1) rfl, hw.see (i := 2) rfl⟩)) ?_
    rintro _ _ ⟨_, ⟨rfl, rfl⟩, rfl⟩
    refine JL.pure rfl (PO.assign (v := .int .i64 ((1 + 2 * m_10.s.length + m_10.r.length + m_10.w.length : Nat) : Int)) rfl) ?_
    refine JL.nil ?_
    refine JQ.seq ?_
    refine JC.seq ?_
    refine JC.seq ?_
    refine JC.region ?_
    refine JL.pure rfl (PO.move (v := .int .i64 ((1 + 2 * m_10.s.length + m_10.r.length + m_10.w.length : Nat) : Int)) rfl) ?_
    refine JL.pure rfl (PO.lss rfl rfl) ?_
    refine JL.nil ?_
    refine JQ.seq ?_
    have h_35 : ¬ (((1 + 2 * m_10.s.length + m_10.r.length + m_10.w.length : Nat) : Int) < 0) := (by omega)
    refine JC.condF (congrArg Value.bool (decide_eq_false h_35)) ?_
    refine JC.skip ?_
    refine JQ.seq ?_
    refine JC.seq ?_
    refine JC.seq ?_
    refine JC.region ?_
    refine JL.pure rfl (PO.move (v := .int .i64 ((1 + 2 * m_10.s.length + m_10.r.length + m_10.w.length : Nat) : Int)) rfl) ?_
    refine JL.pure rfl (PO.move (v := .int .i64 ((1 + 2 * m_10.s.length + m_10.r.length + m_10.w.length : Nat) : Int)) rfl) ?_
    refine JL.pure rfl (PO.neqI rfl rfl) ?_
    refine JL.nil ?_
    refine JQ.seq ?_
    refine JC.condF (congrArg Value.bool (congrArg Bool.not (decide_eq_true rfl))) ?_
    refine JC.skip ?_
    refine JQ.seq ?_
    refine JC.seq ?_
    refine JC.region ?_
    refine JL.ld rfl (LO.loadK 18 (vs := [.slice x.a0 m.s.length x.c0, .slice x.a1 m.r.length x.c1, .slice x.a2 m.w.length x.c2]) rfl rfl Tryz.isAgg27 Tryz.sizeOf27 rfl rfl) ?_
    refine JL.op rfl (JO.call [] Tryz.call17 rfl (N_toMach x m k_31 (by omega) (by omega)) rfl (fun w hw => ⟨hw.seeOut_ hs_x_a0 (fun _ _ => List.not_mem_nil), hw.seeOut_ hs_x_a1 (fun _ _ => List.not_mem_nil), hw.seeOut_ hs_x_a2 (fun _ _ => List.not_mem_nil)⟩)) ?_
    rintro _ _ ⟨_, ⟨x_38, m_39, rfl, k_37, rfl, rfl⟩, rfl⟩
    refine JL.pure rfl (PO.move (v := .int .i64 aId) rfl) ?_
    refine JL.pure rfl (PO.move (v := .int .i64 aN) rfl) ?_
    refine JL.op rfl (JO.call [] Tryz.call23 rfl (P_cutFile x_38 m k_37 (by omega) (by omega) aId aN (by omega) (by omega)) rfl (fun w hw => ⟨⟨hw.see (i := 0) rfl, hw.see (i := 1) rfl, hw.see (i := 2) rfl⟩, hw.hex hlow hpre.2⟩)) ?_
    rintro _ _ ⟨_, ⟨x_42, m_43, n_44, e_40, k_41, f_45, rfl, rfl⟩, rfl⟩
    have hqe_40 := e_7.symm.trans e_40
    simp only [Prod.mk.injEq] at hqe_40
    obtain ⟨rfl, rfl⟩ := hqe_40
    refine JL.pure rfl (PO.move (v := .tuple #[mv x_42 m_10, .int .i64 n_11]) rfl) ?_
    refine JL.pure rfl (PO.extract (v := mv x_42 m_10) rfl rfl) ?_
    refine JL.pure rfl (PO.extract (v := .int .i64 n_11) rfl rfl) ?_
    refine JL.op rfl (JO.alloc (z := .agg #[.slice none 0 0, .slice none 0 0, .slice none 0 0]) (cs := [.slice none 0 0, .slice none 0 0, .slice none 0 0]) Tryz.zeroValue32 rfl) ?_
    rintro _ _ ⟨b_46, rfl, rfl⟩
    refine JL.op rfl (JO.store 0 (vs := [.slice x_42.a0 m_10.s.length x_42.c0, .slice x_42.a1 m_10.r.length x_42.c1, .slice x_42.a2 m_10.w.length x_42.c2]) (cs' := [.slice x_42.a0 m_10.s.length x_42.c0, .slice x_42.a1 m_10.r.length x_42.c1, .slice x_42.a2 m_10.w.length x_42.c2]) rfl rfl rfl rfl Tryz.sizeOf32 rfl rfl (Nat.le_of_ble_eq_true rfl) rfl) ?_
    rintro _ _ rfl
    refine JL.pure rfl (PO.assign (v := .int .i64 n_11) rfl) ?_
    refine JL.nil ?_
    refine JQ.seq ?_
    refine JC.seq ?_
    refine JC.seq ?_
    refine JC.region ?_
    refine JL.ld rfl (LO.loadK 0 (vs := [.slice x_42.a0 m_10.s.length x_42.c0, .slice x_42.a1 m_10.r.length x_42.c1, .slice x_42.a2 m_10.w.length x_42.c2]) rfl rfl Tryz.isAgg32 Tryz.sizeOf32 rfl rfl) ?_
    refine JL.ld rfl (LO.loadK 18 (vs := [.slice x_9.a0 m_10.s.length x_9.c0, .slice x_9.a1 m_10.r.length x_9.c1, .slice x_9.a2 m_10.w.length x_9.c2]) rfl rfl Tryz.isAgg32 Tryz.sizeOf32 rfl rfl) ?_
    refine JL.op rfl (JO.call [] Tryz.call19 rfl (N_eqMach x_42 x_9 m_10 k_8 (by omega) (by omega)) rfl (fun w hw => ⟨⟨hw.see (i := 1) rfl, hw.see (i := 2) rfl, hw.see (i := 3) rfl⟩, ⟨hw.see (i := 19) rfl, hw.see (i := 20) rfl, hw.see (i := 21) rfl⟩⟩)) ?_
    rintro _ _ ⟨_, ⟨rfl, rfl⟩, rfl⟩
    refine JL.pure rfl (PO.not rfl) ?_
    refine JL.pure rfl (PO.move (v := .bool false) rfl) ?_
    refine JL.guardOn rfl rfl rfl (congrArg Value.bool rfl) (JO.ofLO (LO.pure (PO.move (v := .int .i64 n_11) rfl))) ?_
    rintro _ _ ⟨rfl, rfl⟩
    refine JL.guardOn rfl rfl rfl (congrArg Value.bool rfl) (JO.ofLO (LO.pure (PO.move (v := .int .i64 n_11) rfl))) ?_
    rintro _ _ ⟨rfl, rfl⟩
    refine JL.guardOn rfl rfl rfl (congrArg Value.bool rfl) (JO.ofLO (LO.pure (PO.neqI rfl rfl))) ?_
    rintro _ _ ⟨rfl, rfl⟩
    refine JL.pure rfl (PO.pickF (v := .bool (!(decide (n_11 = n_11)))) (congrArg Value.bool rfl) rfl) ?_
    refine JL.nil ?_
    refine JQ.seq ?_
    refine JC.condF (congrArg Value.bool (congrArg Bool.not (decide_eq_true rfl))) ?_
    refine JC.skip ?_
    refine JQ.seq ?_
    refine JC.seq ?_
    refine JC.region ?_
    refine JL.pure rfl (PO.assign (v := .int .i64 1) rfl) ?_
    refine JL.nil ?_
    refine JQ.seq ?_
    refine JC.seq ?_
    refine JC.region ?_
    refine JL.ld rfl (LO.loadK 16 (vs := [.slice x_21.a0 m_10.s.length x_21.c0, .slice x_21.a1 m_10.r.length x_21.c1, .slice x_21.a2 m_10.w.length x_21.c2]) rfl rfl Tryz.isAgg32 Tryz.sizeOf32 rfl rfl) ?_
    refine JL.pure rfl (PO.move (v := .int .i64 1) rfl) ?_
    refine JL.op rfl (JO.call [] Tryz.call21 rfl (N_heldMach x_21 m_10 1 k_8 (by omega) (by omega) (by omega) (by omega)) rfl (fun w hw => ⟨hw.see (i := 7) rfl, hw.see (i := 8) rfl, hw.see (i := 9) rfl⟩)) ?_
    rintro _ _ ⟨_, ⟨rfl, rfl⟩, rfl⟩
    refine JL.pure rfl (PO.assign (v := .int .i64 ((1 + 2 * m_10.s.length + m_10.r.length + m_10.w.length : Nat) : Int)) rfl) ?_
    refine JL.nil ?_
    refine JQ.seq ?_
    refine JC.seq ?_
    refine JC.seq ?_
    refine JC.region ?_
    refine JL.pure rfl (PO.move (v := .int .i64 ((1 + 2 * m_10.s.length + m_10.r.length + m_10.w.length : Nat) : Int)) rfl) ?_
    refine JL.pure rfl (PO.lss rfl rfl) ?_
    refine JL.nil ?_
    refine JQ.seq ?_
    refine JC.condF (congrArg Value.bool (decide_eq_false h_35)) ?_
    refine JC.skip ?_
    refine JQ.seq ?_
    refine JC.seq ?_
    refine JC.seq ?_
    refine JC.region ?_
    refine JL.pure rfl (PO.move (v := .int .i64 ((1 + 2 * m_10.s.length + m_10.r.length + m_10.w.length : Nat) : Int)) rfl) ?_
    refine JL.pure rfl (PO.move (v := .int .i64 ((1 + 2 * m_10.s.length + m_10.r.length + m_10.w.length : Nat) : Int)) rfl) ?_
    refine JL.pure rfl (PO.neqI rfl rfl) ?_
    refine JL.nil ?_
    refine JQ.seq ?_
    refine JC.condF (congrArg Value.bool (congrArg Bool.not (decide_eq_true rfl))) ?_
    refine JC.skip ?_
    refine JQ.seq ?_
    refine JC.seq ?_
    refine JC.region ?_
    refine JL.pure rfl (PO.assign (v := .bool true) rfl) ?_
    refine JL.nil ?_
    refine JQ.seq ?_
    refine JC.ret ?_
    refine Done.one (.inl rfl) rfl (RV.tmp (v := .bool true) rfl) (List.nil_sublist _) ?_
    exact ⟨rfl, rfl⟩

end Go.Proofs.YtenfajgpdhgknaaGreatDoor
