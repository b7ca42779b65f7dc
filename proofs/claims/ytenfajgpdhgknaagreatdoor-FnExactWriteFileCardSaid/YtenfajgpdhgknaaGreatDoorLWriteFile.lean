/-
  The laws on calls of a machine, walked: each says yes, whatever it is handed.
-/
import Derived.Test.YtenfajgpdhgknaaGreatDoorS20FILES
import Derived.Test.YtenfajgpdhgknaaGreatDoorS15HARNESS
set_option linter.unusedSimpArgs false
set_option linter.unusedVariables false
set_option linter.unnecessarySimpa false
set_option maxRecDepth 4000
namespace Go.Proofs.YtenfajgpdhgknaaGreatDoor
open Go Go.RowKit
attribute [local irreducible] JL JC JQ JO LO PO JA JX Ct

theorem L_WriteFile (x : MA) (m : MS) (aId : Int) (aAt : Int) (aText : Str) (haId : -9223372036854775808 ≤ aId ∧ aId ≤ 9223372036854775807) (haAt : -9223372036854775808 ≤ aAt ∧ aAt ≤ 9223372036854775807) (haText : aText.length ≤ 9223372036854775807) (hok_s : okC m.s) (hok_r : okS m.r) (hok_w : okS m.w) :
    Ct Tryz.prog 5 [mv x m, .int .i64 aId, .int .i64 aAt, str aText] [] (fun w => seesM w x m ∧ HexOk w) (fun v A' => v = .bool true ∧ A' = []) := by
  refine Ct.introL Tryz.func5 rfl Tryz.ntmps5 (Nat.le_of_ble_eq_true rfl) fun w0 hpre hlow => ?_
  have hs_x_a0 : Sees w0 _ _ _ _ := hpre.1.1
  have hs_x_a1 : Sees w0 _ _ _ _ := hpre.1.2.1
  have hs_x_a2 : Sees w0 _ _ _ _ := hpre.1.2.2
  refine JC.seq ?_
  refine JC.region ?_
  refine JL.op rfl (JO.box (cs := [.slice x.a0 m.s.length x.c0, .slice x.a1 m.r.length x.c1, .slice x.a2 m.w.length x.c2]) rfl rfl) ?_
  rintro _ _ ⟨b_1, rfl, rfl⟩
  refine JL.pure rfl (PO.assign (v := .bool false) rfl) ?_
  refine JL.nil ?_
  refine JQ.seq ?_
  refine JC.seq ?_
  refine JC.seq ?_
  refine JC.region ?_
  refine JL.pure rfl (PO.move (v := str aText) rfl) ?_
  refine JL.pure rfl (PO.lenS Tryz.underlying9 rfl) ?_
  refine JL.pure rfl (PO.gtr rfl rfl) ?_
  refine JL.nil ?_
  refine JQ.seq ?_
  by_cases h_2 : 1048576 < (aText.length : Int)
  · skip
    refine JC.condT (congrArg Value.bool (decide_eq_true h_2)) ?_
    refine JC.seq ?_
    refine JC.region ?_
    refine JL.pure rfl (PO.assign (v := .bool true) rfl) ?_
    refine JL.nil ?_
    refine JQ.seq ?_
    refine JC.ret ?_
    refine JQ.thenRet ?_
    refine Done.one (.inl rfl) rfl (RV.tmp (v := .bool true) rfl) (List.nil_sublist _) ?_
    exact ⟨rfl, rfl⟩
  · skip
    refine JC.condF (congrArg Value.bool (decide_eq_false h_2)) ?_
    refine JC.skip ?_
    refine JQ.seq ?_
    refine JC.seq ?_
    refine JC.region ?_
    refine JL.pure rfl (PO.assign (v := .int .i64 1048576) rfl) ?_
    refine JL.nil ?_
    refine JQ.seq ?_
    refine JC.seq ?_
    refine JC.region ?_
    refine JL.ld rfl (LO.loadK 0 (vs := [.slice x.a0 m.s.length x.c0, .slice x.a1 m.r.length x.c1, .slice x.a2 m.w.length x.c2]) rfl rfl Tryz.isAgg27 Tryz.sizeOf27 rfl rfl) ?_
    refine JL.pure rfl (PO.move (v := .int .i64 1048576) rfl) ?_
    refine JL.op rfl (JO.call [] Tryz.call15 rfl (N_szMach x m hok_s hok_r hok_w) rfl (fun w hw => ⟨hw.seeOut_ hs_x_a0 (fun _ _ => List.not_mem_nil), hw.seeOut_ hs_x_a1 (fun _ _ => List.not_mem_nil), hw.seeOut_ hs_x_a2 (fun _ _ => List.not_mem_nil)⟩)) ?_
    rintro _ _ ⟨_, ⟨rfl, rfl⟩, rfl⟩
    refine JL.pure rfl (PO.assign (v := .int .i64 (szMach m 1048576)) rfl) ?_
    refine JL.nil ?_
    refine JQ.seq ?_
    refine JC.seq ?_
    refine JC.seq ?_
    refine JC.region ?_
    refine JL.pure rfl (PO.move (v := .int .i64 (szMach m 1048576)) rfl) ?_
    refine JL.pure rfl (PO.lss rfl rfl) ?_
    refine JL.nil ?_
    refine JQ.seq ?_
    by_cases h_3 : (szMach m 1048576) < 0
    · skip
      refine JC.condT (congrArg Value.bool (decide_eq_true h_3)) ?_
      refine JC.seq ?_
      refine JC.region ?_
      refine JL.pure rfl (PO.assign (v := .bool true) rfl) ?_
      refine JL.nil ?_
      refine JQ.seq ?_
      refine JC.ret ?_
      refine JQ.thenRet ?_
      refine Done.one (.inl rfl) rfl (RV.tmp (v := .bool true) rfl) (List.nil_sublist _) ?_
      exact ⟨rfl, rfl⟩
    · skip
      have hok := szMach_ok h_3
      refine JC.condF (congrArg Value.bool (decide_eq_false h_3)) ?_
      refine JC.skip ?_
      refine JQ.seq ?_
      refine JC.seq ?_
      refine JC.region ?_
      refine JL.ld rfl (LO.loadK 0 (vs := [.slice x.a0 m.s.length x.c0, .slice x.a1 m.r.length x.c1, .slice x.a2 m.w.length x.c2]) rfl rfl Tryz.isAgg27 Tryz.sizeOf27 rfl rfl) ?_
      refine JL.op rfl (JO.call [] Tryz.call17 rfl (N_toMach x m hok (by omega) (by omega)) rfl (fun w hw => ⟨hw.seeOut_ hs_x_a0 (fun _ _ => List.not_mem_nil), hw.seeOut_ hs_x_a1 (fun _ _ => List.not_mem_nil), hw.seeOut_ hs_x_a2 (fun _ _ => List.not_mem_nil)⟩)) ?_
      rintro _ _ ⟨_, ⟨x_6, m_7, rfl, k_5, rfl, rfl⟩, rfl⟩
      refine JL.pure rfl (PO.move (v := .int .i64 aId) rfl) ?_
      refine JL.pure rfl (PO.move (v := .int .i64 aAt) rfl) ?_
      refine JL.pure rfl (PO.move (v := str aText) rfl) ?_
      refine JL.op rfl (JO.call [] Tryz.call24 rfl (Q_writeFile x_6 m k_5 (by omega) (by omega) aId aAt aText (by omega) (by omega) (by omega)) rfl (fun w hw => ⟨hw.see (i := 0) rfl, hw.see (i := 1) rfl, hw.see (i := 2) rfl⟩)) ?_
      rintro _ _ ⟨_, ⟨x_10, m_11, n_12, e_8, k_9, f_13, rfl, rfl⟩, rfl⟩
      refine JL.pure rfl (PO.move (v := .tuple #[mv x_10 m_11, .int .i64 n_12]) rfl) ?_
      refine JL.pure rfl (PO.extract (v := mv x_10 m_11) rfl rfl) ?_
      refine JL.pure rfl (PO.extract (v := .int .i64 n_12) rfl rfl) ?_
      refine JL.op rfl (JO.alloc (z := .agg #[.slice none 0 0, .slice none 0 0, .slice none 0 0]) (cs := [.slice none 0 0, .slice none 0 0, .slice none 0 0]) Tryz.zeroValue32 rfl) ?_
      rintro _ _ ⟨b_14, rfl, rfl⟩
      refine JL.op rfl (JO.store 0 (vs := [.slice x_10.a0 m_11.s.length x_10.c0, .slice x_10.a1 m_11.r.length x_10.c1, .slice x_10.a2 m_11.w.length x_10.c2]) (cs' := [.slice x_10.a0 m_11.s.length x_10.c0, .slice x_10.a1 m_11.r.length x_10.c1, .slice x_10.a2 m_11.w.length x_10.c2]) rfl rfl rfl rfl Tryz.sizeOf32 rfl rfl (Nat.le_of_ble_eq_true rfl) rfl) ?_
      rintro _ _ rfl
      refine JL.pure rfl (PO.assign (v := .int .i64 n_12) rfl) ?_
      refine JL.nil ?_
      refine JQ.seq ?_
      refine JC.seq ?_
      refine JC.region ?_
      refine JL.ld rfl (LO.loadK 7 (vs := [.slice x.a0 m.s.length x.c0, .slice x.a1 m.r.length x.c1, .slice x.a2 m.w.length x.c2]) rfl rfl Tryz.isAgg27 Tryz.sizeOf27 rfl rfl) ?_
      refine JL.op rfl (JO.call [] Tryz.call17 rfl (N_toMach x m k_5 (by omega) (by omega)) rfl (fun w hw => ⟨hw.seeOut_ hs_x_a0 (fun _ _ => List.not_mem_nil), hw.seeOut_ hs_x_a1 (fun _ _ => List.not_mem_nil), hw.seeOut_ hs_x_a2 (fun _ _ => List.not_mem_nil)⟩)) ?_
      rintro _ _ ⟨_, ⟨x_17, m_18, rfl, k_16, rfl, rfl⟩, rfl⟩
      refine JL.op rfl (JO.alloc (z := .agg #[.slice none 0 0, .slice none 0 0, .slice none 0 0]) (cs := [.slice none 0 0, .slice none 0 0, .slice none 0 0]) Tryz.zeroValue32 rfl) ?_
      rintro _ _ ⟨b_19, rfl, rfl⟩
      refine JL.op rfl (JO.store 0 (vs := [.slice x_17.a0 m.s.length x_17.c0, .slice x_17.a1 m.r.length x_17.c1, .slice x_17.a2 m.w.length x_17.c2]) (cs' := [.slice x_17.a0 m.s.length x_17.c0, .slice x_17.a1 m.r.length x_17.c1, .slice x_17.a2 m.w.length x_17.c2]) rfl rfl rfl rfl Tryz.sizeOf32 rfl rfl (Nat.le_of_ble_eq_true rfl) rfl) ?_
      rintro _ _ rfl
      refine JL.nil ?_
      refine JQ.seq ?_
      refine JC.seq ?_
      refine JC.region ?_
      refine JL.ld rfl (LO.loadK 0 (vs := [.slice x_17.a0 m.s.length x_17.c0, .slice x_17.a1 m.r.length x_17.c1, .slice x_17.a2 m.w.length x_17.c2]) rfl rfl Tryz.isAgg32 Tryz.sizeOf32 rfl rfl) ?_
      refine JL.pure rfl (PO.move (v := .int .i64 aId) rfl) ?_
      refine JL.pure rfl (PO.move (v := .int .i64 aAt) rfl) ?_
      refine JL.pure rfl (PO.move (v := str aText) rfl) ?_
      refine JL.op rfl (JO.call [] Tryz.call25 rfl (P_writeFile x_17 m k_16 (by omega) (by omega) aId aAt aText (by omega) (by omega) (by omega)) rfl (fun w hw => ⟨⟨hw.see (i := 1) rfl, hw.see (i := 2) rfl, hw.see (i := 3) rfl⟩, hw.hex hlow hpre.2⟩)) ?_
      rintro _ _ ⟨_, ⟨x_22, m_23, n_24, e_20, k_21, f_25, rfl, rfl⟩, rfl⟩
      have hqe_20 := e_8.symm.trans e_20
      simp only [Prod.mk.injEq] at hqe_20
      obtain ⟨rfl, rfl⟩ := hqe_20
      refine JL.pure rfl (PO.move (v := .tuple #[mv x_22 m_11, .int .i64 n_12]) rfl) ?_
      refine JL.pure rfl (PO.extract (v := mv x_22 m_11) rfl rfl) ?_
      refine JL.pure rfl (PO.extract (v := .int .i64 n_12) rfl rfl) ?_
      refine JL.op rfl (JO.alloc (z := .agg #[.slice none 0 0, .slice none 0 0, .slice none 0 0]) (cs := [.slice none 0 0, .slice none 0 0, .slice none 0 0]) Tryz.zeroValue32 rfl) ?_
      rintro _ _ ⟨b_26, rfl, rfl⟩
      refine JL.op rfl (JO.store 0 (vs := [.slice x_22.a0 m_11.s.length x_22.c0, .slice x_22.a1 m_11.r.length x_22.c1, .slice x_22.a2 m_11.w.length x_22.c2]) (cs' := [.slice x_22.a0 m_11.s.length x_22.c0, .slice x_22.a1 m_11.r.length x_22.c1, .slice x_22.a2 m_11.w.length x_22.c2]) rfl rfl rfl rfl Tryz.sizeOf32 rfl rfl (Nat.le_of_ble_eq_true rfl) rfl) ?_
      rintro _ _ rfl
      refine JL.pure rfl (PO.assign (v := .int .i64 n_12) rfl) ?_
      refine JL.nil ?_
      refine JQ.seq ?_
      refine JC.seq ?_
      refine JC.seq ?_
      refine JC.region ?_
      refine JL.ld rfl (LO.loadK 0 (vs := [.slice x_22.a0 m_11.s.length x_22.c0, .slice x_22.a1 m_11.r.length x_22.c1, .slice x_22.a2 m_11.w.length x_22.c2]) rfl rfl Tryz.isAgg32 Tryz.sizeOf32 rfl rfl) ?_
      refine JL.ld rfl (LO.loadK 8 (vs := [.slice x_10.a0 m_11.s.length x_10.c0, .slice x_10.a1 m_11.r.length x_10.c1, .slice x_10.a2 m_11.w.length x_10.c2]) rfl rfl Tryz.isAgg32 Tryz.sizeOf32 rfl rfl) ?_
      refine JL.op rfl (JO.call [] Tryz.call19 rfl (N_eqMach x_22 x_10 m_11 k_9 (by omega) (by omega)) rfl (fun w hw => ⟨⟨hw.see (i := 1) rfl, hw.see (i := 2) rfl, hw.see (i := 3) rfl⟩, ⟨hw.see (i := 9) rfl, hw.see (i := 10) rfl, hw.see (i := 11) rfl⟩⟩)) ?_
      rintro _ _ ⟨_, ⟨rfl, rfl⟩, rfl⟩
      refine JL.pure rfl (PO.not rfl) ?_
      refine JL.pure rfl (PO.move (v := .bool false) rfl) ?_
      refine JL.guardOn rfl rfl rfl (congrArg Value.bool rfl) (JO.ofLO (LO.pure (PO.move (v := .int .i64 n_12) rfl))) ?_
      rintro _ _ ⟨rfl, rfl⟩
      refine JL.guardOn rfl rfl rfl (congrArg Value.bool rfl) (JO.ofLO (LO.pure (PO.move (v := .int .i64 n_12) rfl))) ?_
      rintro _ _ ⟨rfl, rfl⟩
      refine JL.guardOn rfl rfl rfl (congrArg Value.bool rfl) (JO.ofLO (LO.pure (PO.neqI rfl rfl))) ?_
      rintro _ _ ⟨rfl, rfl⟩
      refine JL.pure rfl (PO.pickF (v := .bool (!(decide (n_12 = n_12)))) (congrArg Value.bool rfl) rfl) ?_
      refine JL.nil ?_
      refine JQ.seq ?_
      refine JC.condF (congrArg Value.bool (congrArg Bool.not (decide_eq_true rfl))) ?_
      refine JC.skip ?_
      refine JQ.seq ?_
      refine JC.seq ?_
      refine JC.seq ?_
      refine JC.regionA [mb b_19 x_17 m, bk b_1 27 [.slice x.a0 m.s.length x.c0, .slice x.a1 m.r.length x.c1, .slice x.a2 m.w.length x.c2]] 1000 mixed (by simp) ?_
      refine JA.take 0 rfl (by kernel_rfl) (NP.th (NP.th NP.body)) (by kernel_rfl) (by kernel_rfl) (by kernel_rfl) rfl (LO.loadK 0 (vs := [.slice x_17.a0 m.s.length x_17.c0, .slice x_17.a1 m.r.length x_17.c1, .slice x_17.a2 m.w.length x_17.c2]) rfl rfl Tryz.isAgg32 Tryz.sizeOf32 rfl rfl) ?_
      refine JA.take 1 rfl (by kernel_rfl) (NP.th (NP.th NP.body)) (by kernel_rfl) (by kernel_rfl) (by kernel_rfl) rfl (LO.loadK 1 (vs := [.slice x.a0 m.s.length x.c0, .slice x.a1 m.r.length x.c1, .slice x.a2 m.w.length x.c2]) rfl rfl Tryz.isAgg27 Tryz.sizeOf27 rfl rfl) ?_
      refine JA.one (i := 2) (by kernel_rfl) ?_
      refine JX.op rfl rfl (JO.call [] Tryz.call17 rfl (N_toMach x m k_16 (by omega) (by omega)) rfl (fun w hw => ⟨hw.seeOut_ hs_x_a0 (fun _ _ => List.not_mem_nil), hw.seeOut_ hs_x_a1 (fun _ _ => List.not_mem_nil), hw.seeOut_ hs_x_a2 (fun _ _ => List.not_mem_nil)⟩)) ?_
      rintro _ _ ⟨_, ⟨x_33, m_34, rfl, k_32, rfl, rfl⟩, rfl⟩
      refine ⟨(by simp), ?_⟩
      refine JA.one (i := 3) (by kernel_rfl) ?_
      refine JX.op rfl rfl (JO.call [] Tryz.call19 rfl (N_eqMach x_17 x_33 m k_32 (by omega) (by omega)) rfl (fun w hw => ⟨⟨hw.see (i := 8) rfl, hw.see (i := 9) rfl, hw.see (i := 10) rfl⟩, ⟨hw.see (i := 0) rfl, hw.see (i := 1) rfl, hw.see (i := 2) rfl⟩⟩)) ?_
      rintro _ _ ⟨_, ⟨rfl, rfl⟩, rfl⟩
      refine ⟨(by simp), ?_⟩
      refine JA.takeP 4 rfl (by kernel_rfl) (NP.th (NP.th NP.body)) (by kernel_rfl) (by kernel_rfl) rfl (PO.not rfl) ?_
      refine JA.done (by kernel_rfl) ?_
      refine JQ.seq ?_
      refine JC.condF (congrArg Value.bool rfl) ?_
      refine JC.skip ?_
      refine JQ.seq ?_
      refine JC.seq ?_
      refine JC.region ?_
      refine JL.pure rfl (PO.assign (v := .int .i64 1) rfl) ?_
      refine JL.nil ?_
      refine JQ.seq ?_
      refine JC.seq ?_
      refine JC.region ?_
      refine JL.ld rfl (LO.loadK 7 (vs := [.slice x_17.a0 m.s.length x_17.c0, .slice x_17.a1 m.r.length x_17.c1, .slice x_17.a2 m.w.length x_17.c2]) rfl rfl Tryz.isAgg32 Tryz.sizeOf32 rfl rfl) ?_
      refine JL.pure rfl (PO.move (v := .int .i64 1) rfl) ?_
      refine JL.op rfl (JO.call [8, 8, 8] Tryz.call20 rfl (N_markMach x_17 m 1 k_32 (by omega) (by omega) (by omega) (by omega)) rfl (fun _ _ => trivial)) ?_
      rintro _ _ ⟨_, ⟨rfl, rfl⟩, rfl⟩
      have hz34s := k_32.1
      have hz34r := k_32.2.1
      have hz34w := k_32.2.2.1
      refine JL.pure rfl (PO.assign (v := .int .i64 ((1 + 2 * m.s.length + m.r.length + m.w.length : Nat) : Int)) rfl) ?_
      refine JL.nil ?_
      refine JQ.seq ?_
      refine JC.seq ?_
      refine JC.seq ?_
      refine JC.region ?_
      refine JL.pure rfl (PO.move (v := .int .i64 ((1 + 2 * m.s.length + m.r.length + m.w.length : Nat) : Int)) rfl) ?_
      refine JL.pure rfl (PO.lss rfl rfl) ?_
      refine JL.pure rfl (PO.move (v := .bool (decide (((1 + 2 * m.s.length + m.r.length + m.w.length : Nat) : Int) < 0))) rfl) ?_
      have h_35 : ¬ (((1 + 2 * m.s.length + m.r.length + m.w.length : Nat) : Int) < 0) := (by omega)
      refine JL.guardOn rfl rfl rfl (congrArg Value.bool (decide_eq_false h_35)) (JO.ofLO (LO.loadK 6 (vs := [.slice x_22.a0 m_11.s.length x_22.c0, .slice x_22.a1 m_11.r.length x_22.c1, .slice x_22.a2 m_11.w.length x_22.c2]) rfl rfl Tryz.isAgg32 Tryz.sizeOf32 rfl rfl)) ?_
      rintro _ _ ⟨rfl, rfl⟩
      refine JL.guardOn rfl rfl rfl (congrArg Value.bool (decide_eq_false h_35)) (JO.ofLO (LO.loadK 11 (vs := [.slice x_10.a0 m_11.s.length x_10.c0, .slice x_10.a1 m_11.r.length x_10.c1, .slice x_10.a2 m_11.w.length x_10.c2]) rfl rfl Tryz.isAgg32 Tryz.sizeOf32 rfl rfl)) ?_
      rintro _ _ ⟨rfl, rfl⟩
      refine JL.guardOn rfl rfl rfl (congrArg Value.bool (decide_eq_false h_35)) (JO.call [] Tryz.call19 rfl (N_eqMach x_22 x_10 m_11 k_9 (by omega) (by omega)) rfl (fun w hw => ⟨⟨hw.see (i := 7) rfl, hw.see (i := 8) rfl, hw.see (i := 9) rfl⟩, ⟨hw.see (i := 12) rfl, hw.see (i := 13) rfl, hw.see (i := 14) rfl⟩⟩)) ?_
      rintro _ _ ⟨_, ⟨rfl, rfl⟩, rfl⟩
      refine JL.guardOn rfl rfl rfl (congrArg Value.bool (decide_eq_false h_35)) (JO.ofLO (LO.pure (PO.not rfl))) ?_
      rintro _ _ ⟨rfl, rfl⟩
      refine JL.pure rfl (PO.pickF (v := .bool false) (congrArg Value.bool (decide_eq_false h_35)) rfl) ?_
      refine JL.pure rfl (PO.move (v := .bool false) rfl) ?_
      refine JL.guardOn rfl rfl rfl (congrArg Value.bool rfl) (JO.ofLO (LO.pure (PO.move (v := .int .i64 n_12) rfl))) ?_
      rintro _ _ ⟨rfl, rfl⟩
      refine JL.guardOn rfl rfl rfl (congrArg Value.bool rfl) (JO.ofLO (LO.pure (PO.move (v := .int .i64 n_12) rfl))) ?_
      rintro _ _ ⟨rfl, rfl⟩
      refine JL.guardOn rfl rfl rfl (congrArg Value.bool rfl) (JO.ofLO (LO.pure (PO.neqI rfl rfl))) ?_
      rintro _ _ ⟨rfl, rfl⟩
      refine JL.pure rfl (PO.pickF (v := .bool (!(decide (n_12 = n_12)))) (congrArg Value.bool rfl) rfl) ?_
      refine JL.nil ?_
      refine JQ.seq ?_
      refine JC.condF (congrArg Value.bool (congrArg Bool.not (decide_eq_true rfl))) ?_
      refine JC.skip ?_
      refine JQ.seq ?_
      refine JC.seq ?_
      refine JC.region ?_
      refine JL.pure rfl (PO.assign (v := .int .i64 1) rfl) ?_
      refine JL.nil ?_
      refine JQ.seq ?_
      refine JC.seq ?_
      refine JC.region ?_
      refine JL.ld rfl (LO.loadK 6 (vs := [.slice x_22.a0 m_11.s.length x_22.c0, .slice x_22.a1 m_11.r.length x_22.c1, .slice x_22.a2 m_11.w.length x_22.c2]) rfl rfl Tryz.isAgg32 Tryz.sizeOf32 rfl rfl) ?_
      refine JL.pure rfl (PO.move (v := .int .i64 1) rfl) ?_
      refine JL.op rfl (JO.call [7, 7, 7] Tryz.call20 rfl (N_markMach x_22 m_11 1 k_9 (by omega) (by omega) (by omega) (by omega)) rfl (fun _ _ => trivial)) ?_
      rintro _ _ ⟨_, ⟨rfl, rfl⟩, rfl⟩
      have hz35s := k_9.1
      have hz35r := k_9.2.1
      have hz35w := k_9.2.2.1
      refine JL.pure rfl (PO.assign (v := .int .i64 ((1 + 2 * m_11.s.length + m_11.r.length + m_11.w.length : Nat) : Int)) rfl) ?_
      refine JL.nil ?_
      refine JQ.seq ?_
      refine JC.seq ?_
      refine JC.region ?_
      refine JL.pure rfl (PO.assign (v := .int .i64 1) rfl) ?_
      refine JL.nil ?_
      refine JQ.seq ?_
      refine JC.seq ?_
      refine JC.region ?_
      refine JL.ld rfl (LO.loadK 9 (vs := [.slice x_22.a0 m_11.s.length x_22.c0, .slice x_22.a1 m_11.r.length x_22.c1, .slice x_22.a2 m_11.w.length x_22.c2]) rfl rfl Tryz.isAgg32 Tryz.sizeOf32 rfl rfl) ?_
      refine JL.pure rfl (PO.move (v := .int .i64 1) rfl) ?_
      refine JL.op rfl (JO.call [] Tryz.call21 rfl (N_heldMach x_22 m_11 1 k_9 (by omega) (by omega) (by omega) (by omega)) rfl (fun w hw => ⟨hw.see (i := 0) rfl, hw.see (i := 1) rfl, hw.see (i := 2) rfl⟩)) ?_
      rintro _ _ ⟨_, ⟨rfl, rfl⟩, rfl⟩
      refine JL.pure rfl (PO.assign (v := .int .i64 ((1 + 2 * m_11.s.length + m_11.r.length + m_11.w.length : Nat) : Int)) rfl) ?_
      refine JL.nil ?_
      refine JQ.seq ?_
      refine JC.seq ?_
      refine JC.seq ?_
      refine JC.region ?_
      refine JL.pure rfl (PO.move (v := .int .i64 ((1 + 2 * m_11.s.length + m_11.r.length + m_11.w.length : Nat) : Int)) rfl) ?_
      refine JL.pure rfl (PO.lss rfl rfl) ?_
      refine JL.nil ?_
      refine JQ.seq ?_
      have h_36 : ¬ (((1 + 2 * m_11.s.length + m_11.r.length + m_11.w.length : Nat) : Int) < 0) := (by omega)
      refine JC.condF (congrArg Value.bool (decide_eq_false h_36)) ?_
      refine JC.skip ?_
      refine JQ.seq ?_
      refine JC.seq ?_
      refine JC.seq ?_
      refine JC.region ?_
      refine JL.pure rfl (PO.move (v := .int .i64 ((1 + 2 * m_11.s.length + m_11.r.length + m_11.w.length : Nat) : Int)) rfl) ?_
      refine JL.pure rfl (PO.move (v := .int .i64 ((1 + 2 * m_11.s.length + m_11.r.length + m_11.w.length : Nat) : Int)) rfl) ?_
      refine JL.pure rfl (PO.neqI rfl rfl) ?_
      refine JL.nil ?_
      refine JQ.seq ?_
      refine JC.condF (congrArg Value.bool (congrArg Bool.not (decide_eq_true rfl))) ?_
      refine JC.skip ?_
      refine JQ.seq ?_
      refine JC.seq ?_
      refine JC.region ?_
      refine JL.ld rfl (LO.loadK 18 (vs := [.slice x.a0 m.s.length x.c0, .slice x.a1 m.r.length x.c1, .slice x.a2 m.w.length x.c2]) rfl rfl Tryz.isAgg27 Tryz.sizeOf27 rfl rfl) ?_
      refine JL.op rfl (JO.call [] Tryz.call17 rfl (N_toMach x m k_32 (by omega) (by omega)) rfl (fun w hw => ⟨hw.seeOut_ hs_x_a0 (fun _ _ => List.not_mem_nil), hw.seeOut_ hs_x_a1 (fun _ _ => List.not_mem_nil), hw.seeOut_ hs_x_a2 (fun _ _ => List.not_mem_nil)⟩)) ?_
      rintro _ _ ⟨_, ⟨x_39, m_40, rfl, k_38, rfl, rfl⟩, rfl⟩
      refine JL.pure rfl (PO.move (v := .int .i64 aId) rfl) ?_
      refine JL.pure rfl (PO.move (v := .int .i64 aAt) rfl) ?_
      refine JL.pure rfl (PO.move (v := str aText) rfl) ?_
      refine JL.op rfl (JO.call [] Tryz.call25 rfl (P_writeFile x_39 m k_38 (by omega) (by omega) aId aAt aText (by omega) (by omega) (by omega)) rfl (fun w hw => ⟨⟨hw.see (i := 0) rfl, hw.see (i := 1) rfl, hw.see (i := 2) rfl⟩, hw.hex hlow hpre.2⟩)) ?_
      rintro _ _ ⟨_, ⟨x_43, m_44, n_45, e_41, k_42, f_46, rfl, rfl⟩, rfl⟩
      have hqe_41 := e_8.symm.trans e_41
      simp only [Prod.mk.injEq] at hqe_41
      obtain ⟨rfl, rfl⟩ := hqe_41
      refine JL.pure rfl (PO.move (v := .tuple #[mv x_43 m_11, .int .i64 n_12]) rfl) ?_
      refine JL.pure rfl (PO.extract (v := mv x_43 m_11) rfl rfl) ?_
      refine JL.pure rfl (PO.extract (v := .int .i64 n_12) rfl rfl) ?_
      refine JL.op rfl (JO.alloc (z := .agg #[.slice none 0 0, .slice none 0 0, .slice none 0 0]) (cs := [.slice none 0 0, .slice none 0 0, .slice none 0 0]) Tryz.zeroValue32 rfl) ?_
      rintro _ _ ⟨b_47, rfl, rfl⟩
      refine JL.op rfl (JO.store 0 (vs := [.slice x_43.a0 m_11.s.length x_43.c0, .slice x_43.a1 m_11.r.length x_43.c1, .slice x_43.a2 m_11.w.length x_43.c2]) (cs' := [.slice x_43.a0 m_11.s.length x_43.c0, .slice x_43.a1 m_11.r.length x_43.c1, .slice x_43.a2 m_11.w.length x_43.c2]) rfl rfl rfl rfl Tryz.sizeOf32 rfl rfl (Nat.le_of_ble_eq_true rfl) rfl) ?_
      rintro _ _ rfl
      refine JL.pure rfl (PO.assign (v := .int .i64 n_12) rfl) ?_
      refine JL.nil ?_
      refine JQ.seq ?_
      refine JC.seq ?_
      refine JC.seq ?_
      refine JC.region ?_
      refine JL.ld rfl (LO.loadK 0 (vs := [.slice x_43.a0 m_11.s.length x_43.c0, .slice x_43.a1 m_11.r.length x_43.c1, .slice x_43.a2 m_11.w.length x_43.c2]) rfl rfl Tryz.isAgg32 Tryz.sizeOf32 rfl rfl) ?_
      refine JL.ld rfl (LO.loadK 18 (vs := [.slice x_10.a0 m_11.s.length x_10.c0, .slice x_10.a1 m_11.r.length x_10.c1, .slice x_10.a2 m_11.w.length x_10.c2]) rfl rfl Tryz.isAgg32 Tryz.sizeOf32 rfl rfl) ?_
      refine JL.op rfl (JO.call [] Tryz.call19 rfl (N_eqMach x_43 x_10 m_11 k_9 (by omega) (by omega)) rfl (fun w hw => ⟨⟨hw.see (i := 1) rfl, hw.see (i := 2) rfl, hw.see (i := 3) rfl⟩, ⟨hw.see (i := 19) rfl, hw.see (i := 20) rfl, hw.see (i := 21) rfl⟩⟩)) ?_
      rintro _ _ ⟨_, ⟨rfl, rfl⟩, rfl⟩
      refine JL.pure rfl (PO.not rfl) ?_
      refine JL.pure rfl (PO.move (v := .bool false) rfl) ?_
      refine JL.guardOn rfl rfl rfl (congrArg Value.bool rfl) (JO.ofLO (LO.pure (PO.move (v := .int .i64 n_12) rfl))) ?_
      rintro _ _ ⟨rfl, rfl⟩
      refine JL.guardOn rfl rfl rfl (congrArg Value.bool rfl) (JO.ofLO (LO.pure (PO.move (v := .int .i64 n_12) rfl))) ?_
      rintro _ _ ⟨rfl, rfl⟩
      refine JL.guardOn rfl rfl rfl (congrArg Value.bool rfl) (JO.ofLO (LO.pure (PO.neqI rfl rfl))) ?_
      rintro _ _ ⟨rfl, rfl⟩
      refine JL.pure rfl (PO.pickF (v := .bool (!(decide (n_12 = n_12)))) (congrArg Value.bool rfl) rfl) ?_
      refine JL.nil ?_
      refine JQ.seq ?_
      refine JC.condF (congrArg Value.bool (congrArg Bool.not (decide_eq_true rfl))) ?_
      refine JC.skip ?_
      refine JQ.seq ?_
      refine JC.seq ?_
      refine JC.region ?_
      refine JL.pure rfl (PO.assign (v := .int .i64 1) rfl) ?_
      refine JL.nil ?_
      refine JQ.seq ?_
      refine JC.seq ?_
      refine JC.region ?_
      refine JL.ld rfl (LO.loadK 16 (vs := [.slice x_22.a0 m_11.s.length x_22.c0, .slice x_22.a1 m_11.r.length x_22.c1, .slice x_22.a2 m_11.w.length x_22.c2]) rfl rfl Tryz.isAgg32 Tryz.sizeOf32 rfl rfl) ?_
      refine JL.pure rfl (PO.move (v := .int .i64 1) rfl) ?_
      refine JL.op rfl (JO.call [] Tryz.call21 rfl (N_heldMach x_22 m_11 1 k_9 (by omega) (by omega) (by omega) (by omega)) rfl (fun w hw => ⟨hw.see (i := 7) rfl, hw.see (i := 8) rfl, hw.see (i := 9) rfl⟩)) ?_
      rintro _ _ ⟨_, ⟨rfl, rfl⟩, rfl⟩
      refine JL.pure rfl (PO.assign (v := .int .i64 ((1 + 2 * m_11.s.length + m_11.r.length + m_11.w.length : Nat) : Int)) rfl) ?_
      refine JL.nil ?_
      refine JQ.seq ?_
      refine JC.seq ?_
      refine JC.seq ?_
      refine JC.region ?_
      refine JL.pure rfl (PO.move (v := .int .i64 ((1 + 2 * m_11.s.length + m_11.r.length + m_11.w.length : Nat) : Int)) rfl) ?_
      refine JL.pure rfl (PO.lss rfl rfl) ?_
      refine JL.nil ?_
      refine JQ.seq ?_
      refine JC.condF (congrArg Value.bool (decide_eq_false h_36)) ?_
      refine JC.skip ?_
      refine JQ.seq ?_
      refine JC.seq ?_
      refine JC.seq ?_
      refine JC.region ?_
      refine JL.pure rfl (PO.move (v := .int .i64 ((1 + 2 * m_11.s.length + m_11.r.length + m_11.w.length : Nat) : Int)) rfl) ?_
      refine JL.pure rfl (PO.move (v := .int .i64 ((1 + 2 * m_11.s.length + m_11.r.length + m_11.w.length : Nat) : Int)) rfl) ?_
      refine JL.pure rfl (PO.neqI rfl rfl) ?_
      refine JL.nil ?_
      refine JQ.seq ?_
      refine JC.condF (congrArg Value.bool (congrArg Bool.not (decide_eq_true rfl))) ?_
      refine JC.skip ?_
      refine JQ.seq ?_
      refine JC.seq ?_
      refine JC.region ?_
      refine JL.pure rfl (PO.assign (v := .bool true) rfl) ?_
      refine JL.nil ?_
      refine JQ.seq ?_
      refine JC.ret ?_
      refine Done.one (.inl rfl) rfl (RV.tmp (v := .bool true) rfl) (List.nil_sublist _) ?_
      exact ⟨rfl, rfl⟩

end Go.Proofs.YtenfajgpdhgknaaGreatDoor
