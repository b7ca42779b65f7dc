/-
  A law that draws, walked: it says yes at every row of bytes.
-/
import Derived.Test.YtenfajgpdhgknaaGreatDoorDatF
import Derived.Test.YtenfajgpdhgknaaGreatDoorDatP
import Derived.Test.YtenfajgpdhgknaaGreatDoorS29OUTS
set_option linter.unusedSimpArgs false
set_option linter.unusedVariables false
set_option linter.unnecessarySimpa false
set_option maxRecDepth 8000
namespace Go.Proofs.YtenfajgpdhgknaaGreatDoor
open Go Go.RowKit
attribute [local irreducible] JL JC JQ JO LO PO JA JX Ct

set_option maxHeartbeats 1600000 in
theorem L_Outs (pa : Option Addr) (pc : Nat) (p : Str) :
    Ct Tryz.prog 14 [.slice pa p.length pc] [] (fun w => Sees w (.slice pa p.length pc) 1 p.length (p.map encB) ∧ HexOk w) (fun v A' => v = .bool true ∧ A' = []) := by
  refine Ct.introL Tryz.func14 rfl Tryz.ntmps14 (Nat.le_of_ble_eq_true rfl) fun w0 hpre hlow => ?_
  have hs_pa : Sees w0 _ _ _ _ := hpre.1
  refine JC.seq ?_
  refine JC.region ?_
  refine JL.pure rfl (PO.assign (v := .bool false) rfl) ?_
  refine JL.nil ?_
  refine JQ.seq ?_
  refine JC.seq ?_
  refine JC.seq ?_
  refine JC.region ?_
  refine JL.pure rfl (PO.move (v := .slice pa p.length pc) rfl) ?_
  refine JL.op rfl (JO.call [] Tryz.call26 rfl (N_big pa pc p) rfl (fun _ _ => trivial)) ?_
  rintro _ _ ⟨_, ⟨rfl, rfl⟩, rfl⟩
  refine JL.nil ?_
  refine JQ.seq ?_
  by_cases h_1 : 1048576 < ((p.length : Nat) : Int)
  · skip
    refine JC.condT (congrArg Value.bool (decide_eq_true h_1)) ?_
    refine JC.seq ?_
    refine JC.region ?_
    refine JL.pure rfl (PO.assign (v := .bool true) rfl) ?_
    refine JL.nil ?_
    refine JQ.seq ?_
    refine JC.ret ?_
    refine JQ.thenRet ?_
    refine Done.one (.inl rfl) rfl (RV.tmp (v := .bool true) rfl) (List.nil_sublist _) ?_
    exact ⟨rfl, rfl⟩
  · skip
    refine JC.condF (congrArg Value.bool (decide_eq_false h_1)) ?_
    refine JC.skip ?_
    refine JQ.seq ?_
    refine JC.seq ?_
    refine JC.region ?_
    refine JL.pure rfl (PO.move (v := .slice pa p.length pc) rfl) ?_
    refine JL.op rfl (JO.call [] Tryz.call108 rfl (D_dPutOut pa pc p (by omega)) rfl (fun w hw => hw.seeOut_ hs_pa (fun _ _ => List.not_mem_nil))) ?_
    rintro _ _ ⟨_, ⟨x_2, m_3, u_5, k_4, f_6, rfl, rfl⟩, rfl⟩
    refine JL.pure rfl (PO.move (v := .tuple #[mv x_2 m_3, str u_5]) rfl) ?_
    refine JL.pure rfl (PO.extract (v := mv x_2 m_3) rfl rfl) ?_
    refine JL.pure rfl (PO.extract (v := str u_5) rfl rfl) ?_
    refine JL.op rfl (JO.alloc (z := .agg #[.slice none 0 0, .slice none 0 0, .slice none 0 0]) (cs := [.slice none 0 0, .slice none 0 0, .slice none 0 0]) Tryz.zeroValue32 rfl) ?_
    rintro _ _ ⟨b_8, rfl, rfl⟩
    refine JL.op rfl (JO.store 0 (vs := [.slice x_2.a0 m_3.s.length x_2.c0, .slice x_2.a1 m_3.r.length x_2.c1, .slice x_2.a2 m_3.w.length x_2.c2]) (cs' := [.slice x_2.a0 m_3.s.length x_2.c0, .slice x_2.a1 m_3.r.length x_2.c1, .slice x_2.a2 m_3.w.length x_2.c2]) rfl rfl rfl rfl Tryz.sizeOf32 rfl rfl (Nat.le_of_ble_eq_true rfl) rfl) ?_
    rintro _ _ rfl
    refine JL.pure rfl (PO.assign (v := str u_5) rfl) ?_
    refine JL.nil ?_
    refine JQ.seq ?_
    refine JC.seq ?_
    refine JC.region ?_
    refine JL.ld rfl (LO.loadK 0 (vs := [.slice x_2.a0 m_3.s.length x_2.c0, .slice x_2.a1 m_3.r.length x_2.c1, .slice x_2.a2 m_3.w.length x_2.c2]) rfl rfl Tryz.isAgg32 Tryz.sizeOf32 rfl rfl) ?_
    refine JL.pure rfl (PO.move (v := str u_5) rfl) ?_
    refine JL.op rfl (JO.call [] Tryz.call109 rfl (P_putOut x_2 m_3 k_4 (by omega) (by omega) u_5 (by omega)) rfl (fun w hw => ⟨hw.see (i := 1) rfl, hw.see (i := 2) rfl, hw.see (i := 3) rfl⟩)) ?_
    rintro _ _ ⟨_, ⟨x_11, m_12, n_13, e_9, k_10, f_14, rfl, rfl⟩, rfl⟩
    refine JL.pure rfl (PO.move (v := .tuple #[mv x_11 m_12, .int .i64 n_13]) rfl) ?_
    refine JL.pure rfl (PO.extract (v := mv x_11 m_12) rfl rfl) ?_
    refine JL.pure rfl (PO.extract (v := .int .i64 n_13) rfl rfl) ?_
    refine JL.op rfl (JO.alloc (z := .agg #[.slice none 0 0, .slice none 0 0, .slice none 0 0]) (cs := [.slice none 0 0, .slice none 0 0, .slice none 0 0]) Tryz.zeroValue32 rfl) ?_
    rintro _ _ ⟨b_15, rfl, rfl⟩
    refine JL.op rfl (JO.store 0 (vs := [.slice x_11.a0 m_12.s.length x_11.c0, .slice x_11.a1 m_12.r.length x_11.c1, .slice x_11.a2 m_12.w.length x_11.c2]) (cs' := [.slice x_11.a0 m_12.s.length x_11.c0, .slice x_11.a1 m_12.r.length x_11.c1, .slice x_11.a2 m_12.w.length x_11.c2]) rfl rfl rfl rfl Tryz.sizeOf32 rfl rfl (Nat.le_of_ble_eq_true rfl) rfl) ?_
    rintro _ _ rfl
    refine JL.pure rfl (PO.assign (v := .int .i64 n_13) rfl) ?_
    refine JL.nil ?_
    refine JQ.seq ?_
    refine JC.seq ?_
    refine JC.region ?_
    refine JL.ld rfl (LO.loadK 4 (vs := [.slice x_2.a0 m_3.s.length x_2.c0, .slice x_2.a1 m_3.r.length x_2.c1, .slice x_2.a2 m_3.w.length x_2.c2]) rfl rfl Tryz.isAgg32 Tryz.sizeOf32 rfl rfl) ?_
    refine JL.pure rfl (PO.move (v := str u_5) rfl) ?_
    refine JL.op rfl (JO.call [] Tryz.call110 rfl (Q_putOut x_2 m_3 k_4 (by omega) (by omega) u_5 (by omega)) rfl (fun w hw => ⟨hw.see (i := 5) rfl, hw.see (i := 6) rfl, hw.see (i := 7) rfl⟩)) ?_
    rintro _ _ ⟨_, ⟨x_18, m_19, n_20, e_16, k_17, f_21, rfl, rfl⟩, rfl⟩
    have hqe_16 := e_9.symm.trans e_16
    simp only [Prod.mk.injEq] at hqe_16
    obtain ⟨rfl, rfl⟩ := hqe_16
    refine JL.pure rfl (PO.move (v := .tuple #[mv x_18 m_12, .int .i64 n_13]) rfl) ?_
    refine JL.pure rfl (PO.extract (v := mv x_18 m_12) rfl rfl) ?_
    refine JL.pure rfl (PO.extract (v := .int .i64 n_13) rfl rfl) ?_
    refine JL.op rfl (JO.alloc (z := .agg #[.slice none 0 0, .slice none 0 0, .slice none 0 0]) (cs := [.slice none 0 0, .slice none 0 0, .slice none 0 0]) Tryz.zeroValue32 rfl) ?_
    rintro _ _ ⟨b_22, rfl, rfl⟩
    refine JL.op rfl (JO.store 0 (vs := [.slice x_18.a0 m_12.s.length x_18.c0, .slice x_18.a1 m_12.r.length x_18.c1, .slice x_18.a2 m_12.w.length x_18.c2]) (cs' := [.slice x_18.a0 m_12.s.length x_18.c0, .slice x_18.a1 m_12.r.length x_18.c1, .slice x_18.a2 m_12.w.length x_18.c2]) rfl rfl rfl rfl Tryz.sizeOf32 rfl rfl (Nat.le_of_ble_eq_true rfl) rfl) ?_
    rintro _ _ rfl
    refine JL.pure rfl (PO.assign (v := .int .i64 n_13) rfl) ?_
    refine JL.nil ?_
    refine JQ.seq ?_
    refine JC.seq ?_
    refine JC.region ?_
    refine JL.pure rfl (PO.move (v := .slice pa p.length pc) rfl) ?_
    refine JL.op rfl (JO.call [] Tryz.call111 rfl (D_dOutsIn pa pc p (by omega)) rfl (fun w hw => hw.seeOut_ hs_pa (fun _ _ => List.not_mem_nil))) ?_
    rintro _ _ ⟨_, ⟨l_23a, l_23c, l_23, f_24, rfl, rfl⟩, rfl⟩
    refine JL.pure rfl (PO.assign (v := .slice l_23a l_23.length l_23c) rfl) ?_
    refine JL.nil ?_
    refine JQ.seq ?_
    refine JC.seq ?_
    refine JC.region ?_
    refine JL.pure rfl (PO.move (v := .slice l_23a l_23.length l_23c) rfl) ?_
    refine JL.op rfl (JO.call [] Tryz.call112 rfl (N_outsIn l_23a l_23c l_23 (by omega) (okC_get f_24)) rfl (fun w hw => ⟨hw.see (i := 0) rfl, hw.hex hlow hpre.2⟩)) ?_
    rintro _ _ ⟨_, ⟨l_28a, l_28c, l_28, e_26, f_29, rfl, rfl⟩, rfl⟩
    refine JL.pure rfl (PO.assign (v := .slice l_28a l_28.length l_28c) rfl) ?_
    refine JL.nil ?_
    refine JQ.seq ?_
    refine JC.seq ?_
    refine JC.region ?_
    refine JL.pure rfl (PO.move (v := .slice pa p.length pc) rfl) ?_
    refine JL.op rfl (JO.call [] Tryz.call113 rfl (D_dOutsFrom pa pc p (by omega)) rfl (fun w hw => hw.seeOut_ hs_pa (fun _ _ => List.not_mem_nil))) ?_
    rintro _ _ ⟨_, ⟨l_30a, l_30c, l_30, n_32, f_31, f_33, rfl, rfl⟩, rfl⟩
    refine JL.pure rfl (PO.move (v := .tuple #[.slice l_30a l_30.length l_30c, .int .i64 n_32]) rfl) ?_
    refine JL.pure rfl (PO.extract (v := .slice l_30a l_30.length l_30c) rfl rfl) ?_
    refine JL.pure rfl (PO.extract (v := .int .i64 n_32) rfl rfl) ?_
    refine JL.pure rfl (PO.assign (v := .slice l_30a l_30.length l_30c) rfl) ?_
    refine JL.pure rfl (PO.assign (v := .int .i64 n_32) rfl) ?_
    refine JL.nil ?_
    refine JQ.seq ?_
    refine JC.seq ?_
    refine JC.region ?_
    refine JL.pure rfl (PO.move (v := .slice pa p.length pc) rfl) ?_
    refine JL.op rfl (JO.call [] Tryz.call114 rfl (D_dOutsGoOn pa pc p (by omega)) rfl (fun w hw => hw.seeOut_ hs_pa (fun _ _ => List.not_mem_nil))) ?_
    rintro _ _ ⟨_, (⟨l_35a, l_35c, l_35, l_36a, l_36c, l_36, f_37, f_38, rfl, rfl⟩ | ⟨l_35a, l_35c, l_35, f_37, rfl, rfl⟩), rfl⟩
    · skip
      refine JL.pure rfl (PO.move (v := .tuple #[.slice l_35a l_35.length l_35c, .slice l_36a l_36.length l_36c]) rfl) ?_
      refine JL.pure rfl (PO.extract (v := .slice l_35a l_35.length l_35c) rfl rfl) ?_
      refine JL.pure rfl (PO.extract (v := .slice l_36a l_36.length l_36c) rfl rfl) ?_
      refine JL.pure rfl (PO.assign (v := .slice l_35a l_35.length l_35c) rfl) ?_
      refine JL.pure rfl (PO.assign (v := .slice l_36a l_36.length l_36c) rfl) ?_
      refine JL.nil ?_
      refine JQ.seq ?_
      refine JC.seq ?_
      refine JC.seq ?_
      refine JC.region ?_
      refine JL.pure rfl (PO.move (v := .int .i64 n_13) rfl) ?_
      refine JL.pure rfl (PO.move (v := .int .i64 n_13) rfl) ?_
      refine JL.pure rfl (PO.neqI rfl rfl) ?_
      refine JL.pure rfl (PO.move (v := .bool (!(decide (n_13 = n_13)))) rfl) ?_
      refine JL.guardOn rfl rfl rfl (congrArg Value.bool (congrArg Bool.not (decide_eq_true rfl))) (JO.ofLO (LO.loadK 9 (vs := [.slice x_11.a0 m_12.s.length x_11.c0, .slice x_11.a1 m_12.r.length x_11.c1, .slice x_11.a2 m_12.w.length x_11.c2]) rfl rfl Tryz.isAgg32 Tryz.sizeOf32 rfl rfl)) ?_
      rintro _ _ ⟨rfl, rfl⟩
      refine JL.guardOn rfl rfl rfl (congrArg Value.bool (congrArg Bool.not (decide_eq_true rfl))) (JO.ofLO (LO.loadK 5 (vs := [.slice x_18.a0 m_12.s.length x_18.c0, .slice x_18.a1 m_12.r.length x_18.c1, .slice x_18.a2 m_12.w.length x_18.c2]) rfl rfl Tryz.isAgg32 Tryz.sizeOf32 rfl rfl)) ?_
      rintro _ _ ⟨rfl, rfl⟩
      refine JL.guardOn rfl rfl rfl (congrArg Value.bool (congrArg Bool.not (decide_eq_true rfl))) (JO.call [] Tryz.call30 rfl (N_sameMach x_11 x_18 m_12 k_10 (by omega) (by omega)) rfl (fun w hw => ⟨⟨hw.see (i := 10) rfl, hw.see (i := 11) rfl, hw.see (i := 12) rfl⟩, ⟨hw.see (i := 6) rfl, hw.see (i := 7) rfl, hw.see (i := 8) rfl⟩⟩)) ?_
      rintro _ _ ⟨_, ⟨rfl, rfl⟩, rfl⟩
      refine JL.guardOn rfl rfl rfl (congrArg Value.bool (congrArg Bool.not (decide_eq_true rfl))) (JO.ofLO (LO.pure (PO.not rfl))) ?_
      rintro _ _ ⟨rfl, rfl⟩
      refine JL.pure rfl (PO.pickF (v := .bool false) (congrArg Value.bool (congrArg Bool.not (decide_eq_true rfl))) rfl) ?_
      refine JL.pure rfl (PO.move (v := .bool false) rfl) ?_
      refine JL.guardOn rfl rfl rfl (congrArg Value.bool rfl) (JO.ofLO (LO.pure (PO.move (v := .slice l_28a l_28.length l_28c) rfl))) ?_
      rintro _ _ ⟨rfl, rfl⟩
      refine JL.guardOn rfl rfl rfl (congrArg Value.bool rfl) (JO.ofLO (LO.pure (PO.move (v := .slice l_23a l_23.length l_23c) rfl))) ?_
      rintro _ _ ⟨rfl, rfl⟩
      refine JL.guardOn rfl rfl rfl (congrArg Value.bool rfl) (JO.call [] Tryz.call115 rfl (N_sOutsIn l_23a l_23c l_23 (by omega) (okC_get f_24)) rfl (fun w hw => hw.see (i := 4) rfl)) ?_
      rintro _ _ ⟨_, ⟨l_41a, l_41c, l_41, e_39, f_42, rfl, rfl⟩, rfl⟩
      refine JL.guardOn rfl rfl rfl (congrArg Value.bool rfl) (JO.call [] Tryz.call51 rfl (C_sameTexts l_28a l_41a l_28c l_41c l_28 l_41 (by omega)) rfl (fun w hw => ⟨hw.see (i := 4) rfl, hw.see (i := 0) rfl⟩)) ?_
      rintro _ _ ⟨_, ⟨rfl, rfl⟩, rfl⟩
      refine JL.guardOn rfl rfl rfl (congrArg Value.bool rfl) (JO.ofLO (LO.pure (PO.not rfl))) ?_
      rintro _ _ ⟨rfl, rfl⟩
      refine JL.pure rfl (PO.pickF (v := .bool (!(decide (l_28 = l_41)))) (congrArg Value.bool rfl) rfl) ?_
      refine JL.pure rfl (PO.move (v := .bool (!(decide (l_28 = l_41)))) rfl) ?_
      by_cases h_43 : l_28 = l_41
      · skip
        refine JL.guardOn rfl rfl rfl (congrArg Value.bool (congrArg Bool.not (decide_eq_true h_43))) (JO.ofLO (LO.pure (PO.move (v := .slice l_23a l_23.length l_23c) rfl))) ?_
        rintro _ _ ⟨rfl, rfl⟩
        refine JL.guardOn rfl rfl rfl (congrArg Value.bool (congrArg Bool.not (decide_eq_true h_43))) (JO.call [] Tryz.call116 rfl (N_outCount l_23a l_23c l_23 (by omega) (okC_get f_24)) rfl (fun w hw => hw.see (i := 5) rfl)) ?_
        rintro _ _ ⟨_, ⟨n_46, e_44, f_47, rfl, rfl⟩, rfl⟩
        refine JL.guardOn rfl rfl rfl (congrArg Value.bool (congrArg Bool.not (decide_eq_true h_43))) (JO.ofLO (LO.pure (PO.move (v := .slice l_28a l_28.length l_28c) rfl))) ?_
        rintro _ _ ⟨rfl, rfl⟩
        refine JL.guardOn rfl rfl rfl (congrArg Value.bool (congrArg Bool.not (decide_eq_true h_43))) (JO.ofLO (LO.pure (PO.lenV Tryz.underlying23 rfl))) ?_
        rintro _ _ ⟨rfl, rfl⟩
        refine JL.guardOn rfl rfl rfl (congrArg Value.bool (congrArg Bool.not (decide_eq_true h_43))) (JO.ofLO (LO.pure (PO.neqI rfl rfl))) ?_
        rintro _ _ ⟨rfl, rfl⟩
        refine JL.pure rfl (PO.pickF (v := .bool (!(decide (n_46 = ((l_28.length : Nat) : Int))))) (congrArg Value.bool (congrArg Bool.not (decide_eq_true h_43))) rfl) ?_
        refine JL.pure rfl (PO.move (v := .bool (!(decide (n_46 = ((l_28.length : Nat) : Int))))) rfl) ?_
        by_cases h_48 : n_46 = ((l_28.length : Nat) : Int)
        · skip
          refine JL.guardOn rfl rfl rfl (congrArg Value.bool (congrArg Bool.not (decide_eq_true h_48))) (JO.ofLO (LO.pure (PO.move (v := .slice l_30a l_30.length l_30c) rfl))) ?_
          rintro _ _ ⟨rfl, rfl⟩
          refine JL.guardOn rfl rfl rfl (congrArg Value.bool (congrArg Bool.not (decide_eq_true h_48))) (JO.ofLO (LO.pure (PO.move (v := .int .i64 n_32) rfl))) ?_
          rintro _ _ ⟨rfl, rfl⟩
          refine JL.guardOn rfl rfl rfl (congrArg Value.bool (congrArg Bool.not (decide_eq_true h_48))) (JO.call [] Tryz.call117 rfl (N_outsFrom l_30a l_30c l_30 n_32 (by omega) (by omega) (okC_get f_31)) rfl (fun w hw => ⟨hw.see (i := 3) rfl, hw.hex hlow hpre.2⟩)) ?_
          rintro _ _ ⟨_, ⟨l_51a, l_51c, l_51, e_49, f_52, rfl, rfl⟩, rfl⟩
          refine JL.guardOn rfl rfl rfl (congrArg Value.bool (congrArg Bool.not (decide_eq_true h_48))) (JO.ofLO (LO.pure (PO.move (v := .slice l_30a l_30.length l_30c) rfl))) ?_
          rintro _ _ ⟨rfl, rfl⟩
          refine JL.guardOn rfl rfl rfl (congrArg Value.bool (congrArg Bool.not (decide_eq_true h_48))) (JO.ofLO (LO.pure (PO.move (v := .int .i64 n_32) rfl))) ?_
          rintro _ _ ⟨rfl, rfl⟩
          refine JL.guardOn rfl rfl rfl (congrArg Value.bool (congrArg Bool.not (decide_eq_true h_48))) (JO.call [] Tryz.call118 rfl (N_sOutsFrom l_30a l_30c l_30 n_32 (by omega) (by omega) (okC_get f_31)) rfl (fun w hw => hw.see (i := 4) rfl)) ?_
          rintro _ _ ⟨_, ⟨l_55a, l_55c, l_55, e_53, f_56, rfl, rfl⟩, rfl⟩
          refine JL.guardOn rfl rfl rfl (congrArg Value.bool (congrArg Bool.not (decide_eq_true h_48))) (JO.call [] Tryz.call51 rfl (C_sameTexts l_51a l_55a l_51c l_55c l_51 l_55 (by omega)) rfl (fun w hw => ⟨hw.see (i := 1) rfl, hw.see (i := 0) rfl⟩)) ?_
          rintro _ _ ⟨_, ⟨rfl, rfl⟩, rfl⟩
          refine JL.guardOn rfl rfl rfl (congrArg Value.bool (congrArg Bool.not (decide_eq_true h_48))) (JO.ofLO (LO.pure (PO.not rfl))) ?_
          rintro _ _ ⟨rfl, rfl⟩
          refine JL.pure rfl (PO.pickF (v := .bool (!(decide (l_51 = l_55)))) (congrArg Value.bool (congrArg Bool.not (decide_eq_true h_48))) rfl) ?_
          refine JL.pure rfl (PO.move (v := .bool (!(decide (l_51 = l_55)))) rfl) ?_
          by_cases h_57 : l_51 = l_55
          · skip
            refine JL.guardOn rfl rfl rfl (congrArg Value.bool (congrArg Bool.not (decide_eq_true h_57))) (JO.ofLO (LO.pure (PO.move (v := .slice l_35a l_35.length l_35c) rfl))) ?_
            rintro _ _ ⟨rfl, rfl⟩
            refine JL.guardOn rfl rfl rfl (congrArg Value.bool (congrArg Bool.not (decide_eq_true h_57))) (JO.ofLO (LO.pure (PO.move (v := .slice l_36a l_36.length l_36c) rfl))) ?_
            rintro _ _ ⟨rfl, rfl⟩
            refine JL.guardOn rfl rfl rfl (congrArg Value.bool (congrArg Bool.not (decide_eq_true h_57))) (JO.call [] Tryz.call119 rfl (N_igoOn l_35a l_35c l_35 l_36a l_36c l_36 (by omega) (by omega)) rfl (fun w hw => ⟨hw.see (i := 3) rfl, hw.see (i := 4) rfl⟩)) ?_
            rintro _ _ ⟨_, ⟨b_60, e_58, rfl, rfl⟩, rfl⟩
            refine JL.guardOn rfl rfl rfl (congrArg Value.bool (congrArg Bool.not (decide_eq_true h_57))) (JO.ofLO (LO.pure (PO.move (v := .slice l_35a l_35.length l_35c) rfl))) ?_
            rintro _ _ ⟨rfl, rfl⟩
            refine JL.guardOn rfl rfl rfl (congrArg Value.bool (congrArg Bool.not (decide_eq_true h_57))) (JO.ofLO (LO.pure (PO.move (v := .slice l_36a l_36.length l_36c) rfl))) ?_
            rintro _ _ ⟨rfl, rfl⟩
            refine JL.guardOn rfl rfl rfl (congrArg Value.bool (congrArg Bool.not (decide_eq_true h_57))) (JO.call [] Tryz.call120 rfl (N_sgoOn l_35a l_35c l_35 l_36a l_36c l_36 (by omega) (by omega)) rfl (fun w hw => ⟨hw.see (i := 3) rfl, hw.see (i := 4) rfl⟩)) ?_
            rintro _ _ ⟨_, ⟨b_63, e_61, rfl, rfl⟩, rfl⟩
            refine JL.guardOn rfl rfl rfl (congrArg Value.bool (congrArg Bool.not (decide_eq_true h_57))) (JO.ofLO (LO.pure (PO.neqB Tryz.underlying4 rfl rfl))) ?_
            rintro _ _ ⟨rfl, rfl⟩
            refine JL.pure rfl (PO.pickF (v := .bool (!(decide (b_60 = b_63)))) (congrArg Value.bool (congrArg Bool.not (decide_eq_true h_57))) rfl) ?_
            refine JL.nil ?_
            refine JQ.sub (L' := []) (.cons _ (.cons _ (.cons _ (.cons _ (.cons _ (.cons _ (.cons _ (.cons _ (.cons _ (.cons _ (.cons _ (.cons _ (.cons _ (.cons _ (.cons _ (.cons _ (.cons _ (.cons _ (.cons _ (.cons _ (.slnil))))))))))))))))))))) ?_
            refine JQ.seq ?_
            by_cases h_64 : b_60 = b_63
            · skip
              refine JC.condF (congrArg Value.bool (congrArg Bool.not (decide_eq_true h_64))) ?_
              refine JC.skip ?_
              refine JQ.seq ?_
              refine JC.seq ?_
              refine JC.region ?_
              refine JL.op rfl (JO.call [] Tryz.call36 rfl (D_base) rfl (fun _ _ => trivial)) ?_
              rintro _ _ ⟨_, ⟨x_65, m_66, e_68, k_67, rfl, rfl⟩, rfl⟩
              refine JL.op rfl (JO.call [] Tryz.call109 rfl (P_putOut x_65 m_66 k_67 (by omega) (by omega) [97, 98] (by decide)) rfl (fun w hw => ⟨hw.see (i := 0) rfl, hw.see (i := 1) rfl, hw.see (i := 2) rfl⟩)) ?_
              rintro _ _ ⟨_, ⟨x_71, m_72, n_73, e_69, k_70, f_74, rfl, rfl⟩, rfl⟩
              refine JL.pure rfl (PO.move (v := .tuple #[mv x_71 m_72, .int .i64 n_73]) rfl) ?_
              refine JL.pure rfl (PO.extract (v := mv x_71 m_72) rfl rfl) ?_
              refine JL.pure rfl (PO.extract (v := .int .i64 n_73) rfl rfl) ?_
              refine JL.op rfl (JO.alloc (z := .agg #[.slice none 0 0, .slice none 0 0, .slice none 0 0]) (cs := [.slice none 0 0, .slice none 0 0, .slice none 0 0]) Tryz.zeroValue32 rfl) ?_
              rintro _ _ ⟨b_75, rfl, rfl⟩
              refine JL.op rfl (JO.store 0 (vs := [.slice x_71.a0 m_72.s.length x_71.c0, .slice x_71.a1 m_72.r.length x_71.c1, .slice x_71.a2 m_72.w.length x_71.c2]) (cs' := [.slice x_71.a0 m_72.s.length x_71.c0, .slice x_71.a1 m_72.r.length x_71.c1, .slice x_71.a2 m_72.w.length x_71.c2]) rfl rfl rfl rfl Tryz.sizeOf32 rfl rfl (Nat.le_of_ble_eq_true rfl) rfl) ?_
              rintro _ _ rfl
              refine JL.pure rfl (PO.assign (v := .int .i64 n_73) rfl) ?_
              refine JL.nil ?_
              refine JQ.seq ?_
              refine JC.seq ?_
              refine JC.region ?_
              refine JL.ld rfl (LO.loadK 0 (vs := [.slice x_71.a0 m_72.s.length x_71.c0, .slice x_71.a1 m_72.r.length x_71.c1, .slice x_71.a2 m_72.w.length x_71.c2]) rfl rfl Tryz.isAgg32 Tryz.sizeOf32 rfl rfl) ?_
              refine JL.op rfl (JO.call [] Tryz.call109 rfl (P_putOut x_71 m_72 k_70 (by omega) (by omega) [99] (by decide)) rfl (fun w hw => ⟨hw.see (i := 1) rfl, hw.see (i := 2) rfl, hw.see (i := 3) rfl⟩)) ?_
              rintro _ _ ⟨_, ⟨x_78, m_79, n_80, e_76, k_77, f_81, rfl, rfl⟩, rfl⟩
              refine JL.pure rfl (PO.move (v := .tuple #[mv x_78 m_79, .int .i64 n_80]) rfl) ?_
              refine JL.pure rfl (PO.extract (v := mv x_78 m_79) rfl rfl) ?_
              refine JL.pure rfl (PO.extract (v := .int .i64 n_80) rfl rfl) ?_
              refine JL.op rfl (JO.alloc (z := .agg #[.slice none 0 0, .slice none 0 0, .slice none 0 0]) (cs := [.slice none 0 0, .slice none 0 0, .slice none 0 0]) Tryz.zeroValue32 rfl) ?_
              rintro _ _ ⟨b_82, rfl, rfl⟩
              refine JL.op rfl (JO.store 0 (vs := [.slice x_78.a0 m_79.s.length x_78.c0, .slice x_78.a1 m_79.r.length x_78.c1, .slice x_78.a2 m_79.w.length x_78.c2]) (cs' := [.slice x_78.a0 m_79.s.length x_78.c0, .slice x_78.a1 m_79.r.length x_78.c1, .slice x_78.a2 m_79.w.length x_78.c2]) rfl rfl rfl rfl Tryz.sizeOf32 rfl rfl (Nat.le_of_ble_eq_true rfl) rfl) ?_
              rintro _ _ rfl
              refine JL.pure rfl (PO.assign (v := .int .i64 n_80) rfl) ?_
              refine JL.nil ?_
              refine JQ.seq ?_
              refine JC.seq ?_
              refine JC.regionA [mb b_82 x_78 m_79, mb b_75 x_71 m_72] 19 mixed (by simp) ?_
              refine JA.takeP 0 rfl (by kernel_rfl) (NP.th NP.body) (by kernel_rfl) (by kernel_rfl) rfl (PO.fieldAddr fo32_0 rfl) ?_
              refine JA.take 1 rfl (by kernel_rfl) (NP.th NP.body) (by kernel_rfl) (by kernel_rfl) (by kernel_rfl) rfl (LO.load1 0 (v := .slice x_78.a0 m_79.s.length x_78.c0) rfl rfl Tryz.isAgg29 rfl) ?_
              refine JA.two (i := 2) (j := 3) (by kernel_rfl) ?_ ?_
              · skip
                refine JX.op rfl rfl (JO.call [] Tryz.call112 rfl (N_outsIn x_78.a0 x_78.c0 m_79.s (by have hl_ := k_77.1; omega) (fun key => k_77.getKey key)) rfl (fun w hw => ⟨hw.see (i := 1) rfl, hw.hex hlow hpre.2⟩)) ?_
                rintro _ _ ⟨_, ⟨l_90a, l_90c, l_90, e_88, f_91, rfl, rfl⟩, rfl⟩
                refine ⟨(by simp), ?_⟩
                refine JA.one (i := 3) (by kernel_rfl) ?_
                refine JX.op rfl rfl (JO.buildSlice (ps := [(0, str [97, 98]), (1, str [99])]) (cur := #[str [97, 98], str [99]]) Tryz.underlying23 Tryz.sizeOf9 Tryz.zeroValue9 rfl (by kernel_rfl) (by decide) (by decide)) ?_
                rintro _ _ ⟨a_93, rfl, rfl⟩
                refine ⟨(by simp), ?_⟩
                refine JA.one (i := 4) (by kernel_rfl) ?_
                refine JX.op rfl rfl (JO.call [] Tryz.call51 rfl (C_sameTexts l_90a a_93 l_90c 2 l_90 ([[97, 98], [99]] : List Str) (by omega)) rfl (fun w hw => ⟨hw.see (i := 1) rfl, hw.see (i := 0) rfl⟩)) ?_
                rintro _ _ ⟨_, ⟨rfl, rfl⟩, rfl⟩
                refine ⟨(by simp), ?_⟩
                refine JA.takeP 5 rfl (by kernel_rfl) (NP.th NP.body) (by kernel_rfl) (by kernel_rfl) rfl (PO.move (v := .bool (decide (l_90 = ([[97, 98], [99]] : List Str)))) rfl) ?_
                by_cases h_94 : l_90 = ([[97, 98], [99]] : List Str)
                · skip
                  refine JA.takeOnP 6 rfl (by kernel_rfl) (NP.th NP.body) (by kernel_rfl) (by kernel_rfl) rfl rfl rfl (congrArg Value.bool (decide_eq_true h_94)) (PO.fieldAddr fo32_0 rfl) ?_
                  refine JA.takeOn 7 rfl (by kernel_rfl) (NP.th NP.body) (by kernel_rfl) (by kernel_rfl) (by kernel_rfl) rfl rfl rfl (congrArg Value.bool (decide_eq_true h_94)) (LO.load1 1 (v := .slice x_71.a0 m_72.s.length x_71.c0) rfl rfl Tryz.isAgg29 rfl) ?_
                  refine JA.takeOnP 9 rfl (by kernel_rfl) (NP.th NP.body) (by kernel_rfl) (by kernel_rfl) rfl rfl rfl (congrArg Value.bool (decide_eq_true h_94)) (PO.fieldAddr fo32_0 rfl) ?_
                  refine JA.takeOn 10 rfl (by kernel_rfl) (NP.th NP.body) (by kernel_rfl) (by kernel_rfl) (by kernel_rfl) rfl rfl rfl (congrArg Value.bool (decide_eq_true h_94)) (LO.load1 0 (v := .slice x_78.a0 m_79.s.length x_78.c0) rfl rfl Tryz.isAgg29 rfl) ?_
                  refine JA.one (i := 8) (by kernel_rfl) ?_
                  refine JX.opOn rfl rfl rfl rfl (congrArg Value.bool (decide_eq_true h_94)) (JO.call [] Tryz.call112 rfl (N_outsIn x_71.a0 x_71.c0 m_72.s (by have hl_ := k_70.1; omega) (fun key => k_70.getKey key)) rfl (fun w hw => ⟨hw.see (i := 7) rfl, hw.hex hlow hpre.2⟩)) ?_
                  rintro _ _ ⟨_, ⟨l_109a, l_109c, l_109, e_107, f_110, rfl, rfl⟩, rfl⟩
                  refine ⟨(by simp), ?_⟩
                  refine JA.one (i := 11) (by kernel_rfl) ?_
                  refine JX.opOn rfl rfl rfl rfl (congrArg Value.bool (decide_eq_true h_94)) (JO.call [] Tryz.call112 rfl (N_outsIn x_78.a0 x_78.c0 m_79.s (by have hl_ := k_77.1; omega) (fun key => k_77.getKey key)) rfl (fun w hw => ⟨hw.see (i := 4) rfl, hw.hex hlow hpre.2⟩)) ?_
                  rintro _ _ ⟨_, ⟨l_117a, l_117c, l_117, e_115, f_118, rfl, rfl⟩, rfl⟩
                  refine ⟨(by simp), ?_⟩
                  refine JA.one (i := 12) (by kernel_rfl) ?_
                  refine JX.opOn rfl rfl rfl rfl (congrArg Value.bool (decide_eq_true h_94)) (JO.call [] Tryz.call119 rfl (N_igoOn l_109a l_109c l_109 l_117a l_117c l_117 (by omega) (by omega)) rfl (fun w hw => ⟨hw.see (i := 1) rfl, hw.see (i := 0) rfl⟩)) ?_
                  rintro _ _ ⟨_, ⟨b_124, e_122, rfl, rfl⟩, rfl⟩
                  refine ⟨(by simp), ?_⟩
                  refine JA.takeP 13 rfl (by kernel_rfl) (NP.th NP.body) (by kernel_rfl) (by kernel_rfl) rfl (PO.pickT (v := .bool b_124) (congrArg Value.bool (decide_eq_true h_94)) rfl) ?_
                  refine JA.takeP 14 rfl (by kernel_rfl) (NP.th NP.body) (by kernel_rfl) (by kernel_rfl) rfl (PO.move (v := .bool b_124) rfl) ?_
                  rcases Bool.eq_false_or_eq_true (b_124) with h_125 | h_125
                  · skip
                    refine JA.one (i := 15) (by kernel_rfl) ?_
                    refine JX.opOn rfl rfl rfl rfl (congrArg Value.bool h_125) (JO.buildSlice (ps := [(0, str [97])]) (cur := #[str [97]]) Tryz.underlying23 Tryz.sizeOf9 Tryz.zeroValue9 rfl (by kernel_rfl) (by decide) (by decide)) ?_
                    rintro _ _ ⟨a_127, rfl, rfl⟩
                    refine ⟨(by simp), ?_⟩
                    refine JA.one (i := 16) (by kernel_rfl) ?_
                    refine JX.opOn rfl rfl rfl rfl (congrArg Value.bool h_125) (JO.call [] Tryz.call119 rfl (N_igoOn a_127 1 ([[97]] : List Str) none 0 [] (by simp) (by simp)) rfl (fun w hw => ⟨hw.see (i := 0) rfl, sees_nil _⟩)) ?_
                    rintro _ _ ⟨_, ⟨b_133, e_131, rfl, rfl⟩, rfl⟩
                    refine ⟨(by simp), ?_⟩
                    refine JA.takeOnP 17 rfl (by kernel_rfl) (NP.th NP.body) (by kernel_rfl) (by kernel_rfl) rfl rfl rfl (congrArg Value.bool h_125) (PO.not rfl) ?_
                    refine JA.takeP 18 rfl (by kernel_rfl) (NP.th NP.body) (by kernel_rfl) (by kernel_rfl) rfl (PO.pickT (v := .bool (!b_133)) (congrArg Value.bool h_125) rfl) ?_
                    refine JA.takeP 19 rfl (by kernel_rfl) (NP.th NP.body) (by kernel_rfl) (by kernel_rfl) rfl (PO.assign (v := .bool (!b_133)) rfl) ?_
                    refine JA.done (by kernel_rfl) ?_
                    refine JQ.sub (L' := []) (.cons _ (.cons _ (.cons _ (.cons _ (.cons _ (.cons _ (.cons _ (.cons _ (.cons _ (.cons _ (.cons _ (.cons _ (.cons _ (.cons _ (.cons _ (.cons _ (.slnil))))))))))))))))) ?_
                    refine JQ.seq ?_
                    refine JC.ret ?_
                    refine Done.one (.inl rfl) rfl (RV.tmp (v := .bool (!b_133)) rfl) (List.nil_sublist _) ?_
                    obtain ⟨hb1, hb2, hb3⟩ := pl_outs e_68 e_69 e_76
                    have hoc0 := pl_outCount e_44 ⟨by omega, by omega⟩ e_39
                    refine ⟨congrArg Value.bool ?_, rfl⟩
                    try simp only [decide_eq_true_eq]
                    first | omega | assumption | simp_all
                  · skip
                    refine JA.takeOff 15 (b := false) rfl (by kernel_rfl) (NP.th NP.body) (by kernel_rfl) (by kernel_rfl) rfl rfl rfl (congrArg Value.bool h_125) ?_
                    refine JA.takeOff 16 (b := false) rfl (by kernel_rfl) (NP.th NP.body) (by kernel_rfl) (by kernel_rfl) rfl rfl rfl (congrArg Value.bool h_125) ?_
                    refine JA.takeOff 17 (b := false) rfl (by kernel_rfl) (NP.th NP.body) (by kernel_rfl) (by kernel_rfl) rfl rfl rfl (congrArg Value.bool h_125) ?_
                    refine JA.takeP 18 rfl (by kernel_rfl) (NP.th NP.body) (by kernel_rfl) (by kernel_rfl) rfl (PO.pickF (v := .bool false) (congrArg Value.bool h_125) rfl) ?_
                    refine JA.takeP 19 rfl (by kernel_rfl) (NP.th NP.body) (by kernel_rfl) (by kernel_rfl) rfl (PO.assign (v := .bool false) rfl) ?_
                    refine JA.done (by kernel_rfl) ?_
                    refine JQ.sub (L' := []) (.cons _ (.cons _ (.cons _ (.cons _ (.cons _ (.cons _ (.cons _ (.cons _ (.cons _ (.cons _ (.cons _ (.cons _ (.cons _ (.cons _ (.cons _ (.slnil)))))))))))))))) ?_
                    refine JQ.seq ?_
                    refine JC.ret ?_
                    refine Done.one (.inl rfl) rfl (RV.tmp (v := .bool false) rfl) (List.nil_sublist _) ?_
                    obtain ⟨hb1, hb2, hb3⟩ := pl_outs e_68 e_69 e_76
                    have hoc0 := pl_outCount e_44 ⟨by omega, by omega⟩ e_39
                    exfalso
                    first | omega | contradiction | grind | simp_all
                · skip
                  refine JA.takeOff 6 (b := false) rfl (by kernel_rfl) (NP.th NP.body) (by kernel_rfl) (by kernel_rfl) rfl rfl rfl (congrArg Value.bool (decide_eq_false h_94)) ?_
                  refine JA.takeOff 7 (b := false) rfl (by kernel_rfl) (NP.th NP.body) (by kernel_rfl) (by kernel_rfl) rfl rfl rfl (congrArg Value.bool (decide_eq_false h_94)) ?_
                  refine JA.takeOff 8 (b := false) rfl (by kernel_rfl) (NP.th NP.body) (by kernel_rfl) (by kernel_rfl) rfl rfl rfl (congrArg Value.bool (decide_eq_false h_94)) ?_
                  refine JA.takeOff 9 (b := false) rfl (by kernel_rfl) (NP.th NP.body) (by kernel_rfl) (by kernel_rfl) rfl rfl rfl (congrArg Value.bool (decide_eq_false h_94)) ?_
                  refine JA.takeOff 10 (b := false) rfl (by kernel_rfl) (NP.th NP.body) (by kernel_rfl) (by kernel_rfl) rfl rfl rfl (congrArg Value.bool (decide_eq_false h_94)) ?_
                  refine JA.takeOff 11 (b := false) rfl (by kernel_rfl) (NP.th NP.body) (by kernel_rfl) (by kernel_rfl) rfl rfl rfl (congrArg Value.bool (decide_eq_false h_94)) ?_
                  refine JA.takeOff 12 (b := false) rfl (by kernel_rfl) (NP.th NP.body) (by kernel_rfl) (by kernel_rfl) rfl rfl rfl (congrArg Value.bool (decide_eq_false h_94)) ?_
                  refine JA.takeP 13 rfl (by kernel_rfl) (NP.th NP.body) (by kernel_rfl) (by kernel_rfl) rfl (PO.pickF (v := .bool false) (congrArg Value.bool (decide_eq_false h_94)) rfl) ?_
                  refine JA.takeP 14 rfl (by kernel_rfl) (NP.th NP.body) (by kernel_rfl) (by kernel_rfl) rfl (PO.move (v := .bool false) rfl) ?_
                  refine JA.takeOff 15 (b := false) rfl (by kernel_rfl) (NP.th NP.body) (by kernel_rfl) (by kernel_rfl) rfl rfl rfl (congrArg Value.bool rfl) ?_
                  refine JA.takeOff 16 (b := false) rfl (by kernel_rfl) (NP.th NP.body) (by kernel_rfl) (by kernel_rfl) rfl rfl rfl (congrArg Value.bool rfl) ?_
                  refine JA.takeOff 17 (b := false) rfl (by kernel_rfl) (NP.th NP.body) (by kernel_rfl) (by kernel_rfl) rfl rfl rfl (congrArg Value.bool rfl) ?_
                  refine JA.takeP 18 rfl (by kernel_rfl) (NP.th NP.body) (by kernel_rfl) (by kernel_rfl) rfl (PO.pickF (v := .bool false) (congrArg Value.bool rfl) rfl) ?_
                  refine JA.takeP 19 rfl (by kernel_rfl) (NP.th NP.body) (by kernel_rfl) (by kernel_rfl) rfl (PO.assign (v := .bool false) rfl) ?_
                  refine JA.done (by kernel_rfl) ?_
                  refine JQ.sub (L' := []) (.cons _ (.cons _ (.cons _ (.cons _ (.cons _ (.cons _ (.cons _ (.cons _ (.cons _ (.cons _ (.cons _ (.cons _ (.cons _ (.slnil)))))))))))))) ?_
                  refine JQ.seq ?_
                  refine JC.ret ?_
                  refine Done.one (.inl rfl) rfl (RV.tmp (v := .bool false) rfl) (List.nil_sublist _) ?_
                  obtain ⟨hb1, hb2, hb3⟩ := pl_outs e_68 e_69 e_76
                  have hoc0 := pl_outCount e_44 ⟨by omega, by omega⟩ e_39
                  exfalso
                  first | omega | contradiction | grind | simp_all
              · skip
                refine JX.op rfl rfl (JO.buildSlice (ps := [(0, str [97, 98]), (1, str [99])]) (cur := #[str [97, 98], str [99]]) Tryz.underlying23 Tryz.sizeOf9 Tryz.zeroValue9 rfl (by kernel_rfl) (by decide) (by decide)) ?_
                rintro _ _ ⟨a_134, rfl, rfl⟩
                refine ⟨(by simp), ?_⟩
                refine JA.one (i := 2) (by kernel_rfl) ?_
                refine JX.op rfl rfl (JO.call [] Tryz.call112 rfl (N_outsIn x_78.a0 x_78.c0 m_79.s (by have hl_ := k_77.1; omega) (fun key => k_77.getKey key)) rfl (fun w hw => ⟨hw.see (i := 2) rfl, hw.hex hlow hpre.2⟩)) ?_
                rintro _ _ ⟨_, ⟨l_141a, l_141c, l_141, e_139, f_142, rfl, rfl⟩, rfl⟩
                refine ⟨(by simp), ?_⟩
                refine JA.one (i := 4) (by kernel_rfl) ?_
                refine JX.op rfl rfl (JO.call [] Tryz.call51 rfl (C_sameTexts l_141a a_134 l_141c 2 l_141 ([[97, 98], [99]] : List Str) (by omega)) rfl (fun w hw => ⟨hw.see (i := 0) rfl, hw.see (i := 1) rfl⟩)) ?_
                rintro _ _ ⟨_, ⟨rfl, rfl⟩, rfl⟩
                refine ⟨(by simp), ?_⟩
                refine JA.takeP 5 rfl (by kernel_rfl) (NP.th NP.body) (by kernel_rfl) (by kernel_rfl) rfl (PO.move (v := .bool (decide (l_141 = ([[97, 98], [99]] : List Str)))) rfl) ?_
                by_cases h_143 : l_141 = ([[97, 98], [99]] : List Str)
                · skip
                  refine JA.takeOnP 6 rfl (by kernel_rfl) (NP.th NP.body) (by kernel_rfl) (by kernel_rfl) rfl rfl rfl (congrArg Value.bool (decide_eq_true h_143)) (PO.fieldAddr fo32_0 rfl) ?_
                  refine JA.takeOn 7 rfl (by kernel_rfl) (NP.th NP.body) (by kernel_rfl) (by kernel_rfl) (by kernel_rfl) rfl rfl rfl (congrArg Value.bool (decide_eq_true h_143)) (LO.load1 1 (v := .slice x_71.a0 m_72.s.length x_71.c0) rfl rfl Tryz.isAgg29 rfl) ?_
                  refine JA.takeOnP 9 rfl (by kernel_rfl) (NP.th NP.body) (by kernel_rfl) (by kernel_rfl) rfl rfl rfl (congrArg Value.bool (decide_eq_true h_143)) (PO.fieldAddr fo32_0 rfl) ?_
                  refine JA.takeOn 10 rfl (by kernel_rfl) (NP.th NP.body) (by kernel_rfl) (by kernel_rfl) (by kernel_rfl) rfl rfl rfl (congrArg Value.bool (decide_eq_true h_143)) (LO.load1 0 (v := .slice x_78.a0 m_79.s.length x_78.c0) rfl rfl Tryz.isAgg29 rfl) ?_
                  refine JA.one (i := 8) (by kernel_rfl) ?_
                  refine JX.opOn rfl rfl rfl rfl (congrArg Value.bool (decide_eq_true h_143)) (JO.call [] Tryz.call112 rfl (N_outsIn x_71.a0 x_71.c0 m_72.s (by have hl_ := k_70.1; omega) (fun key => k_70.getKey key)) rfl (fun w hw => ⟨hw.see (i := 7) rfl, hw.hex hlow hpre.2⟩)) ?_
                  rintro _ _ ⟨_, ⟨l_158a, l_158c, l_158, e_156, f_159, rfl, rfl⟩, rfl⟩
                  refine ⟨(by simp), ?_⟩
                  refine JA.one (i := 11) (by kernel_rfl) ?_
                  refine JX.opOn rfl rfl rfl rfl (congrArg Value.bool (decide_eq_true h_143)) (JO.call [] Tryz.call112 rfl (N_outsIn x_78.a0 x_78.c0 m_79.s (by have hl_ := k_77.1; omega) (fun key => k_77.getKey key)) rfl (fun w hw => ⟨hw.see (i := 4) rfl, hw.hex hlow hpre.2⟩)) ?_
                  rintro _ _ ⟨_, ⟨l_166a, l_166c, l_166, e_164, f_167, rfl, rfl⟩, rfl⟩
                  refine ⟨(by simp), ?_⟩
                  refine JA.one (i := 12) (by kernel_rfl) ?_
                  refine JX.opOn rfl rfl rfl rfl (congrArg Value.bool (decide_eq_true h_143)) (JO.call [] Tryz.call119 rfl (N_igoOn l_158a l_158c l_158 l_166a l_166c l_166 (by omega) (by omega)) rfl (fun w hw => ⟨hw.see (i := 1) rfl, hw.see (i := 0) rfl⟩)) ?_
                  rintro _ _ ⟨_, ⟨b_173, e_171, rfl, rfl⟩, rfl⟩
                  refine ⟨(by simp), ?_⟩
                  refine JA.takeP 13 rfl (by kernel_rfl) (NP.th NP.body) (by kernel_rfl) (by kernel_rfl) rfl (PO.pickT (v := .bool b_173) (congrArg Value.bool (decide_eq_true h_143)) rfl) ?_
                  refine JA.takeP 14 rfl (by kernel_rfl) (NP.th NP.body) (by kernel_rfl) (by kernel_rfl) rfl (PO.move (v := .bool b_173) rfl) ?_
                  rcases Bool.eq_false_or_eq_true (b_173) with h_174 | h_174
                  · skip
                    refine JA.one (i := 15) (by kernel_rfl) ?_
                    refine JX.opOn rfl rfl rfl rfl (congrArg Value.bool h_174) (JO.buildSlice (ps := [(0, str [97])]) (cur := #[str [97]]) Tryz.underlying23 Tryz.sizeOf9 Tryz.zeroValue9 rfl (by kernel_rfl) (by decide) (by decide)) ?_
                    rintro _ _ ⟨a_176, rfl, rfl⟩
                    refine ⟨(by simp), ?_⟩
                    refine JA.one (i := 16) (by kernel_rfl) ?_
                    refine JX.opOn rfl rfl rfl rfl (congrArg Value.bool h_174) (JO.call [] Tryz.call119 rfl (N_igoOn a_176 1 ([[97]] : List Str) none 0 [] (by simp) (by simp)) rfl (fun w hw => ⟨hw.see (i := 0) rfl, sees_nil _⟩)) ?_
                    rintro _ _ ⟨_, ⟨b_182, e_180, rfl, rfl⟩, rfl⟩
                    refine ⟨(by simp), ?_⟩
                    refine JA.takeOnP 17 rfl (by kernel_rfl) (NP.th NP.body) (by kernel_rfl) (by kernel_rfl) rfl rfl rfl (congrArg Value.bool h_174) (PO.not rfl) ?_
                    refine JA.takeP 18 rfl (by kernel_rfl) (NP.th NP.body) (by kernel_rfl) (by kernel_rfl) rfl (PO.pickT (v := .bool (!b_182)) (congrArg Value.bool h_174) rfl) ?_
                    refine JA.takeP 19 rfl (by kernel_rfl) (NP.th NP.body) (by kernel_rfl) (by kernel_rfl) rfl (PO.assign (v := .bool (!b_182)) rfl) ?_
                    refine JA.done (by kernel_rfl) ?_
                    refine JQ.sub (L' := []) (.cons _ (.cons _ (.cons _ (.cons _ (.cons _ (.cons _ (.cons _ (.cons _ (.cons _ (.cons _ (.cons _ (.cons _ (.cons _ (.cons _ (.cons _ (.cons _ (.slnil))))))))))))))))) ?_
                    refine JQ.seq ?_
                    refine JC.ret ?_
                    refine Done.one (.inl rfl) rfl (RV.tmp (v := .bool (!b_182)) rfl) (List.nil_sublist _) ?_
                    obtain ⟨hb1, hb2, hb3⟩ := pl_outs e_68 e_69 e_76
                    have hoc0 := pl_outCount e_44 ⟨by omega, by omega⟩ e_39
                    refine ⟨congrArg Value.bool ?_, rfl⟩
                    try simp only [decide_eq_true_eq]
                    first | omega | assumption | simp_all
                  · skip
                    refine JA.takeOff 15 (b := false) rfl (by kernel_rfl) (NP.th NP.body) (by kernel_rfl) (by kernel_rfl) rfl rfl rfl (congrArg Value.bool h_174) ?_
                    refine JA.takeOff 16 (b := false) rfl (by kernel_rfl) (NP.th NP.body) (by kernel_rfl) (by kernel_rfl) rfl rfl rfl (congrArg Value.bool h_174) ?_
                    refine JA.takeOff 17 (b := false) rfl (by kernel_rfl) (NP.th NP.body) (by kernel_rfl) (by kernel_rfl) rfl rfl rfl (congrArg Value.bool h_174) ?_
                    refine JA.takeP 18 rfl (by kernel_rfl) (NP.th NP.body) (by kernel_rfl) (by kernel_rfl) rfl (PO.pickF (v := .bool false) (congrArg Value.bool h_174) rfl) ?_
                    refine JA.takeP 19 rfl (by kernel_rfl) (NP.th NP.body) (by kernel_rfl) (by kernel_rfl) rfl (PO.assign (v := .bool false) rfl) ?_
                    refine JA.done (by kernel_rfl) ?_
                    refine JQ.sub (L' := []) (.cons _ (.cons _ (.cons _ (.cons _ (.cons _ (.cons _ (.cons _ (.cons _ (.cons _ (.cons _ (.cons _ (.cons _ (.cons _ (.cons _ (.cons _ (.slnil)))))))))))))))) ?_
                    refine JQ.seq ?_
                    refine JC.ret ?_
                    refine Done.one (.inl rfl) rfl (RV.tmp (v := .bool false) rfl) (List.nil_sublist _) ?_
                    obtain ⟨hb1, hb2, hb3⟩ := pl_outs e_68 e_69 e_76
                    have hoc0 := pl_outCount e_44 ⟨by omega, by omega⟩ e_39
                    exfalso
                    first | omega | contradiction | grind | simp_all
                · skip
                  refine JA.takeOff 6 (b := false) rfl (by kernel_rfl) (NP.th NP.body) (by kernel_rfl) (by kernel_rfl) rfl rfl rfl (congrArg Value.bool (decide_eq_false h_143)) ?_
                  refine JA.takeOff 7 (b := false) rfl (by kernel_rfl) (NP.th NP.body) (by kernel_rfl) (by kernel_rfl) rfl rfl rfl (congrArg Value.bool (decide_eq_false h_143)) ?_
                  refine JA.takeOff 8 (b := false) rfl (by kernel_rfl) (NP.th NP.body) (by kernel_rfl) (by kernel_rfl) rfl rfl rfl (congrArg Value.bool (decide_eq_false h_143)) ?_
                  refine JA.takeOff 9 (b := false) rfl (by kernel_rfl) (NP.th NP.body) (by kernel_rfl) (by kernel_rfl) rfl rfl rfl (congrArg Value.bool (decide_eq_false h_143)) ?_
                  refine JA.takeOff 10 (b := false) rfl (by kernel_rfl) (NP.th NP.body) (by kernel_rfl) (by kernel_rfl) rfl rfl rfl (congrArg Value.bool (decide_eq_false h_143)) ?_
                  refine JA.takeOff 11 (b := false) rfl (by kernel_rfl) (NP.th NP.body) (by kernel_rfl) (by kernel_rfl) rfl rfl rfl (congrArg Value.bool (decide_eq_false h_143)) ?_
                  refine JA.takeOff 12 (b := false) rfl (by kernel_rfl) (NP.th NP.body) (by kernel_rfl) (by kernel_rfl) rfl rfl rfl (congrArg Value.bool (decide_eq_false h_143)) ?_
                  refine JA.takeP 13 rfl (by kernel_rfl) (NP.th NP.body) (by kernel_rfl) (by kernel_rfl) rfl (PO.pickF (v := .bool false) (congrArg Value.bool (decide_eq_false h_143)) rfl) ?_
                  refine JA.takeP 14 rfl (by kernel_rfl) (NP.th NP.body) (by kernel_rfl) (by kernel_rfl) rfl (PO.move (v := .bool false) rfl) ?_
                  refine JA.takeOff 15 (b := false) rfl (by kernel_rfl) (NP.th NP.body) (by kernel_rfl) (by kernel_rfl) rfl rfl rfl (congrArg Value.bool rfl) ?_
                  refine JA.takeOff 16 (b := false) rfl (by kernel_rfl) (NP.th NP.body) (by kernel_rfl) (by kernel_rfl) rfl rfl rfl (congrArg Value.bool rfl) ?_
                  refine JA.takeOff 17 (b := false) rfl (by kernel_rfl) (NP.th NP.body) (by kernel_rfl) (by kernel_rfl) rfl rfl rfl (congrArg Value.bool rfl) ?_
                  refine JA.takeP 18 rfl (by kernel_rfl) (NP.th NP.body) (by kernel_rfl) (by kernel_rfl) rfl (PO.pickF (v := .bool false) (congrArg Value.bool rfl) rfl) ?_
                  refine JA.takeP 19 rfl (by kernel_rfl) (NP.th NP.body) (by kernel_rfl) (by kernel_rfl) rfl (PO.assign (v := .bool false) rfl) ?_
                  refine JA.done (by kernel_rfl) ?_
                  refine JQ.sub (L' := []) (.cons _ (.cons _ (.cons _ (.cons _ (.cons _ (.cons _ (.cons _ (.cons _ (.cons _ (.cons _ (.cons _ (.cons _ (.cons _ (.slnil)))))))))))))) ?_
                  refine JQ.seq ?_
                  refine JC.ret ?_
                  refine Done.one (.inl rfl) rfl (RV.tmp (v := .bool false) rfl) (List.nil_sublist _) ?_
                  obtain ⟨hb1, hb2, hb3⟩ := pl_outs e_68 e_69 e_76
                  have hoc0 := pl_outCount e_44 ⟨by omega, by omega⟩ e_39
                  exfalso
                  first | omega | contradiction | grind | simp_all
            · skip
              refine JC.condT (congrArg Value.bool (congrArg Bool.not (decide_eq_false h_64))) ?_
              refine JC.seq ?_
              refine JC.region ?_
              refine JL.pure rfl (PO.assign (v := .bool false) rfl) ?_
              refine JL.nil ?_
              refine JQ.seq ?_
              refine JC.ret ?_
              refine JQ.thenRet ?_
              refine Done.one (.inl rfl) rfl (RV.tmp (v := .bool false) rfl) (List.nil_sublist _) ?_
              have hoc0 := pl_outCount e_44 ⟨by omega, by omega⟩ e_39
              exfalso
              first | omega | contradiction | grind | simp_all
          · skip
            refine JL.guardOff (b := true) rfl rfl rfl (congrArg Value.bool (congrArg Bool.not (decide_eq_false h_57))) ?_
            refine JL.guardOff (b := true) rfl rfl rfl (congrArg Value.bool (congrArg Bool.not (decide_eq_false h_57))) ?_
            refine JL.guardOff (b := true) rfl rfl rfl (congrArg Value.bool (congrArg Bool.not (decide_eq_false h_57))) ?_
            refine JL.guardOff (b := true) rfl rfl rfl (congrArg Value.bool (congrArg Bool.not (decide_eq_false h_57))) ?_
            refine JL.guardOff (b := true) rfl rfl rfl (congrArg Value.bool (congrArg Bool.not (decide_eq_false h_57))) ?_
            refine JL.guardOff (b := true) rfl rfl rfl (congrArg Value.bool (congrArg Bool.not (decide_eq_false h_57))) ?_
            refine JL.guardOff (b := true) rfl rfl rfl (congrArg Value.bool (congrArg Bool.not (decide_eq_false h_57))) ?_
            refine JL.pure rfl (PO.pickT (v := .bool true) (congrArg Value.bool (congrArg Bool.not (decide_eq_false h_57))) rfl) ?_
            refine JL.nil ?_
            refine JQ.sub (L' := []) (.cons _ (.cons _ (.cons _ (.cons _ (.cons _ (.cons _ (.cons _ (.cons _ (.cons _ (.cons _ (.cons _ (.cons _ (.cons _ (.cons _ (.cons _ (.cons _ (.cons _ (.cons _ (.cons _ (.cons _ (.slnil))))))))))))))))))))) ?_
            refine JQ.seq ?_
            refine JC.condT (congrArg Value.bool rfl) ?_
            refine JC.seq ?_
            refine JC.region ?_
            refine JL.pure rfl (PO.assign (v := .bool false) rfl) ?_
            refine JL.nil ?_
            refine JQ.seq ?_
            refine JC.ret ?_
            refine JQ.thenRet ?_
            refine Done.one (.inl rfl) rfl (RV.tmp (v := .bool false) rfl) (List.nil_sublist _) ?_
            have hoc0 := pl_outCount e_44 ⟨by omega, by omega⟩ e_39
            exfalso
            first | omega | contradiction | grind | simp_all
        · skip
          refine JL.guardOff (b := true) rfl rfl rfl (congrArg Value.bool (congrArg Bool.not (decide_eq_false h_48))) ?_
          refine JL.guardOff (b := true) rfl rfl rfl (congrArg Value.bool (congrArg Bool.not (decide_eq_false h_48))) ?_
          refine JL.guardOff (b := true) rfl rfl rfl (congrArg Value.bool (congrArg Bool.not (decide_eq_false h_48))) ?_
          refine JL.guardOff (b := true) rfl rfl rfl (congrArg Value.bool (congrArg Bool.not (decide_eq_false h_48))) ?_
          refine JL.guardOff (b := true) rfl rfl rfl (congrArg Value.bool (congrArg Bool.not (decide_eq_false h_48))) ?_
          refine JL.guardOff (b := true) rfl rfl rfl (congrArg Value.bool (congrArg Bool.not (decide_eq_false h_48))) ?_
          refine JL.guardOff (b := true) rfl rfl rfl (congrArg Value.bool (congrArg Bool.not (decide_eq_false h_48))) ?_
          refine JL.guardOff (b := true) rfl rfl rfl (congrArg Value.bool (congrArg Bool.not (decide_eq_false h_48))) ?_
          refine JL.pure rfl (PO.pickT (v := .bool true) (congrArg Value.bool (congrArg Bool.not (decide_eq_false h_48))) rfl) ?_
          refine JL.pure rfl (PO.move (v := .bool true) rfl) ?_
          refine JL.guardOff (b := true) rfl rfl rfl (congrArg Value.bool rfl) ?_
          refine JL.guardOff (b := true) rfl rfl rfl (congrArg Value.bool rfl) ?_
          refine JL.guardOff (b := true) rfl rfl rfl (congrArg Value.bool rfl) ?_
          refine JL.guardOff (b := true) rfl rfl rfl (congrArg Value.bool rfl) ?_
          refine JL.guardOff (b := true) rfl rfl rfl (congrArg Value.bool rfl) ?_
          refine JL.guardOff (b := true) rfl rfl rfl (congrArg Value.bool rfl) ?_
          refine JL.guardOff (b := true) rfl rfl rfl (congrArg Value.bool rfl) ?_
          refine JL.pure rfl (PO.pickT (v := .bool true) (congrArg Value.bool rfl) rfl) ?_
          refine JL.nil ?_
          refine JQ.sub (L' := []) (.cons _ (.cons _ (.cons _ (.cons _ (.cons _ (.cons _ (.cons _ (.cons _ (.cons _ (.cons _ (.cons _ (.cons _ (.cons _ (.cons _ (.cons _ (.cons _ (.cons _ (.cons _ (.slnil))))))))))))))))))) ?_
          refine JQ.seq ?_
          refine JC.condT (congrArg Value.bool rfl) ?_
          refine JC.seq ?_
          refine JC.region ?_
          refine JL.pure rfl (PO.assign (v := .bool false) rfl) ?_
          refine JL.nil ?_
          refine JQ.seq ?_
          refine JC.ret ?_
          refine JQ.thenRet ?_
          refine Done.one (.inl rfl) rfl (RV.tmp (v := .bool false) rfl) (List.nil_sublist _) ?_
          have hoc0 := pl_outCount e_44 ⟨by omega, by omega⟩ e_39
          exfalso
          first | omega | contradiction | grind | simp_all
      · skip
        refine JL.guardOff (b := true) rfl rfl rfl (congrArg Value.bool (congrArg Bool.not (decide_eq_false h_43))) ?_
        refine JL.guardOff (b := true) rfl rfl rfl (congrArg Value.bool (congrArg Bool.not (decide_eq_false h_43))) ?_
        refine JL.guardOff (b := true) rfl rfl rfl (congrArg Value.bool (congrArg Bool.not (decide_eq_false h_43))) ?_
        refine JL.guardOff (b := true) rfl rfl rfl (congrArg Value.bool (congrArg Bool.not (decide_eq_false h_43))) ?_
        refine JL.guardOff (b := true) rfl rfl rfl (congrArg Value.bool (congrArg Bool.not (decide_eq_false h_43))) ?_
        refine JL.pure rfl (PO.pickT (v := .bool true) (congrArg Value.bool (congrArg Bool.not (decide_eq_false h_43))) rfl) ?_
        refine JL.pure rfl (PO.move (v := .bool true) rfl) ?_
        refine JL.guardOff (b := true) rfl rfl rfl (congrArg Value.bool rfl) ?_
        refine JL.guardOff (b := true) rfl rfl rfl (congrArg Value.bool rfl) ?_
        refine JL.guardOff (b := true) rfl rfl rfl (congrArg Value.bool rfl) ?_
        refine JL.guardOff (b := true) rfl rfl rfl (congrArg Value.bool rfl) ?_
        refine JL.guardOff (b := true) rfl rfl rfl (congrArg Value.bool rfl) ?_
        refine JL.guardOff (b := true) rfl rfl rfl (congrArg Value.bool rfl) ?_
        refine JL.guardOff (b := true) rfl rfl rfl (congrArg Value.bool rfl) ?_
        refine JL.guardOff (b := true) rfl rfl rfl (congrArg Value.bool rfl) ?_
        refine JL.pure rfl (PO.pickT (v := .bool true) (congrArg Value.bool rfl) rfl) ?_
        refine JL.pure rfl (PO.move (v := .bool true) rfl) ?_
        refine JL.guardOff (b := true) rfl rfl rfl (congrArg Value.bool rfl) ?_
        refine JL.guardOff (b := true) rfl rfl rfl (congrArg Value.bool rfl) ?_
        refine JL.guardOff (b := true) rfl rfl rfl (congrArg Value.bool rfl) ?_
        refine JL.guardOff (b := true) rfl rfl rfl (congrArg Value.bool rfl) ?_
        refine JL.guardOff (b := true) rfl rfl rfl (congrArg Value.bool rfl) ?_
        refine JL.guardOff (b := true) rfl rfl rfl (congrArg Value.bool rfl) ?_
        refine JL.guardOff (b := true) rfl rfl rfl (congrArg Value.bool rfl) ?_
        refine JL.pure rfl (PO.pickT (v := .bool true) (congrArg Value.bool rfl) rfl) ?_
        refine JL.nil ?_
        refine JQ.sub (L' := []) (.cons _ (.cons _ (.cons _ (.cons _ (.cons _ (.cons _ (.cons _ (.cons _ (.cons _ (.cons _ (.cons _ (.cons _ (.cons _ (.cons _ (.cons _ (.cons _ (.cons _ (.cons _ (.slnil))))))))))))))))))) ?_
        refine JQ.seq ?_
        refine JC.condT (congrArg Value.bool rfl) ?_
        refine JC.seq ?_
        refine JC.region ?_
        refine JL.pure rfl (PO.assign (v := .bool false) rfl) ?_
        refine JL.nil ?_
        refine JQ.seq ?_
        refine JC.ret ?_
        refine JQ.thenRet ?_
        refine Done.one (.inl rfl) rfl (RV.tmp (v := .bool false) rfl) (List.nil_sublist _) ?_
        exfalso
        first | omega | contradiction | grind | simp_all
    · skip
      refine JL.pure rfl (PO.move (v := .tuple #[.slice l_35a l_35.length l_35c, .slice l_35a l_35.length l_35c]) rfl) ?_
      refine JL.pure rfl (PO.extract (v := .slice l_35a l_35.length l_35c) rfl rfl) ?_
      refine JL.pure rfl (PO.extract (v := .slice l_35a l_35.length l_35c) rfl rfl) ?_
      refine JL.pure rfl (PO.assign (v := .slice l_35a l_35.length l_35c) rfl) ?_
      refine JL.pure rfl (PO.assign (v := .slice l_35a l_35.length l_35c) rfl) ?_
      refine JL.nil ?_
      refine JQ.seq ?_
      refine JC.seq ?_
      refine JC.seq ?_
      refine JC.region ?_
      refine JL.pure rfl (PO.move (v := .int .i64 n_13) rfl) ?_
      refine JL.pure rfl (PO.move (v := .int .i64 n_13) rfl) ?_
      refine JL.pure rfl (PO.neqI rfl rfl) ?_
      refine JL.pure rfl (PO.move (v := .bool (!(decide (n_13 = n_13)))) rfl) ?_
      refine JL.guardOn rfl rfl rfl (congrArg Value.bool (congrArg Bool.not (decide_eq_true rfl))) (JO.ofLO (LO.loadK 8 (vs := [.slice x_11.a0 m_12.s.length x_11.c0, .slice x_11.a1 m_12.r.length x_11.c1, .slice x_11.a2 m_12.w.length x_11.c2]) rfl rfl Tryz.isAgg32 Tryz.sizeOf32 rfl rfl)) ?_
      rintro _ _ ⟨rfl, rfl⟩
      refine JL.guardOn rfl rfl rfl (congrArg Value.bool (congrArg Bool.not (decide_eq_true rfl))) (JO.ofLO (LO.loadK 4 (vs := [.slice x_18.a0 m_12.s.length x_18.c0, .slice x_18.a1 m_12.r.length x_18.c1, .slice x_18.a2 m_12.w.length x_18.c2]) rfl rfl Tryz.isAgg32 Tryz.sizeOf32 rfl rfl)) ?_
      rintro _ _ ⟨rfl, rfl⟩
      refine JL.guardOn rfl rfl rfl (congrArg Value.bool (congrArg Bool.not (decide_eq_true rfl))) (JO.call [] Tryz.call30 rfl (N_sameMach x_11 x_18 m_12 k_10 (by omega) (by omega)) rfl (fun w hw => ⟨⟨hw.see (i := 9) rfl, hw.see (i := 10) rfl, hw.see (i := 11) rfl⟩, ⟨hw.see (i := 5) rfl, hw.see (i := 6) rfl, hw.see (i := 7) rfl⟩⟩)) ?_
      rintro _ _ ⟨_, ⟨rfl, rfl⟩, rfl⟩
      refine JL.guardOn rfl rfl rfl (congrArg Value.bool (congrArg Bool.not (decide_eq_true rfl))) (JO.ofLO (LO.pure (PO.not rfl))) ?_
      rintro _ _ ⟨rfl, rfl⟩
      refine JL.pure rfl (PO.pickF (v := .bool false) (congrArg Value.bool (congrArg Bool.not (decide_eq_true rfl))) rfl) ?_
      refine JL.pure rfl (PO.move (v := .bool false) rfl) ?_
      refine JL.guardOn rfl rfl rfl (congrArg Value.bool rfl) (JO.ofLO (LO.pure (PO.move (v := .slice l_28a l_28.length l_28c) rfl))) ?_
      rintro _ _ ⟨rfl, rfl⟩
      refine JL.guardOn rfl rfl rfl (congrArg Value.bool rfl) (JO.ofLO (LO.pure (PO.move (v := .slice l_23a l_23.length l_23c) rfl))) ?_
      rintro _ _ ⟨rfl, rfl⟩
      refine JL.guardOn rfl rfl rfl (congrArg Value.bool rfl) (JO.call [] Tryz.call115 rfl (N_sOutsIn l_23a l_23c l_23 (by omega) (okC_get f_24)) rfl (fun w hw => hw.see (i := 3) rfl)) ?_
      rintro _ _ ⟨_, ⟨l_185a, l_185c, l_185, e_183, f_186, rfl, rfl⟩, rfl⟩
      refine JL.guardOn rfl rfl rfl (congrArg Value.bool rfl) (JO.call [] Tryz.call51 rfl (C_sameTexts l_28a l_185a l_28c l_185c l_28 l_185 (by omega)) rfl (fun w hw => ⟨hw.see (i := 3) rfl, hw.see (i := 0) rfl⟩)) ?_
      rintro _ _ ⟨_, ⟨rfl, rfl⟩, rfl⟩
      refine JL.guardOn rfl rfl rfl (congrArg Value.bool rfl) (JO.ofLO (LO.pure (PO.not rfl))) ?_
      rintro _ _ ⟨rfl, rfl⟩
      refine JL.pure rfl (PO.pickF (v := .bool (!(decide (l_28 = l_185)))) (congrArg Value.bool rfl) rfl) ?_
      refine JL.pure rfl (PO.move (v := .bool (!(decide (l_28 = l_185)))) rfl) ?_
      by_cases h_187 : l_28 = l_185
      · skip
        refine JL.guardOn rfl rfl rfl (congrArg Value.bool (congrArg Bool.not (decide_eq_true h_187))) (JO.ofLO (LO.pure (PO.move (v := .slice l_23a l_23.length l_23c) rfl))) ?_
        rintro _ _ ⟨rfl, rfl⟩
        refine JL.guardOn rfl rfl rfl (congrArg Value.bool (congrArg Bool.not (decide_eq_true h_187))) (JO.call [] Tryz.call116 rfl (N_outCount l_23a l_23c l_23 (by omega) (okC_get f_24)) rfl (fun w hw => hw.see (i := 4) rfl)) ?_
        rintro _ _ ⟨_, ⟨n_190, e_188, f_191, rfl, rfl⟩, rfl⟩
        refine JL.guardOn rfl rfl rfl (congrArg Value.bool (congrArg Bool.not (decide_eq_true h_187))) (JO.ofLO (LO.pure (PO.move (v := .slice l_28a l_28.length l_28c) rfl))) ?_
        rintro _ _ ⟨rfl, rfl⟩
        refine JL.guardOn rfl rfl rfl (congrArg Value.bool (congrArg Bool.not (decide_eq_true h_187))) (JO.ofLO (LO.pure (PO.lenV Tryz.underlying23 rfl))) ?_
        rintro _ _ ⟨rfl, rfl⟩
        refine JL.guardOn rfl rfl rfl (congrArg Value.bool (congrArg Bool.not (decide_eq_true h_187))) (JO.ofLO (LO.pure (PO.neqI rfl rfl))) ?_
        rintro _ _ ⟨rfl, rfl⟩
        refine JL.pure rfl (PO.pickF (v := .bool (!(decide (n_190 = ((l_28.length : Nat) : Int))))) (congrArg Value.bool (congrArg Bool.not (decide_eq_true h_187))) rfl) ?_
        refine JL.pure rfl (PO.move (v := .bool (!(decide (n_190 = ((l_28.length : Nat) : Int))))) rfl) ?_
        by_cases h_192 : n_190 = ((l_28.length : Nat) : Int)
        · skip
          refine JL.guardOn rfl rfl rfl (congrArg Value.bool (congrArg Bool.not (decide_eq_true h_192))) (JO.ofLO (LO.pure (PO.move (v := .slice l_30a l_30.length l_30c) rfl))) ?_
          rintro _ _ ⟨rfl, rfl⟩
          refine JL.guardOn rfl rfl rfl (congrArg Value.bool (congrArg Bool.not (decide_eq_true h_192))) (JO.ofLO (LO.pure (PO.move (v := .int .i64 n_32) rfl))) ?_
          rintro _ _ ⟨rfl, rfl⟩
          refine JL.guardOn rfl rfl rfl (congrArg Value.bool (congrArg Bool.not (decide_eq_true h_192))) (JO.call [] Tryz.call117 rfl (N_outsFrom l_30a l_30c l_30 n_32 (by omega) (by omega) (okC_get f_31)) rfl (fun w hw => ⟨hw.see (i := 2) rfl, hw.hex hlow hpre.2⟩)) ?_
          rintro _ _ ⟨_, ⟨l_195a, l_195c, l_195, e_193, f_196, rfl, rfl⟩, rfl⟩
          refine JL.guardOn rfl rfl rfl (congrArg Value.bool (congrArg Bool.not (decide_eq_true h_192))) (JO.ofLO (LO.pure (PO.move (v := .slice l_30a l_30.length l_30c) rfl))) ?_
          rintro _ _ ⟨rfl, rfl⟩
          refine JL.guardOn rfl rfl rfl (congrArg Value.bool (congrArg Bool.not (decide_eq_true h_192))) (JO.ofLO (LO.pure (PO.move (v := .int .i64 n_32) rfl))) ?_
          rintro _ _ ⟨rfl, rfl⟩
          refine JL.guardOn rfl rfl rfl (congrArg Value.bool (congrArg Bool.not (decide_eq_true h_192))) (JO.call [] Tryz.call118 rfl (N_sOutsFrom l_30a l_30c l_30 n_32 (by omega) (by omega) (okC_get f_31)) rfl (fun w hw => hw.see (i := 3) rfl)) ?_
          rintro _ _ ⟨_, ⟨l_199a, l_199c, l_199, e_197, f_200, rfl, rfl⟩, rfl⟩
          refine JL.guardOn rfl rfl rfl (congrArg Value.bool (congrArg Bool.not (decide_eq_true h_192))) (JO.call [] Tryz.call51 rfl (C_sameTexts l_195a l_199a l_195c l_199c l_195 l_199 (by omega)) rfl (fun w hw => ⟨hw.see (i := 1) rfl, hw.see (i := 0) rfl⟩)) ?_
          rintro _ _ ⟨_, ⟨rfl, rfl⟩, rfl⟩
          refine JL.guardOn rfl rfl rfl (congrArg Value.bool (congrArg Bool.not (decide_eq_true h_192))) (JO.ofLO (LO.pure (PO.not rfl))) ?_
          rintro _ _ ⟨rfl, rfl⟩
          refine JL.pure rfl (PO.pickF (v := .bool (!(decide (l_195 = l_199)))) (congrArg Value.bool (congrArg Bool.not (decide_eq_true h_192))) rfl) ?_
          refine JL.pure rfl (PO.move (v := .bool (!(decide (l_195 = l_199)))) rfl) ?_
          by_cases h_201 : l_195 = l_199
          · skip
            refine JL.guardOn rfl rfl rfl (congrArg Value.bool (congrArg Bool.not (decide_eq_true h_201))) (JO.ofLO (LO.pure (PO.move (v := .slice l_35a l_35.length l_35c) rfl))) ?_
            rintro _ _ ⟨rfl, rfl⟩
            refine JL.guardOn rfl rfl rfl (congrArg Value.bool (congrArg Bool.not (decide_eq_true h_201))) (JO.ofLO (LO.pure (PO.move (v := .slice l_35a l_35.length l_35c) rfl))) ?_
            rintro _ _ ⟨rfl, rfl⟩
            refine JL.guardOn rfl rfl rfl (congrArg Value.bool (congrArg Bool.not (decide_eq_true h_201))) (JO.call [] Tryz.call119 rfl (N_igoOn l_35a l_35c l_35 l_35a l_35c l_35 (by omega) (by omega)) rfl (fun w hw => ⟨hw.see (i := 3) rfl, hw.see (i := 3) rfl⟩)) ?_
            rintro _ _ ⟨_, ⟨b_204, e_202, rfl, rfl⟩, rfl⟩
            refine JL.guardOn rfl rfl rfl (congrArg Value.bool (congrArg Bool.not (decide_eq_true h_201))) (JO.ofLO (LO.pure (PO.move (v := .slice l_35a l_35.length l_35c) rfl))) ?_
            rintro _ _ ⟨rfl, rfl⟩
            refine JL.guardOn rfl rfl rfl (congrArg Value.bool (congrArg Bool.not (decide_eq_true h_201))) (JO.ofLO (LO.pure (PO.move (v := .slice l_35a l_35.length l_35c) rfl))) ?_
            rintro _ _ ⟨rfl, rfl⟩
            refine JL.guardOn rfl rfl rfl (congrArg Value.bool (congrArg Bool.not (decide_eq_true h_201))) (JO.call [] Tryz.call120 rfl (N_sgoOn l_35a l_35c l_35 l_35a l_35c l_35 (by omega) (by omega)) rfl (fun w hw => ⟨hw.see (i := 3) rfl, hw.see (i := 3) rfl⟩)) ?_
            rintro _ _ ⟨_, ⟨b_207, e_205, rfl, rfl⟩, rfl⟩
            refine JL.guardOn rfl rfl rfl (congrArg Value.bool (congrArg Bool.not (decide_eq_true h_201))) (JO.ofLO (LO.pure (PO.neqB Tryz.underlying4 rfl rfl))) ?_
            rintro _ _ ⟨rfl, rfl⟩
            refine JL.pure rfl (PO.pickF (v := .bool (!(decide (b_204 = b_207)))) (congrArg Value.bool (congrArg Bool.not (decide_eq_true h_201))) rfl) ?_
            refine JL.nil ?_
            refine JQ.sub (L' := []) (.cons _ (.cons _ (.cons _ (.cons _ (.cons _ (.cons _ (.cons _ (.cons _ (.cons _ (.cons _ (.cons _ (.cons _ (.cons _ (.cons _ (.cons _ (.cons _ (.cons _ (.cons _ (.cons _ (.slnil)))))))))))))))))))) ?_
            refine JQ.seq ?_
            by_cases h_208 : b_204 = b_207
            · skip
              refine JC.condF (congrArg Value.bool (congrArg Bool.not (decide_eq_true h_208))) ?_
              refine JC.skip ?_
              refine JQ.seq ?_
              refine JC.seq ?_
              refine JC.region ?_
              refine JL.op rfl (JO.call [] Tryz.call36 rfl (D_base) rfl (fun _ _ => trivial)) ?_
              rintro _ _ ⟨_, ⟨x_209, m_210, e_212, k_211, rfl, rfl⟩, rfl⟩
              refine JL.op rfl (JO.call [] Tryz.call109 rfl (P_putOut x_209 m_210 k_211 (by omega) (by omega) [97, 98] (by decide)) rfl (fun w hw => ⟨hw.see (i := 0) rfl, hw.see (i := 1) rfl, hw.see (i := 2) rfl⟩)) ?_
              rintro _ _ ⟨_, ⟨x_215, m_216, n_217, e_213, k_214, f_218, rfl, rfl⟩, rfl⟩
              refine JL.pure rfl (PO.move (v := .tuple #[mv x_215 m_216, .int .i64 n_217]) rfl) ?_
              refine JL.pure rfl (PO.extract (v := mv x_215 m_216) rfl rfl) ?_
              refine JL.pure rfl (PO.extract (v := .int .i64 n_217) rfl rfl) ?_
              refine JL.op rfl (JO.alloc (z := .agg #[.slice none 0 0, .slice none 0 0, .slice none 0 0]) (cs := [.slice none 0 0, .slice none 0 0, .slice none 0 0]) Tryz.zeroValue32 rfl) ?_
              rintro _ _ ⟨b_219, rfl, rfl⟩
              refine JL.op rfl (JO.store 0 (vs := [.slice x_215.a0 m_216.s.length x_215.c0, .slice x_215.a1 m_216.r.length x_215.c1, .slice x_215.a2 m_216.w.length x_215.c2]) (cs' := [.slice x_215.a0 m_216.s.length x_215.c0, .slice x_215.a1 m_216.r.length x_215.c1, .slice x_215.a2 m_216.w.length x_215.c2]) rfl rfl rfl rfl Tryz.sizeOf32 rfl rfl (Nat.le_of_ble_eq_true rfl) rfl) ?_
              rintro _ _ rfl
              refine JL.pure rfl (PO.assign (v := .int .i64 n_217) rfl) ?_
              refine JL.nil ?_
              refine JQ.seq ?_
              refine JC.seq ?_
              refine JC.region ?_
              refine JL.ld rfl (LO.loadK 0 (vs := [.slice x_215.a0 m_216.s.length x_215.c0, .slice x_215.a1 m_216.r.length x_215.c1, .slice x_215.a2 m_216.w.length x_215.c2]) rfl rfl Tryz.isAgg32 Tryz.sizeOf32 rfl rfl) ?_
              refine JL.op rfl (JO.call [] Tryz.call109 rfl (P_putOut x_215 m_216 k_214 (by omega) (by omega) [99] (by decide)) rfl (fun w hw => ⟨hw.see (i := 1) rfl, hw.see (i := 2) rfl, hw.see (i := 3) rfl⟩)) ?_
              rintro _ _ ⟨_, ⟨x_222, m_223, n_224, e_220, k_221, f_225, rfl, rfl⟩, rfl⟩
              refine JL.pure rfl (PO.move (v := .tuple #[mv x_222 m_223, .int .i64 n_224]) rfl) ?_
              refine JL.pure rfl (PO.extract (v := mv x_222 m_223) rfl rfl) ?_
              refine JL.pure rfl (PO.extract (v := .int .i64 n_224) rfl rfl) ?_
              refine JL.op rfl (JO.alloc (z := .agg #[.slice none 0 0, .slice none 0 0, .slice none 0 0]) (cs := [.slice none 0 0, .slice none 0 0, .slice none 0 0]) Tryz.zeroValue32 rfl) ?_
              rintro _ _ ⟨b_226, rfl, rfl⟩
              refine JL.op rfl (JO.store 0 (vs := [.slice x_222.a0 m_223.s.length x_222.c0, .slice x_222.a1 m_223.r.length x_222.c1, .slice x_222.a2 m_223.w.length x_222.c2]) (cs' := [.slice x_222.a0 m_223.s.length x_222.c0, .slice x_222.a1 m_223.r.length x_222.c1, .slice x_222.a2 m_223.w.length x_222.c2]) rfl rfl rfl rfl Tryz.sizeOf32 rfl rfl (Nat.le_of_ble_eq_true rfl) rfl) ?_
              rintro _ _ rfl
              refine JL.pure rfl (PO.assign (v := .int .i64 n_224) rfl) ?_
              refine JL.nil ?_
              refine JQ.seq ?_
              refine JC.seq ?_
              refine JC.regionA [mb b_226 x_222 m_223, mb b_219 x_215 m_216] 19 mixed (by simp) ?_
              refine JA.takeP 0 rfl (by kernel_rfl) (NP.th NP.body) (by kernel_rfl) (by kernel_rfl) rfl (PO.fieldAddr fo32_0 rfl) ?_
              refine JA.take 1 rfl (by kernel_rfl) (NP.th NP.body) (by kernel_rfl) (by kernel_rfl) (by kernel_rfl) rfl (LO.load1 0 (v := .slice x_222.a0 m_223.s.length x_222.c0) rfl rfl Tryz.isAgg29 rfl) ?_
              refine JA.two (i := 2) (j := 3) (by kernel_rfl) ?_ ?_
              · skip
                refine JX.op rfl rfl (JO.call [] Tryz.call112 rfl (N_outsIn x_222.a0 x_222.c0 m_223.s (by have hl_ := k_221.1; omega) (fun key => k_221.getKey key)) rfl (fun w hw => ⟨hw.see (i := 1) rfl, hw.hex hlow hpre.2⟩)) ?_
                rintro _ _ ⟨_, ⟨l_234a, l_234c, l_234, e_232, f_235, rfl, rfl⟩, rfl⟩
                refine ⟨(by simp), ?_⟩
                refine JA.one (i := 3) (by kernel_rfl) ?_
                refine JX.op rfl rfl (JO.buildSlice (ps := [(0, str [97, 98]), (1, str [99])]) (cur := #[str [97, 98], str [99]]) Tryz.underlying23 Tryz.sizeOf9 Tryz.zeroValue9 rfl (by kernel_rfl) (by decide) (by decide)) ?_
                rintro _ _ ⟨a_237, rfl, rfl⟩
                refine ⟨(by simp), ?_⟩
                refine JA.one (i := 4) (by kernel_rfl) ?_
                refine JX.op rfl rfl (JO.call [] Tryz.call51 rfl (C_sameTexts l_234a a_237 l_234c 2 l_234 ([[97, 98], [99]] : List Str) (by omega)) rfl (fun w hw => ⟨hw.see (i := 1) rfl, hw.see (i := 0) rfl⟩)) ?_
                rintro _ _ ⟨_, ⟨rfl, rfl⟩, rfl⟩
                refine ⟨(by simp), ?_⟩
                refine JA.takeP 5 rfl (by kernel_rfl) (NP.th NP.body) (by kernel_rfl) (by kernel_rfl) rfl (PO.move (v := .bool (decide (l_234 = ([[97, 98], [99]] : List Str)))) rfl) ?_
                by_cases h_238 : l_234 = ([[97, 98], [99]] : List Str)
                · skip
                  refine JA.takeOnP 6 rfl (by kernel_rfl) (NP.th NP.body) (by kernel_rfl) (by kernel_rfl) rfl rfl rfl (congrArg Value.bool (decide_eq_true h_238)) (PO.fieldAddr fo32_0 rfl) ?_
                  refine JA.takeOn 7 rfl (by kernel_rfl) (NP.th NP.body) (by kernel_rfl) (by kernel_rfl) (by kernel_rfl) rfl rfl rfl (congrArg Value.bool (decide_eq_true h_238)) (LO.load1 1 (v := .slice x_215.a0 m_216.s.length x_215.c0) rfl rfl Tryz.isAgg29 rfl) ?_
                  refine JA.takeOnP 9 rfl (by kernel_rfl) (NP.th NP.body) (by kernel_rfl) (by kernel_rfl) rfl rfl rfl (congrArg Value.bool (decide_eq_true h_238)) (PO.fieldAddr fo32_0 rfl) ?_
                  refine JA.takeOn 10 rfl (by kernel_rfl) (NP.th NP.body) (by kernel_rfl) (by kernel_rfl) (by kernel_rfl) rfl rfl rfl (congrArg Value.bool (decide_eq_true h_238)) (LO.load1 0 (v := .slice x_222.a0 m_223.s.length x_222.c0) rfl rfl Tryz.isAgg29 rfl) ?_
                  refine JA.one (i := 8) (by kernel_rfl) ?_
                  refine JX.opOn rfl rfl rfl rfl (congrArg Value.bool (decide_eq_true h_238)) (JO.call [] Tryz.call112 rfl (N_outsIn x_215.a0 x_215.c0 m_216.s (by have hl_ := k_214.1; omega) (fun key => k_214.getKey key)) rfl (fun w hw => ⟨hw.see (i := 7) rfl, hw.hex hlow hpre.2⟩)) ?_
                  rintro _ _ ⟨_, ⟨l_253a, l_253c, l_253, e_251, f_254, rfl, rfl⟩, rfl⟩
                  refine ⟨(by simp), ?_⟩
                  refine JA.one (i := 11) (by kernel_rfl) ?_
                  refine JX.opOn rfl rfl rfl rfl (congrArg Value.bool (decide_eq_true h_238)) (JO.call [] Tryz.call112 rfl (N_outsIn x_222.a0 x_222.c0 m_223.s (by have hl_ := k_221.1; omega) (fun key => k_221.getKey key)) rfl (fun w hw => ⟨hw.see (i := 4) rfl, hw.hex hlow hpre.2⟩)) ?_
                  rintro _ _ ⟨_, ⟨l_261a, l_261c, l_261, e_259, f_262, rfl, rfl⟩, rfl⟩
                  refine ⟨(by simp), ?_⟩
                  refine JA.one (i := 12) (by kernel_rfl) ?_
                  refine JX.opOn rfl rfl rfl rfl (congrArg Value.bool (decide_eq_true h_238)) (JO.call [] Tryz.call119 rfl (N_igoOn l_253a l_253c l_253 l_261a l_261c l_261 (by omega) (by omega)) rfl (fun w hw => ⟨hw.see (i := 1) rfl, hw.see (i := 0) rfl⟩)) ?_
                  rintro _ _ ⟨_, ⟨b_268, e_266, rfl, rfl⟩, rfl⟩
                  refine ⟨(by simp), ?_⟩
                  refine JA.takeP 13 rfl (by kernel_rfl) (NP.th NP.body) (by kernel_rfl) (by kernel_rfl) rfl (PO.pickT (v := .bool b_268) (congrArg Value.bool (decide_eq_true h_238)) rfl) ?_
                  refine JA.takeP 14 rfl (by kernel_rfl) (NP.th NP.body) (by kernel_rfl) (by kernel_rfl) rfl (PO.move (v := .bool b_268) rfl) ?_
                  rcases Bool.eq_false_or_eq_true (b_268) with h_269 | h_269
                  · skip
                    refine JA.one (i := 15) (by kernel_rfl) ?_
                    refine JX.opOn rfl rfl rfl rfl (congrArg Value.bool h_269) (JO.buildSlice (ps := [(0, str [97])]) (cur := #[str [97]]) Tryz.underlying23 Tryz.sizeOf9 Tryz.zeroValue9 rfl (by kernel_rfl) (by decide) (by decide)) ?_
                    rintro _ _ ⟨a_271, rfl, rfl⟩
                    refine ⟨(by simp), ?_⟩
                    refine JA.one (i := 16) (by kernel_rfl) ?_
                    refine JX.opOn rfl rfl rfl rfl (congrArg Value.bool h_269) (JO.call [] Tryz.call119 rfl (N_igoOn a_271 1 ([[97]] : List Str) none 0 [] (by simp) (by simp)) rfl (fun w hw => ⟨hw.see (i := 0) rfl, sees_nil _⟩)) ?_
                    rintro _ _ ⟨_, ⟨b_277, e_275, rfl, rfl⟩, rfl⟩
                    refine ⟨(by simp), ?_⟩
                    refine JA.takeOnP 17 rfl (by kernel_rfl) (NP.th NP.body) (by kernel_rfl) (by kernel_rfl) rfl rfl rfl (congrArg Value.bool h_269) (PO.not rfl) ?_
                    refine JA.takeP 18 rfl (by kernel_rfl) (NP.th NP.body) (by kernel_rfl) (by kernel_rfl) rfl (PO.pickT (v := .bool (!b_277)) (congrArg Value.bool h_269) rfl) ?_
                    refine JA.takeP 19 rfl (by kernel_rfl) (NP.th NP.body) (by kernel_rfl) (by kernel_rfl) rfl (PO.assign (v := .bool (!b_277)) rfl) ?_
                    refine JA.done (by kernel_rfl) ?_
                    refine JQ.sub (L' := []) (.cons _ (.cons _ (.cons _ (.cons _ (.cons _ (.cons _ (.cons _ (.cons _ (.cons _ (.cons _ (.cons _ (.cons _ (.cons _ (.cons _ (.cons _ (.cons _ (.slnil))))))))))))))))) ?_
                    refine JQ.seq ?_
                    refine JC.ret ?_
                    refine Done.one (.inl rfl) rfl (RV.tmp (v := .bool (!b_277)) rfl) (List.nil_sublist _) ?_
                    obtain ⟨hb1, hb2, hb3⟩ := pl_outs e_212 e_213 e_220
                    have hoc0 := pl_outCount e_188 ⟨by omega, by omega⟩ e_183
                    refine ⟨congrArg Value.bool ?_, rfl⟩
                    try simp only [decide_eq_true_eq]
                    first | omega | assumption | simp_all
                  · skip
                    refine JA.takeOff 15 (b := false) rfl (by kernel_rfl) (NP.th NP.body) (by kernel_rfl) (by kernel_rfl) rfl rfl rfl (congrArg Value.bool h_269) ?_
                    refine JA.takeOff 16 (b := false) rfl (by kernel_rfl) (NP.th NP.body) (by kernel_rfl) (by kernel_rfl) rfl rfl rfl (congrArg Value.bool h_269) ?_
                    refine JA.takeOff 17 (b := false) rfl (by kernel_rfl) (NP.th NP.body) (by kernel_rfl) (by kernel_rfl) rfl rfl rfl (congrArg Value.bool h_269) ?_
                    refine JA.takeP 18 rfl (by kernel_rfl) (NP.th NP.body) (by kernel_rfl) (by kernel_rfl) rfl (PO.pickF (v := .bool false) (congrArg Value.bool h_269) rfl) ?_
                    refine JA.takeP 19 rfl (by kernel_rfl) (NP.th NP.body) (by kernel_rfl) (by kernel_rfl) rfl (PO.assign (v := .bool false) rfl) ?_
                    refine JA.done (by kernel_rfl) ?_
                    refine JQ.sub (L' := []) (.cons _ (.cons _ (.cons _ (.cons _ (.cons _ (.cons _ (.cons _ (.cons _ (.cons _ (.cons _ (.cons _ (.cons _ (.cons _ (.cons _ (.cons _ (.slnil)))))))))))))))) ?_
                    refine JQ.seq ?_
                    refine JC.ret ?_
                    refine Done.one (.inl rfl) rfl (RV.tmp (v := .bool false) rfl) (List.nil_sublist _) ?_
                    obtain ⟨hb1, hb2, hb3⟩ := pl_outs e_212 e_213 e_220
                    have hoc0 := pl_outCount e_188 ⟨by omega, by omega⟩ e_183
                    exfalso
                    first | omega | contradiction | grind | simp_all
                · skip
                  refine JA.takeOff 6 (b := false) rfl (by kernel_rfl) (NP.th NP.body) (by kernel_rfl) (by kernel_rfl) rfl rfl rfl (congrArg Value.bool (decide_eq_false h_238)) ?_
                  refine JA.takeOff 7 (b := false) rfl (by kernel_rfl) (NP.th NP.body) (by kernel_rfl) (by kernel_rfl) rfl rfl rfl (congrArg Value.bool (decide_eq_false h_238)) ?_
                  refine JA.takeOff 8 (b := false) rfl (by kernel_rfl) (NP.th NP.body) (by kernel_rfl) (by kernel_rfl) rfl rfl rfl (congrArg Value.bool (decide_eq_false h_238)) ?_
                  refine JA.takeOff 9 (b := false) rfl (by kernel_rfl) (NP.th NP.body) (by kernel_rfl) (by kernel_rfl) rfl rfl rfl (congrArg Value.bool (decide_eq_false h_238)) ?_
                  refine JA.takeOff 10 (b := false) rfl (by kernel_rfl) (NP.th NP.body) (by kernel_rfl) (by kernel_rfl) rfl rfl rfl (congrArg Value.bool (decide_eq_false h_238)) ?_
                  refine JA.takeOff 11 (b := false) rfl (by kernel_rfl) (NP.th NP.body) (by kernel_rfl) (by kernel_rfl) rfl rfl rfl (congrArg Value.bool (decide_eq_false h_238)) ?_
                  refine JA.takeOff 12 (b := false) rfl (by kernel_rfl) (NP.th NP.body) (by kernel_rfl) (by kernel_rfl) rfl rfl rfl (congrArg Value.bool (decide_eq_false h_238)) ?_
                  refine JA.takeP 13 rfl (by kernel_rfl) (NP.th NP.body) (by kernel_rfl) (by kernel_rfl) rfl (PO.pickF (v := .bool false) (congrArg Value.bool (decide_eq_false h_238)) rfl) ?_
                  refine JA.takeP 14 rfl (by kernel_rfl) (NP.th NP.body) (by kernel_rfl) (by kernel_rfl) rfl (PO.move (v := .bool false) rfl) ?_
                  refine JA.takeOff 15 (b := false) rfl (by kernel_rfl) (NP.th NP.body) (by kernel_rfl) (by kernel_rfl) rfl rfl rfl (congrArg Value.bool rfl) ?_
                  refine JA.takeOff 16 (b := false) rfl (by kernel_rfl) (NP.th NP.body) (by kernel_rfl) (by kernel_rfl) rfl rfl rfl (congrArg Value.bool rfl) ?_
                  refine JA.takeOff 17 (b := false) rfl (by kernel_rfl) (NP.th NP.body) (by kernel_rfl) (by kernel_rfl) rfl rfl rfl (congrArg Value.bool rfl) ?_
                  refine JA.takeP 18 rfl (by kernel_rfl) (NP.th NP.body) (by kernel_rfl) (by kernel_rfl) rfl (PO.pickF (v := .bool false) (congrArg Value.bool rfl) rfl) ?_
                  refine JA.takeP 19 rfl (by kernel_rfl) (NP.th NP.body) (by kernel_rfl) (by kernel_rfl) rfl (PO.assign (v := .bool false) rfl) ?_
                  refine JA.done (by kernel_rfl) ?_
                  refine JQ.sub (L' := []) (.cons _ (.cons _ (.cons _ (.cons _ (.cons _ (.cons _ (.cons _ (.cons _ (.cons _ (.cons _ (.cons _ (.cons _ (.cons _ (.slnil)))))))))))))) ?_
                  refine JQ.seq ?_
                  refine JC.ret ?_
                  refine Done.one (.inl rfl) rfl (RV.tmp (v := .bool false) rfl) (List.nil_sublist _) ?_
                  obtain ⟨hb1, hb2, hb3⟩ := pl_outs e_212 e_213 e_220
                  have hoc0 := pl_outCount e_188 ⟨by omega, by omega⟩ e_183
                  exfalso
                  first | omega | contradiction | grind | simp_all
              · skip
                refine JX.op rfl rfl (JO.buildSlice (ps := [(0, str [97, 98]), (1, str [99])]) (cur := #[str [97, 98], str [99]]) Tryz.underlying23 Tryz.sizeOf9 Tryz.zeroValue9 rfl (by kernel_rfl) (by decide) (by decide)) ?_
                rintro _ _ ⟨a_278, rfl, rfl⟩
                refine ⟨(by simp), ?_⟩
                refine JA.one (i := 2) (by kernel_rfl) ?_
                refine JX.op rfl rfl (JO.call [] Tryz.call112 rfl (N_outsIn x_222.a0 x_222.c0 m_223.s (by have hl_ := k_221.1; omega) (fun key => k_221.getKey key)) rfl (fun w hw => ⟨hw.see (i := 2) rfl, hw.hex hlow hpre.2⟩)) ?_
                rintro _ _ ⟨_, ⟨l_285a, l_285c, l_285, e_283, f_286, rfl, rfl⟩, rfl⟩
                refine ⟨(by simp), ?_⟩
                refine JA.one (i := 4) (by kernel_rfl) ?_
                refine JX.op rfl rfl (JO.call [] Tryz.call51 rfl (C_sameTexts l_285a a_278 l_285c 2 l_285 ([[97, 98], [99]] : List Str) (by omega)) rfl (fun w hw => ⟨hw.see (i := 0) rfl, hw.see (i := 1) rfl⟩)) ?_
                rintro _ _ ⟨_, ⟨rfl, rfl⟩, rfl⟩
                refine ⟨(by simp), ?_⟩
                refine JA.takeP 5 rfl (by kernel_rfl) (NP.th NP.body) (by kernel_rfl) (by kernel_rfl) rfl (PO.move (v := .bool (decide (l_285 = ([[97, 98], [99]] : List Str)))) rfl) ?_
                by_cases h_287 : l_285 = ([[97, 98], [99]] : List Str)
                · skip
                  refine JA.takeOnP 6 rfl (by kernel_rfl) (NP.th NP.body) (by kernel_rfl) (by kernel_rfl) rfl rfl rfl (congrArg Value.bool (decide_eq_true h_287)) (PO.fieldAddr fo32_0 rfl) ?_
                  refine JA.takeOn 7 rfl (by kernel_rfl) (NP.th NP.body) (by kernel_rfl) (by kernel_rfl) (by kernel_rfl) rfl rfl rfl (congrArg Value.bool (decide_eq_true h_287)) (LO.load1 1 (v := .slice x_215.a0 m_216.s.length x_215.c0) rfl rfl Tryz.isAgg29 rfl) ?_
                  refine JA.takeOnP 9 rfl (by kernel_rfl) (NP.th NP.body) (by kernel_rfl) (by kernel_rfl) rfl rfl rfl (congrArg Value.bool (decide_eq_true h_287)) (PO.fieldAddr fo32_0 rfl) ?_
                  refine JA.takeOn 10 rfl (by kernel_rfl) (NP.th NP.body) (by kernel_rfl) (by kernel_rfl) (by kernel_rfl) rfl rfl rfl (congrArg Value.bool (decide_eq_true h_287)) (LO.load1 0 (v := .slice x_222.a0 m_223.s.length x_222.c0) rfl rfl Tryz.isAgg29 rfl) ?_
                  refine JA.one (i := 8) (by kernel_rfl) ?_
                  refine JX.opOn rfl rfl rfl rfl (congrArg Value.bool (decide_eq_true h_287)) (JO.call [] Tryz.call112 rfl (N_outsIn x_215.a0 x_215.c0 m_216.s (by have hl_ := k_214.1; omega) (fun key => k_214.getKey key)) rfl (fun w hw => ⟨hw.see (i := 7) rfl, hw.hex hlow hpre.2⟩)) ?_
                  rintro _ _ ⟨_, ⟨l_302a, l_302c, l_302, e_300, f_303, rfl, rfl⟩, rfl⟩
                  refine ⟨(by simp), ?_⟩
                  refine JA.one (i := 11) (by kernel_rfl) ?_
                  refine JX.opOn rfl rfl rfl rfl (congrArg Value.bool (decide_eq_true h_287)) (JO.call [] Tryz.call112 rfl (N_outsIn x_222.a0 x_222.c0 m_223.s (by have hl_ := k_221.1; omega) (fun key => k_221.getKey key)) rfl (fun w hw => ⟨hw.see (i := 4) rfl, hw.hex hlow hpre.2⟩)) ?_
                  rintro _ _ ⟨_, ⟨l_310a, l_310c, l_310, e_308, f_311, rfl, rfl⟩, rfl⟩
                  refine ⟨(by simp), ?_⟩
                  refine JA.one (i := 12) (by kernel_rfl) ?_
                  refine JX.opOn rfl rfl rfl rfl (congrArg Value.bool (decide_eq_true h_287)) (JO.call [] Tryz.call119 rfl (N_igoOn l_302a l_302c l_302 l_310a l_310c l_310 (by omega) (by omega)) rfl (fun w hw => ⟨hw.see (i := 1) rfl, hw.see (i := 0) rfl⟩)) ?_
                  rintro _ _ ⟨_, ⟨b_317, e_315, rfl, rfl⟩, rfl⟩
                  refine ⟨(by simp), ?_⟩
                  refine JA.takeP 13 rfl (by kernel_rfl) (NP.th NP.body) (by kernel_rfl) (by kernel_rfl) rfl (PO.pickT (v := .bool b_317) (congrArg Value.bool (decide_eq_true h_287)) rfl) ?_
                  refine JA.takeP 14 rfl (by kernel_rfl) (NP.th NP.body) (by kernel_rfl) (by kernel_rfl) rfl (PO.move (v := .bool b_317) rfl) ?_
                  rcases Bool.eq_false_or_eq_true (b_317) with h_318 | h_318
                  · skip
                    refine JA.one (i := 15) (by kernel_rfl) ?_
                    refine JX.opOn rfl rfl rfl rfl (congrArg Value.bool h_318) (JO.buildSlice (ps := [(0, str [97])]) (cur := #[str [97]]) Tryz.underlying23 Tryz.sizeOf9 Tryz.zeroValue9 rfl (by kernel_rfl) (by decide) (by decide)) ?_
                    rintro _ _ ⟨a_320, rfl, rfl⟩
                    refine ⟨(by simp), ?_⟩
                    refine JA.one (i := 16) (by kernel_rfl) ?_
                    refine JX.opOn rfl rfl rfl rfl (congrArg Value.bool h_318) (JO.call [] Tryz.call119 rfl (N_igoOn a_320 1 ([[97]] : List Str) none 0 [] (by simp) (by simp)) rfl (fun w hw => ⟨hw.see (i := 0) rfl, sees_nil _⟩)) ?_
                    rintro _ _ ⟨_, ⟨b_326, e_324, rfl, rfl⟩, rfl⟩
                    refine ⟨(by simp), ?_⟩
                    refine JA.takeOnP 17 rfl (by kernel_rfl) (NP.th NP.body) (by kernel_rfl) (by kernel_rfl) rfl rfl rfl (congrArg Value.bool h_318) (PO.not rfl) ?_
                    refine JA.takeP 18 rfl (by kernel_rfl) (NP.th NP.body) (by kernel_rfl) (by kernel_rfl) rfl (PO.pickT (v := .bool (!b_326)) (congrArg Value.bool h_318) rfl) ?_
                    refine JA.takeP 19 rfl (by kernel_rfl) (NP.th NP.body) (by kernel_rfl) (by kernel_rfl) rfl (PO.assign (v := .bool (!b_326)) rfl) ?_
                    refine JA.done (by kernel_rfl) ?_
                    refine JQ.sub (L' := []) (.cons _ (.cons _ (.cons _ (.cons _ (.cons _ (.cons _ (.cons _ (.cons _ (.cons _ (.cons _ (.cons _ (.cons _ (.cons _ (.cons _ (.cons _ (.cons _ (.slnil))))))))))))))))) ?_
                    refine JQ.seq ?_
                    refine JC.ret ?_
                    refine Done.one (.inl rfl) rfl (RV.tmp (v := .bool (!b_326)) rfl) (List.nil_sublist _) ?_
                    obtain ⟨hb1, hb2, hb3⟩ := pl_outs e_212 e_213 e_220
                    have hoc0 := pl_outCount e_188 ⟨by omega, by omega⟩ e_183
                    refine ⟨congrArg Value.bool ?_, rfl⟩
                    try simp only [decide_eq_true_eq]
                    first | omega | assumption | simp_all
                  · skip
                    refine JA.takeOff 15 (b := false) rfl (by kernel_rfl) (NP.th NP.body) (by kernel_rfl) (by kernel_rfl) rfl rfl rfl (congrArg Value.bool h_318) ?_
                    refine JA.takeOff 16 (b := false) rfl (by kernel_rfl) (NP.th NP.body) (by kernel_rfl) (by kernel_rfl) rfl rfl rfl (congrArg Value.bool h_318) ?_
                    refine JA.takeOff 17 (b := false) rfl (by kernel_rfl) (NP.th NP.body) (by kernel_rfl) (by kernel_rfl) rfl rfl rfl (congrArg Value.bool h_318) ?_
                    refine JA.takeP 18 rfl (by kernel_rfl) (NP.th NP.body) (by kernel_rfl) (by kernel_rfl) rfl (PO.pickF (v := .bool false) (congrArg Value.bool h_318) rfl) ?_
                    refine JA.takeP 19 rfl (by kernel_rfl) (NP.th NP.body) (by kernel_rfl) (by kernel_rfl) rfl (PO.assign (v := .bool false) rfl) ?_
                    refine JA.done (by kernel_rfl) ?_
                    refine JQ.sub (L' := []) (.cons _ (.cons _ (.cons _ (.cons _ (.cons _ (.cons _ (.cons _ (.cons _ (.cons _ (.cons _ (.cons _ (.cons _ (.cons _ (.cons _ (.cons _ (.slnil)))))))))))))))) ?_
                    refine JQ.seq ?_
                    refine JC.ret ?_
                    refine Done.one (.inl rfl) rfl (RV.tmp (v := .bool false) rfl) (List.nil_sublist _) ?_
                    obtain ⟨hb1, hb2, hb3⟩ := pl_outs e_212 e_213 e_220
                    have hoc0 := pl_outCount e_188 ⟨by omega, by omega⟩ e_183
                    exfalso
                    first | omega | contradiction | grind | simp_all
                · skip
                  refine JA.takeOff 6 (b := false) rfl (by kernel_rfl) (NP.th NP.body) (by kernel_rfl) (by kernel_rfl) rfl rfl rfl (congrArg Value.bool (decide_eq_false h_287)) ?_
                  refine JA.takeOff 7 (b := false) rfl (by kernel_rfl) (NP.th NP.body) (by kernel_rfl) (by kernel_rfl) rfl rfl rfl (congrArg Value.bool (decide_eq_false h_287)) ?_
                  refine JA.takeOff 8 (b := false) rfl (by kernel_rfl) (NP.th NP.body) (by kernel_rfl) (by kernel_rfl) rfl rfl rfl (congrArg Value.bool (decide_eq_false h_287)) ?_
                  refine JA.takeOff 9 (b := false) rfl (by kernel_rfl) (NP.th NP.body) (by kernel_rfl) (by kernel_rfl) rfl rfl rfl (congrArg Value.bool (decide_eq_false h_287)) ?_
                  refine JA.takeOff 10 (b := false) rfl (by kernel_rfl) (NP.th NP.body) (by kernel_rfl) (by kernel_rfl) rfl rfl rfl (congrArg Value.bool (decide_eq_false h_287)) ?_
                  refine JA.takeOff 11 (b := false) rfl (by kernel_rfl) (NP.th NP.body) (by kernel_rfl) (by kernel_rfl) rfl rfl rfl (congrArg Value.bool (decide_eq_false h_287)) ?_
                  refine JA.takeOff 12 (b := false) rfl (by kernel_rfl) (NP.th NP.body) (by kernel_rfl) (by kernel_rfl) rfl rfl rfl (congrArg Value.bool (decide_eq_false h_287)) ?_
                  refine JA.takeP 13 rfl (by kernel_rfl) (NP.th NP.body) (by kernel_rfl) (by kernel_rfl) rfl (PO.pickF (v := .bool false) (congrArg Value.bool (decide_eq_false h_287)) rfl) ?_
                  refine JA.takeP 14 rfl (by kernel_rfl) (NP.th NP.body) (by kernel_rfl) (by kernel_rfl) rfl (PO.move (v := .bool false) rfl) ?_
                  refine JA.takeOff 15 (b := false) rfl (by kernel_rfl) (NP.th NP.body) (by kernel_rfl) (by kernel_rfl) rfl rfl rfl (congrArg Value.bool rfl) ?_
                  refine JA.takeOff 16 (b := false) rfl (by kernel_rfl) (NP.th NP.body) (by kernel_rfl) (by kernel_rfl) rfl rfl rfl (congrArg Value.bool rfl) ?_
                  refine JA.takeOff 17 (b := false) rfl (by kernel_rfl) (NP.th NP.body) (by kernel_rfl) (by kernel_rfl) rfl rfl rfl (congrArg Value.bool rfl) ?_
                  refine JA.takeP 18 rfl (by kernel_rfl) (NP.th NP.body) (by kernel_rfl) (by kernel_rfl) rfl (PO.pickF (v := .bool false) (congrArg Value.bool rfl) rfl) ?_
                  refine JA.takeP 19 rfl (by kernel_rfl) (NP.th NP.body) (by kernel_rfl) (by kernel_rfl) rfl (PO.assign (v := .bool false) rfl) ?_
                  refine JA.done (by kernel_rfl) ?_
                  refine JQ.sub (L' := []) (.cons _ (.cons _ (.cons _ (.cons _ (.cons _ (.cons _ (.cons _ (.cons _ (.cons _ (.cons _ (.cons _ (.cons _ (.cons _ (.slnil)))))))))))))) ?_
                  refine JQ.seq ?_
                  refine JC.ret ?_
                  refine Done.one (.inl rfl) rfl (RV.tmp (v := .bool false) rfl) (List.nil_sublist _) ?_
                  obtain ⟨hb1, hb2, hb3⟩ := pl_outs e_212 e_213 e_220
                  have hoc0 := pl_outCount e_188 ⟨by omega, by omega⟩ e_183
                  exfalso
                  first | omega | contradiction | grind | simp_all
            · skip
              refine JC.condT (congrArg Value.bool (congrArg Bool.not (decide_eq_false h_208))) ?_
              refine JC.seq ?_
              refine JC.region ?_
              refine JL.pure rfl (PO.assign (v := .bool false) rfl) ?_
              refine JL.nil ?_
              refine JQ.seq ?_
              refine JC.ret ?_
              refine JQ.thenRet ?_
              refine Done.one (.inl rfl) rfl (RV.tmp (v := .bool false) rfl) (List.nil_sublist _) ?_
              have hoc0 := pl_outCount e_188 ⟨by omega, by omega⟩ e_183
              exfalso
              first | omega | contradiction | grind | simp_all
          · skip
            refine JL.guardOff (b := true) rfl rfl rfl (congrArg Value.bool (congrArg Bool.not (decide_eq_false h_201))) ?_
            refine JL.guardOff (b := true) rfl rfl rfl (congrArg Value.bool (congrArg Bool.not (decide_eq_false h_201))) ?_
            refine JL.guardOff (b := true) rfl rfl rfl (congrArg Value.bool (congrArg Bool.not (decide_eq_false h_201))) ?_
            refine JL.guardOff (b := true) rfl rfl rfl (congrArg Value.bool (congrArg Bool.not (decide_eq_false h_201))) ?_
            refine JL.guardOff (b := true) rfl rfl rfl (congrArg Value.bool (congrArg Bool.not (decide_eq_false h_201))) ?_
            refine JL.guardOff (b := true) rfl rfl rfl (congrArg Value.bool (congrArg Bool.not (decide_eq_false h_201))) ?_
            refine JL.guardOff (b := true) rfl rfl rfl (congrArg Value.bool (congrArg Bool.not (decide_eq_false h_201))) ?_
            refine JL.pure rfl (PO.pickT (v := .bool true) (congrArg Value.bool (congrArg Bool.not (decide_eq_false h_201))) rfl) ?_
            refine JL.nil ?_
            refine JQ.sub (L' := []) (.cons _ (.cons _ (.cons _ (.cons _ (.cons _ (.cons _ (.cons _ (.cons _ (.cons _ (.cons _ (.cons _ (.cons _ (.cons _ (.cons _ (.cons _ (.cons _ (.cons _ (.cons _ (.cons _ (.slnil)))))))))))))))))))) ?_
            refine JQ.seq ?_
            refine JC.condT (congrArg Value.bool rfl) ?_
            refine JC.seq ?_
            refine JC.region ?_
            refine JL.pure rfl (PO.assign (v := .bool false) rfl) ?_
            refine JL.nil ?_
            refine JQ.seq ?_
            refine JC.ret ?_
            refine JQ.thenRet ?_
            refine Done.one (.inl rfl) rfl (RV.tmp (v := .bool false) rfl) (List.nil_sublist _) ?_
            have hoc0 := pl_outCount e_188 ⟨by omega, by omega⟩ e_183
            exfalso
            first | omega | contradiction | grind | simp_all
        · skip
          refine JL.guardOff (b := true) rfl rfl rfl (congrArg Value.bool (congrArg Bool.not (decide_eq_false h_192))) ?_
          refine JL.guardOff (b := true) rfl rfl rfl (congrArg Value.bool (congrArg Bool.not (decide_eq_false h_192))) ?_
          refine JL.guardOff (b := true) rfl rfl rfl (congrArg Value.bool (congrArg Bool.not (decide_eq_false h_192))) ?_
          refine JL.guardOff (b := true) rfl rfl rfl (congrArg Value.bool (congrArg Bool.not (decide_eq_false h_192))) ?_
          refine JL.guardOff (b := true) rfl rfl rfl (congrArg Value.bool (congrArg Bool.not (decide_eq_false h_192))) ?_
          refine JL.guardOff (b := true) rfl rfl rfl (congrArg Value.bool (congrArg Bool.not (decide_eq_false h_192))) ?_
          refine JL.guardOff (b := true) rfl rfl rfl (congrArg Value.bool (congrArg Bool.not (decide_eq_false h_192))) ?_
          refine JL.guardOff (b := true) rfl rfl rfl (congrArg Value.bool (congrArg Bool.not (decide_eq_false h_192))) ?_
          refine JL.pure rfl (PO.pickT (v := .bool true) (congrArg Value.bool (congrArg Bool.not (decide_eq_false h_192))) rfl) ?_
          refine JL.pure rfl (PO.move (v := .bool true) rfl) ?_
          refine JL.guardOff (b := true) rfl rfl rfl (congrArg Value.bool rfl) ?_
          refine JL.guardOff (b := true) rfl rfl rfl (congrArg Value.bool rfl) ?_
          refine JL.guardOff (b := true) rfl rfl rfl (congrArg Value.bool rfl) ?_
          refine JL.guardOff (b := true) rfl rfl rfl (congrArg Value.bool rfl) ?_
          refine JL.guardOff (b := true) rfl rfl rfl (congrArg Value.bool rfl) ?_
          refine JL.guardOff (b := true) rfl rfl rfl (congrArg Value.bool rfl) ?_
          refine JL.guardOff (b := true) rfl rfl rfl (congrArg Value.bool rfl) ?_
          refine JL.pure rfl (PO.pickT (v := .bool true) (congrArg Value.bool rfl) rfl) ?_
          refine JL.nil ?_
          refine JQ.sub (L' := []) (.cons _ (.cons _ (.cons _ (.cons _ (.cons _ (.cons _ (.cons _ (.cons _ (.cons _ (.cons _ (.cons _ (.cons _ (.cons _ (.cons _ (.cons _ (.cons _ (.cons _ (.slnil)))))))))))))))))) ?_
          refine JQ.seq ?_
          refine JC.condT (congrArg Value.bool rfl) ?_
          refine JC.seq ?_
          refine JC.region ?_
          refine JL.pure rfl (PO.assign (v := .bool false) rfl) ?_
          refine JL.nil ?_
          refine JQ.seq ?_
          refine JC.ret ?_
          refine JQ.thenRet ?_
          refine Done.one (.inl rfl) rfl (RV.tmp (v := .bool false) rfl) (List.nil_sublist _) ?_
          have hoc0 := pl_outCount e_188 ⟨by omega, by omega⟩ e_183
          exfalso
          first | omega | contradiction | grind | simp_all
      · skip
        refine JL.guardOff (b := true) rfl rfl rfl (congrArg Value.bool (congrArg Bool.not (decide_eq_false h_187))) ?_
        refine JL.guardOff (b := true) rfl rfl rfl (congrArg Value.bool (congrArg Bool.not (decide_eq_false h_187))) ?_
        refine JL.guardOff (b := true) rfl rfl rfl (congrArg Value.bool (congrArg Bool.not (decide_eq_false h_187))) ?_
        refine JL.guardOff (b := true) rfl rfl rfl (congrArg Value.bool (congrArg Bool.not (decide_eq_false h_187))) ?_
        refine JL.guardOff (b := true) rfl rfl rfl (congrArg Value.bool (congrArg Bool.not (decide_eq_false h_187))) ?_
        refine JL.pure rfl (PO.pickT (v := .bool true) (congrArg Value.bool (congrArg Bool.not (decide_eq_false h_187))) rfl) ?_
        refine JL.pure rfl (PO.move (v := .bool true) rfl) ?_
        refine JL.guardOff (b := true) rfl rfl rfl (congrArg Value.bool rfl) ?_
        refine JL.guardOff (b := true) rfl rfl rfl (congrArg Value.bool rfl) ?_
        refine JL.guardOff (b := true) rfl rfl rfl (congrArg Value.bool rfl) ?_
        refine JL.guardOff (b := true) rfl rfl rfl (congrArg Value.bool rfl) ?_
        refine JL.guardOff (b := true) rfl rfl rfl (congrArg Value.bool rfl) ?_
        refine JL.guardOff (b := true) rfl rfl rfl (congrArg Value.bool rfl) ?_
        refine JL.guardOff (b := true) rfl rfl rfl (congrArg Value.bool rfl) ?_
        refine JL.guardOff (b := true) rfl rfl rfl (congrArg Value.bool rfl) ?_
        refine JL.pure rfl (PO.pickT (v := .bool true) (congrArg Value.bool rfl) rfl) ?_
        refine JL.pure rfl (PO.move (v := .bool true) rfl) ?_
        refine JL.guardOff (b := true) rfl rfl rfl (congrArg Value.bool rfl) ?_
        refine JL.guardOff (b := true) rfl rfl rfl (congrArg Value.bool rfl) ?_
        refine JL.guardOff (b := true) rfl rfl rfl (congrArg Value.bool rfl) ?_
        refine JL.guardOff (b := true) rfl rfl rfl (congrArg Value.bool rfl) ?_
        refine JL.guardOff (b := true) rfl rfl rfl (congrArg Value.bool rfl) ?_
        refine JL.guardOff (b := true) rfl rfl rfl (congrArg Value.bool rfl) ?_
        refine JL.guardOff (b := true) rfl rfl rfl (congrArg Value.bool rfl) ?_
        refine JL.pure rfl (PO.pickT (v := .bool true) (congrArg Value.bool rfl) rfl) ?_
        refine JL.nil ?_
        refine JQ.sub (L' := []) (.cons _ (.cons _ (.cons _ (.cons _ (.cons _ (.cons _ (.cons _ (.cons _ (.cons _ (.cons _ (.cons _ (.cons _ (.cons _ (.cons _ (.cons _ (.cons _ (.cons _ (.slnil)))))))))))))))))) ?_
        refine JQ.seq ?_
        refine JC.condT (congrArg Value.bool rfl) ?_
        refine JC.seq ?_
        refine JC.region ?_
        refine JL.pure rfl (PO.assign (v := .bool false) rfl) ?_
        refine JL.nil ?_
        refine JQ.seq ?_
        refine JC.ret ?_
        refine JQ.thenRet ?_
        refine Done.one (.inl rfl) rfl (RV.tmp (v := .bool false) rfl) (List.nil_sublist _) ?_
        exfalso
        first | omega | contradiction | grind | simp_all

end Go.Proofs.YtenfajgpdhgknaaGreatDoor
