/-
  A law that draws, walked: it says yes at every row of bytes.
-/
import Derived.Test.YtenfajgpdhgknaaGreatDoorS24DRAWS
import Derived.Test.YtenfajgpdhgknaaGreatDoorDatK
import Derived.Test.YtenfajgpdhgknaaGreatDoorS26DRAWNp1
set_option linter.unusedSimpArgs false
set_option linter.unusedVariables false
set_option linter.unnecessarySimpa false
set_option maxRecDepth 8000
namespace Go.Proofs.YtenfajgpdhgknaaGreatDoor
open Go Go.RowKit
attribute [local irreducible] JL JC JQ JO LO PO JA JX Ct

set_option maxHeartbeats 1600000 in
theorem L_Links (pa : Option Addr) (pc : Nat) (p : Str) :
    Ct Tryz.prog 7 [.slice pa p.length pc] [] (fun w => Sees w (.slice pa p.length pc) 1 p.length (p.map encB)) (fun v A' => v = .bool true ∧ A' = []) := by
  refine Ct.intro Tryz.func7 rfl Tryz.ntmps7 (Nat.le_of_ble_eq_true rfl) fun w0 hpre => ?_
  have hs_pa : Sees w0 _ _ _ _ := hpre
  refine JC.seq ?_
  refine JC.region ?_
  refine JL.pure rfl (PO.assign (v := .bool false) rfl) ?_
  refine JL.nil ?_
  refine JQ.seq ?_
  refine JC.seq ?_
  refine JC.seq ?_
  refine JC.region ?_
  refine JL.pure rfl (PO.move (v := .slice pa p.length pc) rfl) ?_
  refine JL.op rfl (JO.call [] Tryz.call26 rfl (N_big pa pc p) rfl (fun _ _ => trivial)) ?_
  rintro _ _ ⟨_, ⟨rfl, rfl⟩, rfl⟩
  refine JL.nil ?_
  refine JQ.seq ?_
  by_cases h_1 : 1048576 < ((p.length : Nat) : Int)
  · skip
    refine JC.condT (congrArg Value.bool (decide_eq_true h_1)) ?_
    refine JC.seq ?_
    refine JC.region ?_
    refine JL.pure rfl (PO.assign (v := .bool true) rfl) ?_
    refine JL.nil ?_
    refine JQ.seq ?_
    refine JC.ret ?_
    refine JQ.thenRet ?_
    refine Done.one (.inl rfl) rfl (RV.tmp (v := .bool true) rfl) (List.nil_sublist _) ?_
    exact ⟨rfl, rfl⟩
  · skip
    refine JC.condF (congrArg Value.bool (decide_eq_false h_1)) ?_
    refine JC.skip ?_
    refine JQ.seq ?_
    refine JC.seq ?_
    refine JC.region ?_
    refine JL.pure rfl (PO.move (v := .slice pa p.length pc) rfl) ?_
    refine JL.op rfl (JO.call [] Tryz.call38 rfl (D_dLinkName pa pc p (by omega)) rfl (fun w hw => hw.seeOut_ hs_pa (fun _ _ => List.not_mem_nil))) ?_
    rintro _ _ ⟨_, ⟨x_2, m_3, u_5, u_7, k_4, f_6, f_8, rfl, rfl⟩, rfl⟩
    refine JL.pure rfl (PO.move (v := .tuple #[mv x_2 m_3, str u_5, str u_7]) rfl) ?_
    refine JL.pure rfl (PO.extract (v := mv x_2 m_3) rfl rfl) ?_
    refine JL.pure rfl (PO.extract (v := str u_5) rfl rfl) ?_
    refine JL.pure rfl (PO.extract (v := str u_7) rfl rfl) ?_
    refine JL.op rfl (JO.alloc (z := .agg #[.slice none 0 0, .slice none 0 0, .slice none 0 0]) (cs := [.slice none 0 0, .slice none 0 0, .slice none 0 0]) Tryz.zeroValue32 rfl) ?_
    rintro _ _ ⟨b_10, rfl, rfl⟩
    refine JL.op rfl (JO.store 0 (vs := [.slice x_2.a0 m_3.s.length x_2.c0, .slice x_2.a1 m_3.r.length x_2.c1, .slice x_2.a2 m_3.w.length x_2.c2]) (cs' := [.slice x_2.a0 m_3.s.length x_2.c0, .slice x_2.a1 m_3.r.length x_2.c1, .slice x_2.a2 m_3.w.length x_2.c2]) rfl rfl rfl rfl Tryz.sizeOf32 rfl rfl (Nat.le_of_ble_eq_true rfl) rfl) ?_
    rintro _ _ rfl
    refine JL.pure rfl (PO.assign (v := str u_5) rfl) ?_
    refine JL.pure rfl (PO.assign (v := str u_7) rfl) ?_
    refine JL.nil ?_
    refine JQ.seq ?_
    refine JC.seq ?_
    refine JC.region ?_
    refine JL.ld rfl (LO.loadK 0 (vs := [.slice x_2.a0 m_3.s.length x_2.c0, .slice x_2.a1 m_3.r.length x_2.c1, .slice x_2.a2 m_3.w.length x_2.c2]) rfl rfl Tryz.isAgg32 Tryz.sizeOf32 rfl rfl) ?_
    refine JL.pure rfl (PO.move (v := str u_5) rfl) ?_
    refine JL.pure rfl (PO.move (v := str u_7) rfl) ?_
    refine JL.op rfl (JO.call [] Tryz.call39 rfl (P_linkName x_2 m_3 k_4 (by omega) (by omega) u_5 u_7 (by omega) (by omega)) rfl (fun w hw => ⟨hw.see (i := 1) rfl, hw.see (i := 2) rfl, hw.see (i := 3) rfl⟩)) ?_
    rintro _ _ ⟨_, ⟨x_13, m_14, n_15, e_11, k_12, f_16, rfl, rfl⟩, rfl⟩
    refine JL.pure rfl (PO.move (v := .tuple #[mv x_13 m_14, .int .i64 n_15]) rfl) ?_
    refine JL.pure rfl (PO.extract (v := mv x_13 m_14) rfl rfl) ?_
    refine JL.pure rfl (PO.extract (v := .int .i64 n_15) rfl rfl) ?_
    refine JL.op rfl (JO.alloc (z := .agg #[.slice none 0 0, .slice none 0 0, .slice none 0 0]) (cs := [.slice none 0 0, .slice none 0 0, .slice none 0 0]) Tryz.zeroValue32 rfl) ?_
    rintro _ _ ⟨b_17, rfl, rfl⟩
    refine JL.op rfl (JO.store 0 (vs := [.slice x_13.a0 m_14.s.length x_13.c0, .slice x_13.a1 m_14.r.length x_13.c1, .slice x_13.a2 m_14.w.length x_13.c2]) (cs' := [.slice x_13.a0 m_14.s.length x_13.c0, .slice x_13.a1 m_14.r.length x_13.c1, .slice x_13.a2 m_14.w.length x_13.c2]) rfl rfl rfl rfl Tryz.sizeOf32 rfl rfl (Nat.le_of_ble_eq_true rfl) rfl) ?_
    rintro _ _ rfl
    refine JL.pure rfl (PO.assign (v := .int .i64 n_15) rfl) ?_
    refine JL.nil ?_
    refine JQ.seq ?_
    refine JC.seq ?_
    refine JC.region ?_
    refine JL.ld rfl (LO.loadK 4 (vs := [.slice x_2.a0 m_3.s.length x_2.c0, .slice x_2.a1 m_3.r.length x_2.c1, .slice x_2.a2 m_3.w.length x_2.c2]) rfl rfl Tryz.isAgg32 Tryz.sizeOf32 rfl rfl) ?_
    refine JL.pure rfl (PO.move (v := str u_5) rfl) ?_
    refine JL.pure rfl (PO.move (v := str u_7) rfl) ?_
    refine JL.op rfl (JO.call [] Tryz.call40 rfl (Q_linkName x_2 m_3 k_4 (by omega) (by omega) u_5 u_7 (by omega) (by omega)) rfl (fun w hw => ⟨hw.see (i := 5) rfl, hw.see (i := 6) rfl, hw.see (i := 7) rfl⟩)) ?_
    rintro _ _ ⟨_, ⟨x_20, m_21, n_22, e_18, k_19, f_23, rfl, rfl⟩, rfl⟩
    have hqe_18 := e_11.symm.trans e_18
    simp only [Prod.mk.injEq] at hqe_18
    obtain ⟨rfl, rfl⟩ := hqe_18
    refine JL.pure rfl (PO.move (v := .tuple #[mv x_20 m_14, .int .i64 n_15]) rfl) ?_
    refine JL.pure rfl (PO.extract (v := mv x_20 m_14) rfl rfl) ?_
    refine JL.pure rfl (PO.extract (v := .int .i64 n_15) rfl rfl) ?_
    refine JL.op rfl (JO.alloc (z := .agg #[.slice none 0 0, .slice none 0 0, .slice none 0 0]) (cs := [.slice none 0 0, .slice none 0 0, .slice none 0 0]) Tryz.zeroValue32 rfl) ?_
    rintro _ _ ⟨b_24, rfl, rfl⟩
    refine JL.op rfl (JO.store 0 (vs := [.slice x_20.a0 m_14.s.length x_20.c0, .slice x_20.a1 m_14.r.length x_20.c1, .slice x_20.a2 m_14.w.length x_20.c2]) (cs' := [.slice x_20.a0 m_14.s.length x_20.c0, .slice x_20.a1 m_14.r.length x_20.c1, .slice x_20.a2 m_14.w.length x_20.c2]) rfl rfl rfl rfl Tryz.sizeOf32 rfl rfl (Nat.le_of_ble_eq_true rfl) rfl) ?_
    rintro _ _ rfl
    refine JL.pure rfl (PO.assign (v := .int .i64 n_15) rfl) ?_
    refine JL.nil ?_
    refine JQ.seq ?_
    refine JC.seq ?_
    refine JC.region ?_
    refine JL.pure rfl (PO.move (v := .slice pa p.length pc) rfl) ?_
    refine JL.op rfl (JO.call [] Tryz.call41 rfl (D_dUnlinkName pa pc p (by omega)) rfl (fun w hw => hw.seeOut_ hs_pa (fun _ _ => List.not_mem_nil))) ?_
    rintro _ _ ⟨_, ⟨x_25, m_26, u_28, k_27, f_29, rfl, rfl⟩, rfl⟩
    refine JL.pure rfl (PO.move (v := .tuple #[mv x_25 m_26, str u_28]) rfl) ?_
    refine JL.pure rfl (PO.extract (v := mv x_25 m_26) rfl rfl) ?_
    refine JL.pure rfl (PO.extract (v := str u_28) rfl rfl) ?_
    refine JL.op rfl (JO.alloc (z := .agg #[.slice none 0 0, .slice none 0 0, .slice none 0 0]) (cs := [.slice none 0 0, .slice none 0 0, .slice none 0 0]) Tryz.zeroValue32 rfl) ?_
    rintro _ _ ⟨b_31, rfl, rfl⟩
    refine JL.op rfl (JO.store 0 (vs := [.slice x_25.a0 m_26.s.length x_25.c0, .slice x_25.a1 m_26.r.length x_25.c1, .slice x_25.a2 m_26.w.length x_25.c2]) (cs' := [.slice x_25.a0 m_26.s.length x_25.c0, .slice x_25.a1 m_26.r.length x_25.c1, .slice x_25.a2 m_26.w.length x_25.c2]) rfl rfl rfl rfl Tryz.sizeOf32 rfl rfl (Nat.le_of_ble_eq_true rfl) rfl) ?_
    rintro _ _ rfl
    refine JL.pure rfl (PO.assign (v := str u_28) rfl) ?_
    refine JL.nil ?_
    refine JQ.seq ?_
    refine JC.seq ?_
    refine JC.region ?_
    refine JL.ld rfl (LO.loadK 0 (vs := [.slice x_25.a0 m_26.s.length x_25.c0, .slice x_25.a1 m_26.r.length x_25.c1, .slice x_25.a2 m_26.w.length x_25.c2]) rfl rfl Tryz.isAgg32 Tryz.sizeOf32 rfl rfl) ?_
    refine JL.pure rfl (PO.move (v := str u_28) rfl) ?_
    refine JL.op rfl (JO.call [] Tryz.call42 rfl (P_unlinkName x_25 m_26 k_27 (by omega) (by omega) u_28 (by omega)) rfl (fun w hw => ⟨hw.see (i := 1) rfl, hw.see (i := 2) rfl, hw.see (i := 3) rfl⟩)) ?_
    rintro _ _ ⟨_, ⟨x_34, m_35, n_36, e_32, k_33, f_37, rfl, rfl⟩, rfl⟩
    refine JL.pure rfl (PO.move (v := .tuple #[mv x_34 m_35, .int .i64 n_36]) rfl) ?_
    refine JL.pure rfl (PO.extract (v := mv x_34 m_35) rfl rfl) ?_
    refine JL.pure rfl (PO.extract (v := .int .i64 n_36) rfl rfl) ?_
    refine JL.op rfl (JO.alloc (z := .agg #[.slice none 0 0, .slice none 0 0, .slice none 0 0]) (cs := [.slice none 0 0, .slice none 0 0, .slice none 0 0]) Tryz.zeroValue32 rfl) ?_
    rintro _ _ ⟨b_38, rfl, rfl⟩
    refine JL.op rfl (JO.store 0 (vs := [.slice x_34.a0 m_35.s.length x_34.c0, .slice x_34.a1 m_35.r.length x_34.c1, .slice x_34.a2 m_35.w.length x_34.c2]) (cs' := [.slice x_34.a0 m_35.s.length x_34.c0, .slice x_34.a1 m_35.r.length x_34.c1, .slice x_34.a2 m_35.w.length x_34.c2]) rfl rfl rfl rfl Tryz.sizeOf32 rfl rfl (Nat.le_of_ble_eq_true rfl) rfl) ?_
    rintro _ _ rfl
    refine JL.pure rfl (PO.assign (v := .int .i64 n_36) rfl) ?_
    refine JL.nil ?_
    refine JQ.seq ?_
    refine JC.seq ?_
    refine JC.region ?_
    refine JL.ld rfl (LO.loadK 4 (vs := [.slice x_25.a0 m_26.s.length x_25.c0, .slice x_25.a1 m_26.r.length x_25.c1, .slice x_25.a2 m_26.w.length x_25.c2]) rfl rfl Tryz.isAgg32 Tryz.sizeOf32 rfl rfl) ?_
    refine JL.pure rfl (PO.move (v := str u_28) rfl) ?_
    refine JL.op rfl (JO.call [] Tryz.call43 rfl (Q_unlinkName x_25 m_26 k_27 (by omega) (by omega) u_28 (by omega)) rfl (fun w hw => ⟨hw.see (i := 5) rfl, hw.see (i := 6) rfl, hw.see (i := 7) rfl⟩)) ?_
    rintro _ _ ⟨_, ⟨x_41, m_42, n_43, e_39, k_40, f_44, rfl, rfl⟩, rfl⟩
    have hqe_39 := e_32.symm.trans e_39
    simp only [Prod.mk.injEq] at hqe_39
    obtain ⟨rfl, rfl⟩ := hqe_39
    refine JL.pure rfl (PO.move (v := .tuple #[mv x_41 m_35, .int .i64 n_36]) rfl) ?_
    refine JL.pure rfl (PO.extract (v := mv x_41 m_35) rfl rfl) ?_
    refine JL.pure rfl (PO.extract (v := .int .i64 n_36) rfl rfl) ?_
    refine JL.op rfl (JO.alloc (z := .agg #[.slice none 0 0, .slice none 0 0, .slice none 0 0]) (cs := [.slice none 0 0, .slice none 0 0, .slice none 0 0]) Tryz.zeroValue32 rfl) ?_
    rintro _ _ ⟨b_45, rfl, rfl⟩
    refine JL.op rfl (JO.store 0 (vs := [.slice x_41.a0 m_35.s.length x_41.c0, .slice x_41.a1 m_35.r.length x_41.c1, .slice x_41.a2 m_35.w.length x_41.c2]) (cs' := [.slice x_41.a0 m_35.s.length x_41.c0, .slice x_41.a1 m_35.r.length x_41.c1, .slice x_41.a2 m_35.w.length x_41.c2]) rfl rfl rfl rfl Tryz.sizeOf32 rfl rfl (Nat.le_of_ble_eq_true rfl) rfl) ?_
    rintro _ _ rfl
    refine JL.pure rfl (PO.assign (v := .int .i64 n_36) rfl) ?_
    refine JL.nil ?_
    refine JQ.seq ?_
    refine JC.seq ?_
    refine JC.seq ?_
    refine JC.region ?_
    refine JL.pure rfl (PO.move (v := .int .i64 n_15) rfl) ?_
    refine JL.pure rfl (PO.move (v := .int .i64 n_15) rfl) ?_
    refine JL.pure rfl (PO.neqI rfl rfl) ?_
    refine JL.pure rfl (PO.move (v := .bool (!(decide (n_15 = n_15)))) rfl) ?_
    refine JL.guardOn rfl rfl rfl (congrArg Value.bool (congrArg Bool.not (decide_eq_true rfl))) (JO.ofLO (LO.loadK 16 (vs := [.slice x_13.a0 m_14.s.length x_13.c0, .slice x_13.a1 m_14.r.length x_13.c1, .slice x_13.a2 m_14.w.length x_13.c2]) rfl rfl Tryz.isAgg32 Tryz.sizeOf32 rfl rfl)) ?_
    rintro _ _ ⟨rfl, rfl⟩
    refine JL.guardOn rfl rfl rfl (congrArg Value.bool (congrArg Bool.not (decide_eq_true rfl))) (JO.ofLO (LO.loadK 12 (vs := [.slice x_20.a0 m_14.s.length x_20.c0, .slice x_20.a1 m_14.r.length x_20.c1, .slice x_20.a2 m_14.w.length x_20.c2]) rfl rfl Tryz.isAgg32 Tryz.sizeOf32 rfl rfl)) ?_
    rintro _ _ ⟨rfl, rfl⟩
    refine JL.guardOn rfl rfl rfl (congrArg Value.bool (congrArg Bool.not (decide_eq_true rfl))) (JO.call [] Tryz.call30 rfl (N_sameMach x_13 x_20 m_14 k_12 (by omega) (by omega)) rfl (fun w hw => ⟨⟨hw.see (i := 17) rfl, hw.see (i := 18) rfl, hw.see (i := 19) rfl⟩, ⟨hw.see (i := 13) rfl, hw.see (i := 14) rfl, hw.see (i := 15) rfl⟩⟩)) ?_
    rintro _ _ ⟨_, ⟨rfl, rfl⟩, rfl⟩
    refine JL.guardOn rfl rfl rfl (congrArg Value.bool (congrArg Bool.not (decide_eq_true rfl))) (JO.ofLO (LO.pure (PO.not rfl))) ?_
    rintro _ _ ⟨rfl, rfl⟩
    refine JL.pure rfl (PO.pickF (v := .bool false) (congrArg Value.bool (congrArg Bool.not (decide_eq_true rfl))) rfl) ?_
    refine JL.pure rfl (PO.move (v := .bool false) rfl) ?_
    refine JL.guardOn rfl rfl rfl (congrArg Value.bool rfl) (JO.ofLO (LO.pure (PO.move (v := .int .i64 n_36) rfl))) ?_
    rintro _ _ ⟨rfl, rfl⟩
    refine JL.guardOn rfl rfl rfl (congrArg Value.bool rfl) (JO.ofLO (LO.pure (PO.move (v := .int .i64 n_36) rfl))) ?_
    rintro _ _ ⟨rfl, rfl⟩
    refine JL.guardOn rfl rfl rfl (congrArg Value.bool rfl) (JO.ofLO (LO.pure (PO.neqI rfl rfl))) ?_
    rintro _ _ ⟨rfl, rfl⟩
    refine JL.pure rfl (PO.pickF (v := .bool (!(decide (n_36 = n_36)))) (congrArg Value.bool rfl) rfl) ?_
    refine JL.pure rfl (PO.move (v := .bool (!(decide (n_36 = n_36)))) rfl) ?_
    refine JL.guardOn rfl rfl rfl (congrArg Value.bool (congrArg Bool.not (decide_eq_true rfl))) (JO.ofLO (LO.loadK 4 (vs := [.slice x_34.a0 m_35.s.length x_34.c0, .slice x_34.a1 m_35.r.length x_34.c1, .slice x_34.a2 m_35.w.length x_34.c2]) rfl rfl Tryz.isAgg32 Tryz.sizeOf32 rfl rfl)) ?_
    rintro _ _ ⟨rfl, rfl⟩
    refine JL.guardOn rfl rfl rfl (congrArg Value.bool (congrArg Bool.not (decide_eq_true rfl))) (JO.ofLO (LO.loadK 0 (vs := [.slice x_41.a0 m_35.s.length x_41.c0, .slice x_41.a1 m_35.r.length x_41.c1, .slice x_41.a2 m_35.w.length x_41.c2]) rfl rfl Tryz.isAgg32 Tryz.sizeOf32 rfl rfl)) ?_
    rintro _ _ ⟨rfl, rfl⟩
    refine JL.guardOn rfl rfl rfl (congrArg Value.bool (congrArg Bool.not (decide_eq_true rfl))) (JO.call [] Tryz.call30 rfl (N_sameMach x_34 x_41 m_35 k_33 (by omega) (by omega)) rfl (fun w hw => ⟨⟨hw.see (i := 5) rfl, hw.see (i := 6) rfl, hw.see (i := 7) rfl⟩, ⟨hw.see (i := 1) rfl, hw.see (i := 2) rfl, hw.see (i := 3) rfl⟩⟩)) ?_
    rintro _ _ ⟨_, ⟨rfl, rfl⟩, rfl⟩
    refine JL.guardOn rfl rfl rfl (congrArg Value.bool (congrArg Bool.not (decide_eq_true rfl))) (JO.ofLO (LO.pure (PO.not rfl))) ?_
    rintro _ _ ⟨rfl, rfl⟩
    refine JL.pure rfl (PO.pickF (v := .bool false) (congrArg Value.bool (congrArg Bool.not (decide_eq_true rfl))) rfl) ?_
    refine JL.nil ?_
    refine JQ.sub (L' := [mb b_38 x_34 m_35, rC x_34.a0 x_34.c0 m_35.s, rS x_34.a1 x_34.c1 m_35.r, rS x_34.a2 x_34.c2 m_35.w, mb b_31 x_25 m_26, rC x_25.a0 x_25.c0 m_26.s, rS x_25.a1 x_25.c1 m_26.r, rS x_25.a2 x_25.c2 m_26.w, mb b_17 x_13 m_14, rC x_13.a0 x_13.c0 m_14.s, rS x_13.a1 x_13.c1 m_14.r, rS x_13.a2 x_13.c2 m_14.w, mb b_10 x_2 m_3, rC x_2.a0 x_2.c0 m_3.s, rS x_2.a1 x_2.c1 m_3.r, rS x_2.a2 x_2.c2 m_3.w]) (.cons _ (.cons _ (.cons _ (.cons _ (.cons_cons _ (.cons_cons _ (.cons_cons _ (.cons_cons _ (.cons_cons _ (.cons_cons _ (.cons_cons _ (.cons_cons _ (.cons _ (.cons _ (.cons _ (.cons _ (.cons_cons _ (.cons_cons _ (.cons_cons _ (.cons_cons _ (.cons_cons _ (.cons_cons _ (.cons_cons _ (.cons_cons _ (.slnil))))))))))))))))))))))))) ?_
    refine JQ.seq ?_
    refine JC.condF (congrArg Value.bool rfl) ?_
    refine JC.skip ?_
    refine JQ.seq ?_
    refine JC.seq ?_
    refine JC.region ?_
    refine JL.op rfl (JO.call [] Tryz.call36 rfl (D_base) rfl (fun _ _ => trivial)) ?_
    rintro _ _ ⟨_, ⟨x_46, m_47, e_49, k_48, rfl, rfl⟩, rfl⟩
    refine JL.op rfl (JO.call [] Tryz.call28 rfl (P_makeName x_46 m_47 k_48 (by omega) (by omega) [120] (by decide)) rfl (fun w hw => ⟨hw.see (i := 0) rfl, hw.see (i := 1) rfl, hw.see (i := 2) rfl⟩)) ?_
    rintro _ _ ⟨_, ⟨x_52, m_53, n_54, n_56, e_50, k_51, f_55, f_57, rfl, rfl⟩, rfl⟩
    refine JL.pure rfl (PO.move (v := .tuple #[mv x_52 m_53, .int .i64 n_54, .int .i64 n_56]) rfl) ?_
    refine JL.pure rfl (PO.extract (v := mv x_52 m_53) rfl rfl) ?_
    refine JL.pure rfl (PO.extract (v := .int .i64 n_54) rfl rfl) ?_
    refine JL.pure rfl (PO.extract (v := .int .i64 n_56) rfl rfl) ?_
    refine JL.op rfl (JO.alloc (z := .agg #[.slice none 0 0, .slice none 0 0, .slice none 0 0]) (cs := [.slice none 0 0, .slice none 0 0, .slice none 0 0]) Tryz.zeroValue32 rfl) ?_
    rintro _ _ ⟨b_58, rfl, rfl⟩
    refine JL.op rfl (JO.store 0 (vs := [.slice x_52.a0 m_53.s.length x_52.c0, .slice x_52.a1 m_53.r.length x_52.c1, .slice x_52.a2 m_53.w.length x_52.c2]) (cs' := [.slice x_52.a0 m_53.s.length x_52.c0, .slice x_52.a1 m_53.r.length x_52.c1, .slice x_52.a2 m_53.w.length x_52.c2]) rfl rfl rfl rfl Tryz.sizeOf32 rfl rfl (Nat.le_of_ble_eq_true rfl) rfl) ?_
    rintro _ _ rfl
    refine JL.pure rfl (PO.assign (v := .int .i64 n_54) rfl) ?_
    refine JL.pure rfl (PO.assign (v := .int .i64 n_56) rfl) ?_
    refine JL.nil ?_
    refine JQ.seq ?_
    refine JC.seq ?_
    refine JC.region ?_
    refine JL.ld rfl (LO.loadK 0 (vs := [.slice x_52.a0 m_53.s.length x_52.c0, .slice x_52.a1 m_53.r.length x_52.c1, .slice x_52.a2 m_53.w.length x_52.c2]) rfl rfl Tryz.isAgg32 Tryz.sizeOf32 rfl rfl) ?_
    refine JL.op rfl (JO.call [] Tryz.call39 rfl (P_linkName x_52 m_53 k_51 (by omega) (by omega) [120] [121] (by decide) (by decide)) rfl (fun w hw => ⟨hw.see (i := 1) rfl, hw.see (i := 2) rfl, hw.see (i := 3) rfl⟩)) ?_
    rintro _ _ ⟨_, ⟨x_61, m_62, n_63, e_59, k_60, f_64, rfl, rfl⟩, rfl⟩
    refine JL.pure rfl (PO.move (v := .tuple #[mv x_61 m_62, .int .i64 n_63]) rfl) ?_
    refine JL.pure rfl (PO.extract (v := mv x_61 m_62) rfl rfl) ?_
    refine JL.pure rfl (PO.extract (v := .int .i64 n_63) rfl rfl) ?_
    refine JL.op rfl (JO.alloc (z := .agg #[.slice none 0 0, .slice none 0 0, .slice none 0 0]) (cs := [.slice none 0 0, .slice none 0 0, .slice none 0 0]) Tryz.zeroValue32 rfl) ?_
    rintro _ _ ⟨b_65, rfl, rfl⟩
    refine JL.op rfl (JO.store 0 (vs := [.slice x_61.a0 m_62.s.length x_61.c0, .slice x_61.a1 m_62.r.length x_61.c1, .slice x_61.a2 m_62.w.length x_61.c2]) (cs' := [.slice x_61.a0 m_62.s.length x_61.c0, .slice x_61.a1 m_62.r.length x_61.c1, .slice x_61.a2 m_62.w.length x_61.c2]) rfl rfl rfl rfl Tryz.sizeOf32 rfl rfl (Nat.le_of_ble_eq_true rfl) rfl) ?_
    rintro _ _ rfl
    refine JL.pure rfl (PO.assign (v := .int .i64 n_63) rfl) ?_
    refine JL.nil ?_
    refine JQ.sub (L' := [mb b_65 x_61 m_62, rC x_61.a0 x_61.c0 m_62.s, rS x_61.a1 x_61.c1 m_62.r, rS x_61.a2 x_61.c2 m_62.w, mb b_38 x_34 m_35, rC x_34.a0 x_34.c0 m_35.s, rS x_34.a1 x_34.c1 m_35.r, rS x_34.a2 x_34.c2 m_35.w, mb b_31 x_25 m_26, rC x_25.a0 x_25.c0 m_26.s, rS x_25.a1 x_25.c1 m_26.r, rS x_25.a2 x_25.c2 m_26.w, mb b_17 x_13 m_14, rC x_13.a0 x_13.c0 m_14.s, rS x_13.a1 x_13.c1 m_14.r, rS x_13.a2 x_13.c2 m_14.w, mb b_10 x_2 m_3, rC x_2.a0 x_2.c0 m_3.s, rS x_2.a1 x_2.c1 m_3.r, rS x_2.a2 x_2.c2 m_3.w]) (.cons_cons _ (.cons_cons _ (.cons_cons _ (.cons_cons _ (.cons _ (.cons _ (.cons _ (.cons _ (.cons _ (.cons _ (.cons _ (.cons_cons _ (.cons_cons _ (.cons_cons _ (.cons_cons _ (.cons_cons _ (.cons_cons _ (.cons_cons _ (.cons_cons _ (.cons_cons _ (.cons_cons _ (.cons_cons _ (.cons_cons _ (.cons_cons _ (.cons_cons _ (.cons_cons _ (.cons_cons _ (.slnil)))))))))))))))))))))))))))) ?_
    refine JQ.seq ?_
    refine JC.seq ?_
    refine JC.region ?_
    refine JL.ld rfl (LO.loadK 0 (vs := [.slice x_61.a0 m_62.s.length x_61.c0, .slice x_61.a1 m_62.r.length x_61.c1, .slice x_61.a2 m_62.w.length x_61.c2]) rfl rfl Tryz.isAgg32 Tryz.sizeOf32 rfl rfl) ?_
    refine JL.op rfl (JO.call [] Tryz.call42 rfl (P_unlinkName x_61 m_62 k_60 (by omega) (by omega) [120] (by decide)) rfl (fun w hw => ⟨hw.see (i := 1) rfl, hw.see (i := 2) rfl, hw.see (i := 3) rfl⟩)) ?_
    rintro _ _ ⟨_, ⟨x_68, m_69, n_70, e_66, k_67, f_71, rfl, rfl⟩, rfl⟩
    refine JL.pure rfl (PO.move (v := .tuple #[mv x_68 m_69, .int .i64 n_70]) rfl) ?_
    refine JL.pure rfl (PO.extract (v := mv x_68 m_69) rfl rfl) ?_
    refine JL.pure rfl (PO.extract (v := .int .i64 n_70) rfl rfl) ?_
    refine JL.op rfl (JO.alloc (z := .agg #[.slice none 0 0, .slice none 0 0, .slice none 0 0]) (cs := [.slice none 0 0, .slice none 0 0, .slice none 0 0]) Tryz.zeroValue32 rfl) ?_
    rintro _ _ ⟨b_72, rfl, rfl⟩
    refine JL.op rfl (JO.store 0 (vs := [.slice x_68.a0 m_69.s.length x_68.c0, .slice x_68.a1 m_69.r.length x_68.c1, .slice x_68.a2 m_69.w.length x_68.c2]) (cs' := [.slice x_68.a0 m_69.s.length x_68.c0, .slice x_68.a1 m_69.r.length x_68.c1, .slice x_68.a2 m_69.w.length x_68.c2]) rfl rfl rfl rfl Tryz.sizeOf32 rfl rfl (Nat.le_of_ble_eq_true rfl) rfl) ?_
    rintro _ _ rfl
    refine JL.pure rfl (PO.assign (v := .int .i64 n_70) rfl) ?_
    refine JL.nil ?_
    refine JQ.seq ?_
    refine JC.seq ?_
    refine JC.region ?_
    refine JL.ld rfl (LO.loadK 0 (vs := [.slice x_68.a0 m_69.s.length x_68.c0, .slice x_68.a1 m_69.r.length x_68.c1, .slice x_68.a2 m_69.w.length x_68.c2]) rfl rfl Tryz.isAgg32 Tryz.sizeOf32 rfl rfl) ?_
    refine JL.op rfl (JO.call [] Tryz.call34 rfl (P_fileOf x_68 m_69 k_67 (by omega) (by omega) [121] (by decide)) rfl (fun w hw => ⟨hw.see (i := 1) rfl, hw.see (i := 2) rfl, hw.see (i := 3) rfl⟩)) ?_
    rintro _ _ ⟨_, ⟨x_75, m_76, n_77, e_73, k_74, f_78, rfl, rfl⟩, rfl⟩
    refine JL.pure rfl (PO.move (v := .tuple #[mv x_75 m_76, .int .i64 n_77]) rfl) ?_
    refine JL.pure rfl (PO.extract (v := mv x_75 m_76) rfl rfl) ?_
    refine JL.pure rfl (PO.extract (v := .int .i64 n_77) rfl rfl) ?_
    refine JL.op rfl (JO.alloc (z := .agg #[.slice none 0 0, .slice none 0 0, .slice none 0 0]) (cs := [.slice none 0 0, .slice none 0 0, .slice none 0 0]) Tryz.zeroValue32 rfl) ?_
    rintro _ _ ⟨b_79, rfl, rfl⟩
    refine JL.op rfl (JO.store 0 (vs := [.slice x_75.a0 m_76.s.length x_75.c0, .slice x_75.a1 m_76.r.length x_75.c1, .slice x_75.a2 m_76.w.length x_75.c2]) (cs' := [.slice x_75.a0 m_76.s.length x_75.c0, .slice x_75.a1 m_76.r.length x_75.c1, .slice x_75.a2 m_76.w.length x_75.c2]) rfl rfl rfl rfl Tryz.sizeOf32 rfl rfl (Nat.le_of_ble_eq_true rfl) rfl) ?_
    rintro _ _ rfl
    refine JL.pure rfl (PO.assign (v := .int .i64 n_77) rfl) ?_
    refine JL.nil ?_
    refine JQ.sub (L' := [mb b_72 x_68 m_69, rC x_68.a0 x_68.c0 m_69.s, rS x_68.a1 x_68.c1 m_69.r, rS x_68.a2 x_68.c2 m_69.w, mb b_38 x_34 m_35, rC x_34.a0 x_34.c0 m_35.s, rS x_34.a1 x_34.c1 m_35.r, rS x_34.a2 x_34.c2 m_35.w, mb b_31 x_25 m_26, rC x_25.a0 x_25.c0 m_26.s, rS x_25.a1 x_25.c1 m_26.r, rS x_25.a2 x_25.c2 m_26.w, mb b_17 x_13 m_14, rC x_13.a0 x_13.c0 m_14.s, rS x_13.a1 x_13.c1 m_14.r, rS x_13.a2 x_13.c2 m_14.w, mb b_10 x_2 m_3, rC x_2.a0 x_2.c0 m_3.s, rS x_2.a1 x_2.c1 m_3.r, rS x_2.a2 x_2.c2 m_3.w]) (.cons _ (.cons _ (.cons _ (.cons _ (.cons_cons _ (.cons_cons _ (.cons_cons _ (.cons_cons _ (.cons _ (.cons _ (.cons _ (.cons _ (.cons_cons _ (.cons_cons _ (.cons_cons _ (.cons_cons _ (.cons_cons _ (.cons_cons _ (.cons_cons _ (.cons_cons _ (.cons_cons _ (.cons_cons _ (.cons_cons _ (.cons_cons _ (.cons_cons _ (.cons_cons _ (.cons_cons _ (.cons_cons _ (.slnil))))))))))))))))))))))))))))) ?_
    refine JQ.seq ?_
    refine JC.seq ?_
    refine JC.region ?_
    refine JL.ld rfl (LO.loadK 0 (vs := [.slice x_68.a0 m_69.s.length x_68.c0, .slice x_68.a1 m_69.r.length x_68.c1, .slice x_68.a2 m_69.w.length x_68.c2]) rfl rfl Tryz.isAgg32 Tryz.sizeOf32 rfl rfl) ?_
    refine JL.op rfl (JO.call [] Tryz.call42 rfl (P_unlinkName x_68 m_69 k_67 (by omega) (by omega) [121] (by decide)) rfl (fun w hw => ⟨hw.see (i := 1) rfl, hw.see (i := 2) rfl, hw.see (i := 3) rfl⟩)) ?_
    rintro _ _ ⟨_, ⟨x_82, m_83, n_84, e_80, k_81, f_85, rfl, rfl⟩, rfl⟩
    refine JL.pure rfl (PO.move (v := .tuple #[mv x_82 m_83, .int .i64 n_84]) rfl) ?_
    refine JL.pure rfl (PO.extract (v := mv x_82 m_83) rfl rfl) ?_
    refine JL.pure rfl (PO.extract (v := .int .i64 n_84) rfl rfl) ?_
    refine JL.op rfl (JO.alloc (z := .agg #[.slice none 0 0, .slice none 0 0, .slice none 0 0]) (cs := [.slice none 0 0, .slice none 0 0, .slice none 0 0]) Tryz.zeroValue32 rfl) ?_
    rintro _ _ ⟨b_86, rfl, rfl⟩
    refine JL.op rfl (JO.store 0 (vs := [.slice x_82.a0 m_83.s.length x_82.c0, .slice x_82.a1 m_83.r.length x_82.c1, .slice x_82.a2 m_83.w.length x_82.c2]) (cs' := [.slice x_82.a0 m_83.s.length x_82.c0, .slice x_82.a1 m_83.r.length x_82.c1, .slice x_82.a2 m_83.w.length x_82.c2]) rfl rfl rfl rfl Tryz.sizeOf32 rfl rfl (Nat.le_of_ble_eq_true rfl) rfl) ?_
    rintro _ _ rfl
    refine JL.pure rfl (PO.assign (v := .int .i64 n_84) rfl) ?_
    refine JL.nil ?_
    refine JQ.seq ?_
    refine JC.seq ?_
    refine JC.region ?_
    refine JL.pure rfl (PO.fieldAddr fo32_0 rfl) ?_
    refine JL.ld rfl (LO.load1 0 (v := .slice x_82.a0 m_83.s.length x_82.c0) rfl rfl Tryz.isAgg29 rfl) ?_
    refine JL.op rfl (JO.call [] Tryz.call44 rfl (N_skeysUnder x_82.a0 x_82.c0 m_83.s [105, 47] (by have hl_ := k_81.1; omega) (by decide) (fun j hj => Nat.le_trans (k_81.2.2.2 _ (getD_mem hj)).1 (by decide))) rfl (fun w hw => hw.see (i := 1) rfl)) ?_
    rintro _ _ ⟨_, ⟨l_89a, l_89c, l_89, e_87, f_90, rfl, rfl⟩, rfl⟩
    refine JL.pure rfl (PO.lenV Tryz.underlying23 rfl) ?_
    refine JL.pure rfl (PO.assign (v := .int .i64 ((l_89.length : Nat) : Int)) rfl) ?_
    refine JL.nil ?_
    refine JQ.sub (L' := [mb b_38 x_34 m_35, rC x_34.a0 x_34.c0 m_35.s, rS x_34.a1 x_34.c1 m_35.r, rS x_34.a2 x_34.c2 m_35.w, mb b_31 x_25 m_26, rC x_25.a0 x_25.c0 m_26.s, rS x_25.a1 x_25.c1 m_26.r, rS x_25.a2 x_25.c2 m_26.w, mb b_17 x_13 m_14, rC x_13.a0 x_13.c0 m_14.s, rS x_13.a1 x_13.c1 m_14.r, rS x_13.a2 x_13.c2 m_14.w, mb b_10 x_2 m_3, rC x_2.a0 x_2.c0 m_3.s, rS x_2.a1 x_2.c1 m_3.r, rS x_2.a2 x_2.c2 m_3.w]) (.cons _ (.cons _ (.cons _ (.cons _ (.cons _ (.cons _ (.cons _ (.cons _ (.cons _ (.cons_cons _ (.cons_cons _ (.cons_cons _ (.cons_cons _ (.cons_cons _ (.cons_cons _ (.cons_cons _ (.cons_cons _ (.cons_cons _ (.cons_cons _ (.cons_cons _ (.cons_cons _ (.cons_cons _ (.cons_cons _ (.cons_cons _ (.cons_cons _ (.slnil)))))))))))))))))))))))))) ?_
    refine JQ.seq ?_
    refine JC.seq ?_
    refine JC.region ?_
    refine JL.ld rfl (LO.loadK 8 (vs := [.slice x_13.a0 m_14.s.length x_13.c0, .slice x_13.a1 m_14.r.length x_13.c1, .slice x_13.a2 m_14.w.length x_13.c2]) rfl rfl Tryz.isAgg32 Tryz.sizeOf32 rfl rfl) ?_
    refine JL.pure rfl (PO.move (v := str u_7) rfl) ?_
    refine JL.op rfl (JO.call [] Tryz.call35 rfl (Q_fileOf x_13 m_14 k_12 (by omega) (by omega) u_7 (by omega)) rfl (fun w hw => ⟨hw.see (i := 9) rfl, hw.see (i := 10) rfl, hw.see (i := 11) rfl⟩)) ?_
    rintro _ _ ⟨_, ⟨x_93, m_94, n_95, e_91, k_92, f_96, rfl, rfl⟩, rfl⟩
    refine JL.pure rfl (PO.move (v := .tuple #[mv x_93 m_94, .int .i64 n_95]) rfl) ?_
    refine JL.pure rfl (PO.extract (v := mv x_93 m_94) rfl rfl) ?_
    refine JL.pure rfl (PO.extract (v := .int .i64 n_95) rfl rfl) ?_
    refine JL.op rfl (JO.alloc (z := .agg #[.slice none 0 0, .slice none 0 0, .slice none 0 0]) (cs := [.slice none 0 0, .slice none 0 0, .slice none 0 0]) Tryz.zeroValue32 rfl) ?_
    rintro _ _ ⟨b_97, rfl, rfl⟩
    refine JL.op rfl (JO.store 0 (vs := [.slice x_93.a0 m_94.s.length x_93.c0, .slice x_93.a1 m_94.r.length x_93.c1, .slice x_93.a2 m_94.w.length x_93.c2]) (cs' := [.slice x_93.a0 m_94.s.length x_93.c0, .slice x_93.a1 m_94.r.length x_93.c1, .slice x_93.a2 m_94.w.length x_93.c2]) rfl rfl rfl rfl Tryz.sizeOf32 rfl rfl (Nat.le_of_ble_eq_true rfl) rfl) ?_
    rintro _ _ rfl
    refine JL.pure rfl (PO.assign (v := .int .i64 n_95) rfl) ?_
    refine JL.nil ?_
    refine JQ.sub (L' := [mb b_38 x_34 m_35, rC x_34.a0 x_34.c0 m_35.s, rS x_34.a1 x_34.c1 m_35.r, rS x_34.a2 x_34.c2 m_35.w, mb b_31 x_25 m_26, rC x_25.a0 x_25.c0 m_26.s, rS x_25.a1 x_25.c1 m_26.r, rS x_25.a2 x_25.c2 m_26.w, mb b_10 x_2 m_3, rC x_2.a0 x_2.c0 m_3.s, rS x_2.a1 x_2.c1 m_3.r, rS x_2.a2 x_2.c2 m_3.w]) (.cons _ (.cons _ (.cons _ (.cons _ (.cons_cons _ (.cons_cons _ (.cons_cons _ (.cons_cons _ (.cons_cons _ (.cons_cons _ (.cons_cons _ (.cons_cons _ (.cons _ (.cons _ (.cons _ (.cons _ (.cons_cons _ (.cons_cons _ (.cons_cons _ (.cons_cons _ (.slnil))))))))))))))))))))) ?_
    refine JQ.seq ?_
    refine JC.seq ?_
    refine JC.region ?_
    refine JL.ld rfl (LO.loadK 8 (vs := [.slice x_2.a0 m_3.s.length x_2.c0, .slice x_2.a1 m_3.r.length x_2.c1, .slice x_2.a2 m_3.w.length x_2.c2]) rfl rfl Tryz.isAgg32 Tryz.sizeOf32 rfl rfl) ?_
    refine JL.pure rfl (PO.move (v := str u_5) rfl) ?_
    refine JL.op rfl (JO.call [] Tryz.call35 rfl (Q_fileOf x_2 m_3 k_4 (by omega) (by omega) u_5 (by omega)) rfl (fun w hw => ⟨hw.see (i := 9) rfl, hw.see (i := 10) rfl, hw.see (i := 11) rfl⟩)) ?_
    rintro _ _ ⟨_, ⟨x_100, m_101, n_102, e_98, k_99, f_103, rfl, rfl⟩, rfl⟩
    refine JL.pure rfl (PO.move (v := .tuple #[mv x_100 m_101, .int .i64 n_102]) rfl) ?_
    refine JL.pure rfl (PO.extract (v := mv x_100 m_101) rfl rfl) ?_
    refine JL.pure rfl (PO.extract (v := .int .i64 n_102) rfl rfl) ?_
    refine JL.op rfl (JO.alloc (z := .agg #[.slice none 0 0, .slice none 0 0, .slice none 0 0]) (cs := [.slice none 0 0, .slice none 0 0, .slice none 0 0]) Tryz.zeroValue32 rfl) ?_
    rintro _ _ ⟨b_104, rfl, rfl⟩
    refine JL.op rfl (JO.store 0 (vs := [.slice x_100.a0 m_101.s.length x_100.c0, .slice x_100.a1 m_101.r.length x_100.c1, .slice x_100.a2 m_101.w.length x_100.c2]) (cs' := [.slice x_100.a0 m_101.s.length x_100.c0, .slice x_100.a1 m_101.r.length x_100.c1, .slice x_100.a2 m_101.w.length x_100.c2]) rfl rfl rfl rfl Tryz.sizeOf32 rfl rfl (Nat.le_of_ble_eq_true rfl) rfl) ?_
    rintro _ _ rfl
    refine JL.pure rfl (PO.assign (v := .int .i64 n_102) rfl) ?_
    refine JL.nil ?_
    refine JQ.sub (L' := [mb b_38 x_34 m_35, rC x_34.a0 x_34.c0 m_35.s, rS x_34.a1 x_34.c1 m_35.r, rS x_34.a2 x_34.c2 m_35.w, mb b_31 x_25 m_26, rC x_25.a0 x_25.c0 m_26.s, rS x_25.a1 x_25.c1 m_26.r, rS x_25.a2 x_25.c2 m_26.w]) (.cons _ (.cons _ (.cons _ (.cons _ (.cons_cons _ (.cons_cons _ (.cons_cons _ (.cons_cons _ (.cons_cons _ (.cons_cons _ (.cons_cons _ (.cons_cons _ (.cons _ (.cons _ (.cons _ (.cons _ (.slnil))))))))))))))))) ?_
    refine JQ.seq ?_
    refine JC.seq ?_
    refine JC.region ?_
    refine JL.pure rfl (PO.move (v := .int .i64 n_15) rfl) ?_
    refine JL.pure rfl (PO.neqI rfl rfl) ?_
    refine JL.pure rfl (PO.move (v := .bool (!(decide (n_15 = 0)))) rfl) ?_
    by_cases h_105 : n_15 = 0
    · skip
      refine JL.guardOn rfl rfl rfl (congrArg Value.bool (congrArg Bool.not (decide_eq_true h_105))) (JO.ofLO (LO.pure (PO.move (v := .int .i64 n_95) rfl))) ?_
      rintro _ _ ⟨rfl, rfl⟩
      refine JL.guardOn rfl rfl rfl (congrArg Value.bool (congrArg Bool.not (decide_eq_true h_105))) (JO.ofLO (LO.pure (PO.move (v := .int .i64 n_102) rfl))) ?_
      rintro _ _ ⟨rfl, rfl⟩
      refine JL.guardOn rfl rfl rfl (congrArg Value.bool (congrArg Bool.not (decide_eq_true h_105))) (JO.ofLO (LO.pure (PO.eqlI rfl rfl))) ?_
      rintro _ _ ⟨rfl, rfl⟩
      refine JL.pure rfl (PO.pickF (v := .bool (decide (n_95 = n_102))) (congrArg Value.bool (congrArg Bool.not (decide_eq_true h_105))) rfl) ?_
      refine JL.pure rfl (PO.move (v := .bool (decide (n_95 = n_102))) rfl) ?_
      by_cases h_106 : n_95 = n_102
      · skip
        refine JL.guardOn rfl rfl rfl (congrArg Value.bool (decide_eq_true h_106)) (JO.ofLO (LO.pure (PO.move (v := .int .i64 n_77) rfl))) ?_
        rintro _ _ ⟨rfl, rfl⟩
        refine JL.guardOn rfl rfl rfl (congrArg Value.bool (decide_eq_true h_106)) (JO.ofLO (LO.pure (PO.move (v := .int .i64 n_54) rfl))) ?_
        rintro _ _ ⟨rfl, rfl⟩
        refine JL.guardOn rfl rfl rfl (congrArg Value.bool (decide_eq_true h_106)) (JO.ofLO (LO.pure (PO.eqlI rfl rfl))) ?_
        rintro _ _ ⟨rfl, rfl⟩
        refine JL.pure rfl (PO.pickT (v := .bool (decide (n_77 = n_54))) (congrArg Value.bool (decide_eq_true h_106)) rfl) ?_
        refine JL.pure rfl (PO.move (v := .bool (decide (n_77 = n_54))) rfl) ?_
        by_cases h_107 : n_77 = n_54
        · skip
          refine JL.guardOn rfl rfl rfl (congrArg Value.bool (decide_eq_true h_107)) (JO.ofLO (LO.pure (PO.move (v := .int .i64 n_54) rfl))) ?_
          rintro _ _ ⟨rfl, rfl⟩
          refine JL.guardOn rfl rfl rfl (congrArg Value.bool (decide_eq_true h_107)) (JO.ofLO (LO.pure (PO.eqlI rfl rfl))) ?_
          rintro _ _ ⟨rfl, rfl⟩
          refine JL.pure rfl (PO.pickT (v := .bool (decide (n_54 = 1))) (congrArg Value.bool (decide_eq_true h_107)) rfl) ?_
          refine JL.pure rfl (PO.move (v := .bool (decide (n_54 = 1))) rfl) ?_
          by_cases h_108 : n_54 = 1
          · skip
            refine JL.guardOn rfl rfl rfl (congrArg Value.bool (decide_eq_true h_108)) (JO.ofLO (LO.pure (PO.move (v := .int .i64 ((l_89.length : Nat) : Int)) rfl))) ?_
            rintro _ _ ⟨rfl, rfl⟩
            refine JL.guardOn rfl rfl rfl (congrArg Value.bool (decide_eq_true h_108)) (JO.ofLO (LO.pure (PO.eqlI rfl rfl))) ?_
            rintro _ _ ⟨rfl, rfl⟩
            refine JL.pure rfl (PO.pickT (v := .bool (decide (((l_89.length : Nat) : Int) = 0))) (congrArg Value.bool (decide_eq_true h_108)) rfl) ?_
            refine JL.pure rfl (PO.move (v := .bool (decide (((l_89.length : Nat) : Int) = 0))) rfl) ?_
            by_cases h_109 : ((l_89.length : Nat) : Int) = 0
            · skip
              refine JL.guardOn rfl rfl rfl (congrArg Value.bool (decide_eq_true h_109)) (JO.ofLO (LO.pure (PO.move (v := .int .i64 n_36) rfl))) ?_
              rintro _ _ ⟨rfl, rfl⟩
              refine JL.guardOn rfl rfl rfl (congrArg Value.bool (decide_eq_true h_109)) (JO.ofLO (LO.pure (PO.eqlI rfl rfl))) ?_
              rintro _ _ ⟨rfl, rfl⟩
              refine JL.guardOn rfl rfl rfl (congrArg Value.bool (decide_eq_true h_109)) (JO.ofLO (LO.pure (PO.move (v := .bool (decide (n_36 = 0))) rfl))) ?_
              rintro _ _ ⟨rfl, rfl⟩
              by_cases h_110 : n_36 = 0
              · skip
                refine JL.guardOff (b := true) rfl rfl rfl (congrArg Value.bool (decide_eq_true h_110)) ?_
                refine JL.guardOff (b := true) rfl rfl rfl (congrArg Value.bool (decide_eq_true h_110)) ?_
                refine JL.guardOff (b := true) rfl rfl rfl (congrArg Value.bool (decide_eq_true h_110)) ?_
                refine JL.guardOff (b := true) rfl rfl rfl (congrArg Value.bool (decide_eq_true h_110)) ?_
                refine JL.guardOff (b := true) rfl rfl rfl (congrArg Value.bool (decide_eq_true h_110)) ?_
                refine JL.guardOn rfl rfl rfl (congrArg Value.bool (decide_eq_true h_109)) (JO.ofLO (LO.pure (PO.pickT (v := .bool true) (congrArg Value.bool (decide_eq_true h_110)) rfl))) ?_
                rintro _ _ ⟨rfl, rfl⟩
                refine JL.pure rfl (PO.pickT (v := .bool true) (congrArg Value.bool (decide_eq_true h_109)) rfl) ?_
                refine JL.pure rfl (PO.assign (v := .bool true) rfl) ?_
                refine JL.nil ?_
                refine JQ.sub (L' := []) (.cons _ (.cons _ (.cons _ (.cons _ (.cons _ (.cons _ (.cons _ (.cons _ (.slnil))))))))) ?_
                refine JQ.seq ?_
                refine JC.ret ?_
                refine Done.one (.inl rfl) rfl (RV.tmp (v := .bool true) rfl) (List.nil_sublist _) ?_
                exact ⟨rfl, rfl⟩
              · skip
                refine JL.guardOn rfl rfl rfl (congrArg Value.bool (decide_eq_false h_110)) (JO.ofLO (LO.pure (PO.fieldAddr fo32_0 rfl))) ?_
                rintro _ _ ⟨rfl, rfl⟩
                refine JL.guardOn rfl rfl rfl (congrArg Value.bool (decide_eq_false h_110)) (JO.ofLO (LO.load1 0 (v := .slice x_34.a0 m_35.s.length x_34.c0) rfl rfl Tryz.isAgg29 rfl)) ?_
                rintro _ _ ⟨rfl, rfl⟩
                refine JL.guardOn rfl rfl rfl (congrArg Value.bool (decide_eq_false h_110)) (JO.ofLO (LO.pure (PO.fieldAddr fo32_0 rfl))) ?_
                rintro _ _ ⟨rfl, rfl⟩
                refine JL.guardOn rfl rfl rfl (congrArg Value.bool (decide_eq_false h_110)) (JO.ofLO (LO.load1 4 (v := .slice x_25.a0 m_26.s.length x_25.c0) rfl rfl Tryz.isAgg29 rfl)) ?_
                rintro _ _ ⟨rfl, rfl⟩
                refine JL.guardOn rfl rfl rfl (congrArg Value.bool (decide_eq_false h_110)) (JO.call [] Tryz.call37 rfl (C_sameCells x_34.a0 x_25.a0 x_34.c0 x_25.c0 m_35.s m_26.s (by have hl_ := k_33.1; omega)) rfl (fun w hw => ⟨hw.see (i := 1) rfl, hw.see (i := 5) rfl⟩)) ?_
                rintro _ _ ⟨_, ⟨rfl, rfl⟩, rfl⟩
                refine JL.guardOn rfl rfl rfl (congrArg Value.bool (decide_eq_true h_109)) (JO.ofLO (LO.pure (PO.pickF (v := .bool (decide (m_35.s = m_26.s))) (congrArg Value.bool (decide_eq_false h_110)) rfl))) ?_
                rintro _ _ ⟨rfl, rfl⟩
                refine JL.pure rfl (PO.pickT (v := .bool (decide (m_35.s = m_26.s))) (congrArg Value.bool (decide_eq_true h_109)) rfl) ?_
                refine JL.pure rfl (PO.assign (v := .bool (decide (m_35.s = m_26.s))) rfl) ?_
                refine JL.nil ?_
                refine JQ.sub (L' := []) (.cons _ (.cons _ (.cons _ (.cons _ (.cons _ (.cons _ (.cons _ (.cons _ (.slnil))))))))) ?_
                refine JQ.seq ?_
                refine JC.ret ?_
                refine Done.one (.inl rfl) rfl (RV.tmp (v := .bool (decide (m_35.s = m_26.s))) rfl) (List.nil_sublist _) ?_
                obtain ⟨hb1, hb2, hb3⟩ := pl_link_base e_49 e_50 e_59 e_66 e_73 e_80 e_87
                have hc1 := pl_link e_11 e_91 e_98
                have hc2 := pl_unlink e_32
                refine ⟨congrArg Value.bool ?_, rfl⟩
                simp only [decide_eq_true_eq]
                first | omega | assumption | simp_all
            · skip
              refine JL.guardOff (b := false) rfl rfl rfl (congrArg Value.bool (decide_eq_false h_109)) ?_
              refine JL.guardOff (b := false) rfl rfl rfl (congrArg Value.bool (decide_eq_false h_109)) ?_
              refine JL.guardOff (b := false) rfl rfl rfl (congrArg Value.bool (decide_eq_false h_109)) ?_
              refine JL.guardOffU rfl rfl rfl rfl ?_
              refine JL.guardOffU rfl rfl rfl rfl ?_
              refine JL.guardOffU rfl rfl rfl rfl ?_
              refine JL.guardOffU rfl rfl rfl rfl ?_
              refine JL.guardOffU rfl rfl rfl rfl ?_
              refine JL.guardOff (b := false) rfl rfl rfl (congrArg Value.bool (decide_eq_false h_109)) ?_
              refine JL.pure rfl (PO.pickF (v := .bool false) (congrArg Value.bool (decide_eq_false h_109)) rfl) ?_
              refine JL.pure rfl (PO.assign (v := .bool false) rfl) ?_
              refine JL.nil ?_
              refine JQ.sub (L' := []) (.cons _ (.cons _ (.cons _ (.cons _ (.cons _ (.cons _ (.cons _ (.cons _ (.slnil))))))))) ?_
              refine JQ.seq ?_
              refine JC.ret ?_
              refine Done.one (.inl rfl) rfl (RV.tmp (v := .bool false) rfl) (List.nil_sublist _) ?_
              obtain ⟨hb1, hb2, hb3⟩ := pl_link_base e_49 e_50 e_59 e_66 e_73 e_80 e_87
              have hc1 := pl_link e_11 e_91 e_98
              have hc2 := pl_unlink e_32
              exfalso
              first | omega | contradiction | simp_all
          · skip
            refine JL.guardOff (b := false) rfl rfl rfl (congrArg Value.bool (decide_eq_false h_108)) ?_
            refine JL.guardOff (b := false) rfl rfl rfl (congrArg Value.bool (decide_eq_false h_108)) ?_
            refine JL.pure rfl (PO.pickF (v := .bool false) (congrArg Value.bool (decide_eq_false h_108)) rfl) ?_
            refine JL.pure rfl (PO.move (v := .bool false) rfl) ?_
            refine JL.guardOff (b := false) rfl rfl rfl (congrArg Value.bool rfl) ?_
            refine JL.guardOff (b := false) rfl rfl rfl (congrArg Value.bool rfl) ?_
            refine JL.guardOff (b := false) rfl rfl rfl (congrArg Value.bool rfl) ?_
            refine JL.guardOffU rfl rfl rfl rfl ?_
            refine JL.guardOffU rfl rfl rfl rfl ?_
            refine JL.guardOffU rfl rfl rfl rfl ?_
            refine JL.guardOffU rfl rfl rfl rfl ?_
            refine JL.guardOffU rfl rfl rfl rfl ?_
            refine JL.guardOff (b := false) rfl rfl rfl (congrArg Value.bool rfl) ?_
            refine JL.pure rfl (PO.pickF (v := .bool false) (congrArg Value.bool rfl) rfl) ?_
            refine JL.pure rfl (PO.assign (v := .bool false) rfl) ?_
            refine JL.nil ?_
            refine JQ.sub (L' := []) (.cons _ (.cons _ (.cons _ (.cons _ (.cons _ (.cons _ (.cons _ (.cons _ (.slnil))))))))) ?_
            refine JQ.seq ?_
            refine JC.ret ?_
            refine Done.one (.inl rfl) rfl (RV.tmp (v := .bool false) rfl) (List.nil_sublist _) ?_
            obtain ⟨hb1, hb2, hb3⟩ := pl_link_base e_49 e_50 e_59 e_66 e_73 e_80 e_87
            have hc1 := pl_link e_11 e_91 e_98
            have hc2 := pl_unlink e_32
            exfalso
            first | omega | contradiction | simp_all
        · skip
          refine JL.guardOff (b := false) rfl rfl rfl (congrArg Value.bool (decide_eq_false h_107)) ?_
          refine JL.guardOff (b := false) rfl rfl rfl (congrArg Value.bool (decide_eq_false h_107)) ?_
          refine JL.pure rfl (PO.pickF (v := .bool false) (congrArg Value.bool (decide_eq_false h_107)) rfl) ?_
          refine JL.pure rfl (PO.move (v := .bool false) rfl) ?_
          refine JL.guardOff (b := false) rfl rfl rfl (congrArg Value.bool rfl) ?_
          refine JL.guardOff (b := false) rfl rfl rfl (congrArg Value.bool rfl) ?_
          refine JL.pure rfl (PO.pickF (v := .bool false) (congrArg Value.bool rfl) rfl) ?_
          refine JL.pure rfl (PO.move (v := .bool false) rfl) ?_
          refine JL.guardOff (b := false) rfl rfl rfl (congrArg Value.bool rfl) ?_
          refine JL.guardOff (b := false) rfl rfl rfl (congrArg Value.bool rfl) ?_
          refine JL.guardOff (b := false) rfl rfl rfl (congrArg Value.bool rfl) ?_
          refine JL.guardOffU rfl rfl rfl rfl ?_
          refine JL.guardOffU rfl rfl rfl rfl ?_
          refine JL.guardOffU rfl rfl rfl rfl ?_
          refine JL.guardOffU rfl rfl rfl rfl ?_
          refine JL.guardOffU rfl rfl rfl rfl ?_
          refine JL.guardOff (b := false) rfl rfl rfl (congrArg Value.bool rfl) ?_
          refine JL.pure rfl (PO.pickF (v := .bool false) (congrArg Value.bool rfl) rfl) ?_
          refine JL.pure rfl (PO.assign (v := .bool false) rfl) ?_
          refine JL.nil ?_
          refine JQ.sub (L' := []) (.cons _ (.cons _ (.cons _ (.cons _ (.cons _ (.cons _ (.cons _ (.cons _ (.slnil))))))))) ?_
          refine JQ.seq ?_
          refine JC.ret ?_
          refine Done.one (.inl rfl) rfl (RV.tmp (v := .bool false) rfl) (List.nil_sublist _) ?_
          obtain ⟨hb1, hb2, hb3⟩ := pl_link_base e_49 e_50 e_59 e_66 e_73 e_80 e_87
          have hc1 := pl_link e_11 e_91 e_98
          have hc2 := pl_unlink e_32
          exfalso
          first | omega | contradiction | simp_all
      · skip
        refine JL.guardOff (b := false) rfl rfl rfl (congrArg Value.bool (decide_eq_false h_106)) ?_
        refine JL.guardOff (b := false) rfl rfl rfl (congrArg Value.bool (decide_eq_false h_106)) ?_
        refine JL.guardOff (b := false) rfl rfl rfl (congrArg Value.bool (decide_eq_false h_106)) ?_
        refine JL.pure rfl (PO.pickF (v := .bool false) (congrArg Value.bool (decide_eq_false h_106)) rfl) ?_
        refine JL.pure rfl (PO.move (v := .bool false) rfl) ?_
        refine JL.guardOff (b := false) rfl rfl rfl (congrArg Value.bool rfl) ?_
        refine JL.guardOff (b := false) rfl rfl rfl (congrArg Value.bool rfl) ?_
        refine JL.pure rfl (PO.pickF (v := .bool false) (congrArg Value.bool rfl) rfl) ?_
        refine JL.pure rfl (PO.move (v := .bool false) rfl) ?_
        refine JL.guardOff (b := false) rfl rfl rfl (congrArg Value.bool rfl) ?_
        refine JL.guardOff (b := false) rfl rfl rfl (congrArg Value.bool rfl) ?_
        refine JL.pure rfl (PO.pickF (v := .bool false) (congrArg Value.bool rfl) rfl) ?_
        refine JL.pure rfl (PO.move (v := .bool false) rfl) ?_
        refine JL.guardOff (b := false) rfl rfl rfl (congrArg Value.bool rfl) ?_
        refine JL.guardOff (b := false) rfl rfl rfl (congrArg Value.bool rfl) ?_
        refine JL.guardOff (b := false) rfl rfl rfl (congrArg Value.bool rfl) ?_
        refine JL.guardOffU rfl rfl rfl rfl ?_
        refine JL.guardOffU rfl rfl rfl rfl ?_
        refine JL.guardOffU rfl rfl rfl rfl ?_
        refine JL.guardOffU rfl rfl rfl rfl ?_
        refine JL.guardOffU rfl rfl rfl rfl ?_
        refine JL.guardOff (b := false) rfl rfl rfl (congrArg Value.bool rfl) ?_
        refine JL.pure rfl (PO.pickF (v := .bool false) (congrArg Value.bool rfl) rfl) ?_
        refine JL.pure rfl (PO.assign (v := .bool false) rfl) ?_
        refine JL.nil ?_
        refine JQ.sub (L' := []) (.cons _ (.cons _ (.cons _ (.cons _ (.cons _ (.cons _ (.cons _ (.cons _ (.slnil))))))))) ?_
        refine JQ.seq ?_
        refine JC.ret ?_
        refine Done.one (.inl rfl) rfl (RV.tmp (v := .bool false) rfl) (List.nil_sublist _) ?_
        obtain ⟨hb1, hb2, hb3⟩ := pl_link_base e_49 e_50 e_59 e_66 e_73 e_80 e_87
        have hc1 := pl_link e_11 e_91 e_98
        have hc2 := pl_unlink e_32
        exfalso
        first | omega | contradiction | simp_all
    · skip
      refine JL.guardOff (b := true) rfl rfl rfl (congrArg Value.bool (congrArg Bool.not (decide_eq_false h_105))) ?_
      refine JL.guardOff (b := true) rfl rfl rfl (congrArg Value.bool (congrArg Bool.not (decide_eq_false h_105))) ?_
      refine JL.guardOff (b := true) rfl rfl rfl (congrArg Value.bool (congrArg Bool.not (decide_eq_false h_105))) ?_
      refine JL.pure rfl (PO.pickT (v := .bool true) (congrArg Value.bool (congrArg Bool.not (decide_eq_false h_105))) rfl) ?_
      refine JL.pure rfl (PO.move (v := .bool true) rfl) ?_
      refine JL.guardOn rfl rfl rfl (congrArg Value.bool rfl) (JO.ofLO (LO.pure (PO.move (v := .int .i64 n_77) rfl))) ?_
      rintro _ _ ⟨rfl, rfl⟩
      refine JL.guardOn rfl rfl rfl (congrArg Value.bool rfl) (JO.ofLO (LO.pure (PO.move (v := .int .i64 n_54) rfl))) ?_
      rintro _ _ ⟨rfl, rfl⟩
      refine JL.guardOn rfl rfl rfl (congrArg Value.bool rfl) (JO.ofLO (LO.pure (PO.eqlI rfl rfl))) ?_
      rintro _ _ ⟨rfl, rfl⟩
      refine JL.pure rfl (PO.pickT (v := .bool (decide (n_77 = n_54))) (congrArg Value.bool rfl) rfl) ?_
      refine JL.pure rfl (PO.move (v := .bool (decide (n_77 = n_54))) rfl) ?_
      by_cases h_111 : n_77 = n_54
      · skip
        refine JL.guardOn rfl rfl rfl (congrArg Value.bool (decide_eq_true h_111)) (JO.ofLO (LO.pure (PO.move (v := .int .i64 n_54) rfl))) ?_
        rintro _ _ ⟨rfl, rfl⟩
        refine JL.guardOn rfl rfl rfl (congrArg Value.bool (decide_eq_true h_111)) (JO.ofLO (LO.pure (PO.eqlI rfl rfl))) ?_
        rintro _ _ ⟨rfl, rfl⟩
        refine JL.pure rfl (PO.pickT (v := .bool (decide (n_54 = 1))) (congrArg Value.bool (decide_eq_true h_111)) rfl) ?_
        refine JL.pure rfl (PO.move (v := .bool (decide (n_54 = 1))) rfl) ?_
        by_cases h_112 : n_54 = 1
        · skip
          refine JL.guardOn rfl rfl rfl (congrArg Value.bool (decide_eq_true h_112)) (JO.ofLO (LO.pure (PO.move (v := .int .i64 ((l_89.length : Nat) : Int)) rfl))) ?_
          rintro _ _ ⟨rfl, rfl⟩
          refine JL.guardOn rfl rfl rfl (congrArg Value.bool (decide_eq_true h_112)) (JO.ofLO (LO.pure (PO.eqlI rfl rfl))) ?_
          rintro _ _ ⟨rfl, rfl⟩
          refine JL.pure rfl (PO.pickT (v := .bool (decide (((l_89.length : Nat) : Int) = 0))) (congrArg Value.bool (decide_eq_true h_112)) rfl) ?_
          refine JL.pure rfl (PO.move (v := .bool (decide (((l_89.length : Nat) : Int) = 0))) rfl) ?_
          by_cases h_113 : ((l_89.length : Nat) : Int) = 0
          · skip
            refine JL.guardOn rfl rfl rfl (congrArg Value.bool (decide_eq_true h_113)) (JO.ofLO (LO.pure (PO.move (v := .int .i64 n_36) rfl))) ?_
            rintro _ _ ⟨rfl, rfl⟩
            refine JL.guardOn rfl rfl rfl (congrArg Value.bool (decide_eq_true h_113)) (JO.ofLO (LO.pure (PO.eqlI rfl rfl))) ?_
            rintro _ _ ⟨rfl, rfl⟩
            refine JL.guardOn rfl rfl rfl (congrArg Value.bool (decide_eq_true h_113)) (JO.ofLO (LO.pure (PO.move (v := .bool (decide (n_36 = 0))) rfl))) ?_
            rintro _ _ ⟨rfl, rfl⟩
            by_cases h_114 : n_36 = 0
            · skip
              refine JL.guardOff (b := true) rfl rfl rfl (congrArg Value.bool (decide_eq_true h_114)) ?_
              refine JL.guardOff (b := true) rfl rfl rfl (congrArg Value.bool (decide_eq_true h_114)) ?_
              refine JL.guardOff (b := true) rfl rfl rfl (congrArg Value.bool (decide_eq_true h_114)) ?_
              refine JL.guardOff (b := true) rfl rfl rfl (congrArg Value.bool (decide_eq_true h_114)) ?_
              refine JL.guardOff (b := true) rfl rfl rfl (congrArg Value.bool (decide_eq_true h_114)) ?_
              refine JL.guardOn rfl rfl rfl (congrArg Value.bool (decide_eq_true h_113)) (JO.ofLO (LO.pure (PO.pickT (v := .bool true) (congrArg Value.bool (decide_eq_true h_114)) rfl))) ?_
              rintro _ _ ⟨rfl, rfl⟩
              refine JL.pure rfl (PO.pickT (v := .bool true) (congrArg Value.bool (decide_eq_true h_113)) rfl) ?_
              refine JL.pure rfl (PO.assign (v := .bool true) rfl) ?_
              refine JL.nil ?_
              refine JQ.sub (L' := []) (.cons _ (.cons _ (.cons _ (.cons _ (.cons _ (.cons _ (.cons _ (.cons _ (.slnil))))))))) ?_
              refine JQ.seq ?_
              refine JC.ret ?_
              refine Done.one (.inl rfl) rfl (RV.tmp (v := .bool true) rfl) (List.nil_sublist _) ?_
              exact ⟨rfl, rfl⟩
            · skip
              refine JL.guardOn rfl rfl rfl (congrArg Value.bool (decide_eq_false h_114)) (JO.ofLO (LO.pure (PO.fieldAddr fo32_0 rfl))) ?_
              rintro _ _ ⟨rfl, rfl⟩
              refine JL.guardOn rfl rfl rfl (congrArg Value.bool (decide_eq_false h_114)) (JO.ofLO (LO.load1 0 (v := .slice x_34.a0 m_35.s.length x_34.c0) rfl rfl Tryz.isAgg29 rfl)) ?_
              rintro _ _ ⟨rfl, rfl⟩
              refine JL.guardOn rfl rfl rfl (congrArg Value.bool (decide_eq_false h_114)) (JO.ofLO (LO.pure (PO.fieldAddr fo32_0 rfl))) ?_
              rintro _ _ ⟨rfl, rfl⟩
              refine JL.guardOn rfl rfl rfl (congrArg Value.bool (decide_eq_false h_114)) (JO.ofLO (LO.load1 4 (v := .slice x_25.a0 m_26.s.length x_25.c0) rfl rfl Tryz.isAgg29 rfl)) ?_
              rintro _ _ ⟨rfl, rfl⟩
              refine JL.guardOn rfl rfl rfl (congrArg Value.bool (decide_eq_false h_114)) (JO.call [] Tryz.call37 rfl (C_sameCells x_34.a0 x_25.a0 x_34.c0 x_25.c0 m_35.s m_26.s (by have hl_ := k_33.1; omega)) rfl (fun w hw => ⟨hw.see (i := 1) rfl, hw.see (i := 5) rfl⟩)) ?_
              rintro _ _ ⟨_, ⟨rfl, rfl⟩, rfl⟩
              refine JL.guardOn rfl rfl rfl (congrArg Value.bool (decide_eq_true h_113)) (JO.ofLO (LO.pure (PO.pickF (v := .bool (decide (m_35.s = m_26.s))) (congrArg Value.bool (decide_eq_false h_114)) rfl))) ?_
              rintro _ _ ⟨rfl, rfl⟩
              refine JL.pure rfl (PO.pickT (v := .bool (decide (m_35.s = m_26.s))) (congrArg Value.bool (decide_eq_true h_113)) rfl) ?_
              refine JL.pure rfl (PO.assign (v := .bool (decide (m_35.s = m_26.s))) rfl) ?_
              refine JL.nil ?_
              refine JQ.sub (L' := []) (.cons _ (.cons _ (.cons _ (.cons _ (.cons _ (.cons _ (.cons _ (.cons _ (.slnil))))))))) ?_
              refine JQ.seq ?_
              refine JC.ret ?_
              refine Done.one (.inl rfl) rfl (RV.tmp (v := .bool (decide (m_35.s = m_26.s))) rfl) (List.nil_sublist _) ?_
              obtain ⟨hb1, hb2, hb3⟩ := pl_link_base e_49 e_50 e_59 e_66 e_73 e_80 e_87
              have hc1 := pl_link e_11 e_91 e_98
              have hc2 := pl_unlink e_32
              refine ⟨congrArg Value.bool ?_, rfl⟩
              simp only [decide_eq_true_eq]
              first | omega | assumption | simp_all
          · skip
            refine JL.guardOff (b := false) rfl rfl rfl (congrArg Value.bool (decide_eq_false h_113)) ?_
            refine JL.guardOff (b := false) rfl rfl rfl (congrArg Value.bool (decide_eq_false h_113)) ?_
            refine JL.guardOff (b := false) rfl rfl rfl (congrArg Value.bool (decide_eq_false h_113)) ?_
            refine JL.guardOffU rfl rfl rfl rfl ?_
            refine JL.guardOffU rfl rfl rfl rfl ?_
            refine JL.guardOffU rfl rfl rfl rfl ?_
            refine JL.guardOffU rfl rfl rfl rfl ?_
            refine JL.guardOffU rfl rfl rfl rfl ?_
            refine JL.guardOff (b := false) rfl rfl rfl (congrArg Value.bool (decide_eq_false h_113)) ?_
            refine JL.pure rfl (PO.pickF (v := .bool false) (congrArg Value.bool (decide_eq_false h_113)) rfl) ?_
            refine JL.pure rfl (PO.assign (v := .bool false) rfl) ?_
            refine JL.nil ?_
            refine JQ.sub (L' := []) (.cons _ (.cons _ (.cons _ (.cons _ (.cons _ (.cons _ (.cons _ (.cons _ (.slnil))))))))) ?_
            refine JQ.seq ?_
            refine JC.ret ?_
            refine Done.one (.inl rfl) rfl (RV.tmp (v := .bool false) rfl) (List.nil_sublist _) ?_
            obtain ⟨hb1, hb2, hb3⟩ := pl_link_base e_49 e_50 e_59 e_66 e_73 e_80 e_87
            have hc1 := pl_link e_11 e_91 e_98
            have hc2 := pl_unlink e_32
            exfalso
            first | omega | contradiction | simp_all
        · skip
          refine JL.guardOff (b := false) rfl rfl rfl (congrArg Value.bool (decide_eq_false h_112)) ?_
          refine JL.guardOff (b := false) rfl rfl rfl (congrArg Value.bool (decide_eq_false h_112)) ?_
          refine JL.pure rfl (PO.pickF (v := .bool false) (congrArg Value.bool (decide_eq_false h_112)) rfl) ?_
          refine JL.pure rfl (PO.move (v := .bool false) rfl) ?_
          refine JL.guardOff (b := false) rfl rfl rfl (congrArg Value.bool rfl) ?_
          refine JL.guardOff (b := false) rfl rfl rfl (congrArg Value.bool rfl) ?_
          refine JL.guardOff (b := false) rfl rfl rfl (congrArg Value.bool rfl) ?_
          refine JL.guardOffU rfl rfl rfl rfl ?_
          refine JL.guardOffU rfl rfl rfl rfl ?_
          refine JL.guardOffU rfl rfl rfl rfl ?_
          refine JL.guardOffU rfl rfl rfl rfl ?_
          refine JL.guardOffU rfl rfl rfl rfl ?_
          refine JL.guardOff (b := false) rfl rfl rfl (congrArg Value.bool rfl) ?_
          refine JL.pure rfl (PO.pickF (v := .bool false) (congrArg Value.bool rfl) rfl) ?_
          refine JL.pure rfl (PO.assign (v := .bool false) rfl) ?_
          refine JL.nil ?_
          refine JQ.sub (L' := []) (.cons _ (.cons _ (.cons _ (.cons _ (.cons _ (.cons _ (.cons _ (.cons _ (.slnil))))))))) ?_
          refine JQ.seq ?_
          refine JC.ret ?_
          refine Done.one (.inl rfl) rfl (RV.tmp (v := .bool false) rfl) (List.nil_sublist _) ?_
          obtain ⟨hb1, hb2, hb3⟩ := pl_link_base e_49 e_50 e_59 e_66 e_73 e_80 e_87
          have hc1 := pl_link e_11 e_91 e_98
          have hc2 := pl_unlink e_32
          exfalso
          first | omega | contradiction | simp_all
      · skip
        refine JL.guardOff (b := false) rfl rfl rfl (congrArg Value.bool (decide_eq_false h_111)) ?_
        refine JL.guardOff (b := false) rfl rfl rfl (congrArg Value.bool (decide_eq_false h_111)) ?_
        refine JL.pure rfl (PO.pickF (v := .bool false) (congrArg Value.bool (decide_eq_false h_111)) rfl) ?_
        refine JL.pure rfl (PO.move (v := .bool false) rfl) ?_
        refine JL.guardOff (b := false) rfl rfl rfl (congrArg Value.bool rfl) ?_
        refine JL.guardOff (b := false) rfl rfl rfl (congrArg Value.bool rfl) ?_
        refine JL.pure rfl (PO.pickF (v := .bool false) (congrArg Value.bool rfl) rfl) ?_
        refine JL.pure rfl (PO.move (v := .bool false) rfl) ?_
        refine JL.guardOff (b := false) rfl rfl rfl (congrArg Value.bool rfl) ?_
        refine JL.guardOff (b := false) rfl rfl rfl (congrArg Value.bool rfl) ?_
        refine JL.guardOff (b := false) rfl rfl rfl (congrArg Value.bool rfl) ?_
        refine JL.guardOffU rfl rfl rfl rfl ?_
        refine JL.guardOffU rfl rfl rfl rfl ?_
        refine JL.guardOffU rfl rfl rfl rfl ?_
        refine JL.guardOffU rfl rfl rfl rfl ?_
        refine JL.guardOffU rfl rfl rfl rfl ?_
        refine JL.guardOff (b := false) rfl rfl rfl (congrArg Value.bool rfl) ?_
        refine JL.pure rfl (PO.pickF (v := .bool false) (congrArg Value.bool rfl) rfl) ?_
        refine JL.pure rfl (PO.assign (v := .bool false) rfl) ?_
        refine JL.nil ?_
        refine JQ.sub (L' := []) (.cons _ (.cons _ (.cons _ (.cons _ (.cons _ (.cons _ (.cons _ (.cons _ (.slnil))))))))) ?_
        refine JQ.seq ?_
        refine JC.ret ?_
        refine Done.one (.inl rfl) rfl (RV.tmp (v := .bool false) rfl) (List.nil_sublist _) ?_
        obtain ⟨hb1, hb2, hb3⟩ := pl_link_base e_49 e_50 e_59 e_66 e_73 e_80 e_87
        have hc1 := pl_link e_11 e_91 e_98
        have hc2 := pl_unlink e_32
        exfalso
        first | omega | contradiction | simp_all

end Go.Proofs.YtenfajgpdhgknaaGreatDoor
