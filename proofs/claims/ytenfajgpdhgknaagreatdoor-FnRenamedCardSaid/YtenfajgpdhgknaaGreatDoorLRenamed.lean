/-
  A law that draws, walked: it says yes at every row of bytes.
-/
import Derived.Test.YtenfajgpdhgknaaGreatDoorS24DRAWS
import Derived.Test.YtenfajgpdhgknaaGreatDoorDatK
import Derived.Test.YtenfajgpdhgknaaGreatDoorS26DRAWNp1
set_option linter.unusedSimpArgs false
set_option linter.unusedVariables false
set_option linter.unnecessarySimpa false
set_option maxRecDepth 8000
namespace Go.Proofs.YtenfajgpdhgknaaGreatDoor
open Go Go.RowKit
attribute [local irreducible] JL JC JQ JO LO PO JA JX Ct

set_option maxHeartbeats 1600000 in
theorem L_Renamed (pa : Option Addr) (pc : Nat) (p : Str) :
    Ct Tryz.prog 8 [.slice pa p.length pc] [] (fun w => Sees w (.slice pa p.length pc) 1 p.length (p.map encB)) (fun v A' => v = .bool true ∧ A' = []) := by
  refine Ct.intro Tryz.func8 rfl Tryz.ntmps8 (Nat.le_of_ble_eq_true rfl) fun w0 hpre => ?_
  have hs_pa : Sees w0 _ _ _ _ := hpre
  refine JC.seq ?_
  refine JC.region ?_
  refine JL.pure rfl (PO.assign (v := .bool false) rfl) ?_
  refine JL.nil ?_
  refine JQ.seq ?_
  refine JC.seq ?_
  refine JC.seq ?_
  refine JC.region ?_
  refine JL.pure rfl (PO.move (v := .slice pa p.length pc) rfl) ?_
  refine JL.op rfl (JO.call [] Tryz.call26 rfl (N_big pa pc p) rfl (fun _ _ => trivial)) ?_
  rintro _ _ ⟨_, ⟨rfl, rfl⟩, rfl⟩
  refine JL.nil ?_
  refine JQ.seq ?_
  by_cases h_1 : 1048576 < ((p.length : Nat) : Int)
  · skip
    refine JC.condT (congrArg Value.bool (decide_eq_true h_1)) ?_
    refine JC.seq ?_
    refine JC.region ?_
    refine JL.pure rfl (PO.assign (v := .bool true) rfl) ?_
    refine JL.nil ?_
    refine JQ.seq ?_
    refine JC.ret ?_
    refine JQ.thenRet ?_
    refine Done.one (.inl rfl) rfl (RV.tmp (v := .bool true) rfl) (List.nil_sublist _) ?_
    exact ⟨rfl, rfl⟩
  · skip
    refine JC.condF (congrArg Value.bool (decide_eq_false h_1)) ?_
    refine JC.skip ?_
    refine JQ.seq ?_
    refine JC.seq ?_
    refine JC.region ?_
    refine JL.pure rfl (PO.move (v := .slice pa p.length pc) rfl) ?_
    refine JL.op rfl (JO.call [] Tryz.call45 rfl (D_dRenameName pa pc p (by omega)) rfl (fun w hw => hw.seeOut_ hs_pa (fun _ _ => List.not_mem_nil))) ?_
    rintro _ _ ⟨_, ⟨x_2, m_3, u_5, u_7, k_4, f_6, f_8, rfl, rfl⟩, rfl⟩
    refine JL.pure rfl (PO.move (v := .tuple #[mv x_2 m_3, str u_5, str u_7]) rfl) ?_
    refine JL.pure rfl (PO.extract (v := mv x_2 m_3) rfl rfl) ?_
    refine JL.pure rfl (PO.extract (v := str u_5) rfl rfl) ?_
    refine JL.pure rfl (PO.extract (v := str u_7) rfl rfl) ?_
    refine JL.op rfl (JO.alloc (z := .agg #[.slice none 0 0, .slice none 0 0, .slice none 0 0]) (cs := [.slice none 0 0, .slice none 0 0, .slice none 0 0]) Tryz.zeroValue32 rfl) ?_
    rintro _ _ ⟨b_10, rfl, rfl⟩
    refine JL.op rfl (JO.store 0 (vs := [.slice x_2.a0 m_3.s.length x_2.c0, .slice x_2.a1 m_3.r.length x_2.c1, .slice x_2.a2 m_3.w.length x_2.c2]) (cs' := [.slice x_2.a0 m_3.s.length x_2.c0, .slice x_2.a1 m_3.r.length x_2.c1, .slice x_2.a2 m_3.w.length x_2.c2]) rfl rfl rfl rfl Tryz.sizeOf32 rfl rfl (Nat.le_of_ble_eq_true rfl) rfl) ?_
    rintro _ _ rfl
    refine JL.pure rfl (PO.assign (v := str u_5) rfl) ?_
    refine JL.pure rfl (PO.assign (v := str u_7) rfl) ?_
    refine JL.nil ?_
    refine JQ.seq ?_
    refine JC.seq ?_
    refine JC.region ?_
    refine JL.ld rfl (LO.loadK 0 (vs := [.slice x_2.a0 m_3.s.length x_2.c0, .slice x_2.a1 m_3.r.length x_2.c1, .slice x_2.a2 m_3.w.length x_2.c2]) rfl rfl Tryz.isAgg32 Tryz.sizeOf32 rfl rfl) ?_
    refine JL.pure rfl (PO.move (v := str u_5) rfl) ?_
    refine JL.pure rfl (PO.move (v := str u_7) rfl) ?_
    refine JL.op rfl (JO.call [] Tryz.call46 rfl (P_renameName x_2 m_3 k_4 (by omega) (by omega) u_5 u_7 (by omega) (by omega)) rfl (fun w hw => ⟨hw.see (i := 1) rfl, hw.see (i := 2) rfl, hw.see (i := 3) rfl⟩)) ?_
    rintro _ _ ⟨_, ⟨x_13, m_14, n_15, e_11, k_12, f_16, rfl, rfl⟩, rfl⟩
    refine JL.pure rfl (PO.move (v := .tuple #[mv x_13 m_14, .int .i64 n_15]) rfl) ?_
    refine JL.pure rfl (PO.extract (v := mv x_13 m_14) rfl rfl) ?_
    refine JL.pure rfl (PO.extract (v := .int .i64 n_15) rfl rfl) ?_
    refine JL.op rfl (JO.alloc (z := .agg #[.slice none 0 0, .slice none 0 0, .slice none 0 0]) (cs := [.slice none 0 0, .slice none 0 0, .slice none 0 0]) Tryz.zeroValue32 rfl) ?_
    rintro _ _ ⟨b_17, rfl, rfl⟩
    refine JL.op rfl (JO.store 0 (vs := [.slice x_13.a0 m_14.s.length x_13.c0, .slice x_13.a1 m_14.r.length x_13.c1, .slice x_13.a2 m_14.w.length x_13.c2]) (cs' := [.slice x_13.a0 m_14.s.length x_13.c0, .slice x_13.a1 m_14.r.length x_13.c1, .slice x_13.a2 m_14.w.length x_13.c2]) rfl rfl rfl rfl Tryz.sizeOf32 rfl rfl (Nat.le_of_ble_eq_true rfl) rfl) ?_
    rintro _ _ rfl
    refine JL.pure rfl (PO.assign (v := .int .i64 n_15) rfl) ?_
    refine JL.nil ?_
    refine JQ.seq ?_
    refine JC.seq ?_
    refine JC.region ?_
    refine JL.ld rfl (LO.loadK 4 (vs := [.slice x_2.a0 m_3.s.length x_2.c0, .slice x_2.a1 m_3.r.length x_2.c1, .slice x_2.a2 m_3.w.length x_2.c2]) rfl rfl Tryz.isAgg32 Tryz.sizeOf32 rfl rfl) ?_
    refine JL.pure rfl (PO.move (v := str u_5) rfl) ?_
    refine JL.pure rfl (PO.move (v := str u_7) rfl) ?_
    refine JL.op rfl (JO.call [] Tryz.call47 rfl (Q_renameName x_2 m_3 k_4 (by omega) (by omega) u_5 u_7 (by omega) (by omega)) rfl (fun w hw => ⟨hw.see (i := 5) rfl, hw.see (i := 6) rfl, hw.see (i := 7) rfl⟩)) ?_
    rintro _ _ ⟨_, ⟨x_20, m_21, n_22, e_18, k_19, f_23, rfl, rfl⟩, rfl⟩
    have hqe_18 := e_11.symm.trans e_18
    simp only [Prod.mk.injEq] at hqe_18
    obtain ⟨rfl, rfl⟩ := hqe_18
    refine JL.pure rfl (PO.move (v := .tuple #[mv x_20 m_14, .int .i64 n_15]) rfl) ?_
    refine JL.pure rfl (PO.extract (v := mv x_20 m_14) rfl rfl) ?_
    refine JL.pure rfl (PO.extract (v := .int .i64 n_15) rfl rfl) ?_
    refine JL.op rfl (JO.alloc (z := .agg #[.slice none 0 0, .slice none 0 0, .slice none 0 0]) (cs := [.slice none 0 0, .slice none 0 0, .slice none 0 0]) Tryz.zeroValue32 rfl) ?_
    rintro _ _ ⟨b_24, rfl, rfl⟩
    refine JL.op rfl (JO.store 0 (vs := [.slice x_20.a0 m_14.s.length x_20.c0, .slice x_20.a1 m_14.r.length x_20.c1, .slice x_20.a2 m_14.w.length x_20.c2]) (cs' := [.slice x_20.a0 m_14.s.length x_20.c0, .slice x_20.a1 m_14.r.length x_20.c1, .slice x_20.a2 m_14.w.length x_20.c2]) rfl rfl rfl rfl Tryz.sizeOf32 rfl rfl (Nat.le_of_ble_eq_true rfl) rfl) ?_
    rintro _ _ rfl
    refine JL.pure rfl (PO.assign (v := .int .i64 n_15) rfl) ?_
    refine JL.nil ?_
    refine JQ.seq ?_
    refine JC.seq ?_
    refine JC.seq ?_
    refine JC.region ?_
    refine JL.pure rfl (PO.move (v := .int .i64 n_15) rfl) ?_
    refine JL.pure rfl (PO.move (v := .int .i64 n_15) rfl) ?_
    refine JL.pure rfl (PO.neqI rfl rfl) ?_
    refine JL.pure rfl (PO.move (v := .bool (!(decide (n_15 = n_15)))) rfl) ?_
    refine JL.guardOn rfl rfl rfl (congrArg Value.bool (congrArg Bool.not (decide_eq_true rfl))) (JO.ofLO (LO.loadK 4 (vs := [.slice x_13.a0 m_14.s.length x_13.c0, .slice x_13.a1 m_14.r.length x_13.c1, .slice x_13.a2 m_14.w.length x_13.c2]) rfl rfl Tryz.isAgg32 Tryz.sizeOf32 rfl rfl)) ?_
    rintro _ _ ⟨rfl, rfl⟩
    refine JL.guardOn rfl rfl rfl (congrArg Value.bool (congrArg Bool.not (decide_eq_true rfl))) (JO.ofLO (LO.loadK 0 (vs := [.slice x_20.a0 m_14.s.length x_20.c0, .slice x_20.a1 m_14.r.length x_20.c1, .slice x_20.a2 m_14.w.length x_20.c2]) rfl rfl Tryz.isAgg32 Tryz.sizeOf32 rfl rfl)) ?_
    rintro _ _ ⟨rfl, rfl⟩
    refine JL.guardOn rfl rfl rfl (congrArg Value.bool (congrArg Bool.not (decide_eq_true rfl))) (JO.call [] Tryz.call30 rfl (N_sameMach x_13 x_20 m_14 k_12 (by omega) (by omega)) rfl (fun w hw => ⟨⟨hw.see (i := 5) rfl, hw.see (i := 6) rfl, hw.see (i := 7) rfl⟩, ⟨hw.see (i := 1) rfl, hw.see (i := 2) rfl, hw.see (i := 3) rfl⟩⟩)) ?_
    rintro _ _ ⟨_, ⟨rfl, rfl⟩, rfl⟩
    refine JL.guardOn rfl rfl rfl (congrArg Value.bool (congrArg Bool.not (decide_eq_true rfl))) (JO.ofLO (LO.pure (PO.not rfl))) ?_
    rintro _ _ ⟨rfl, rfl⟩
    refine JL.pure rfl (PO.pickF (v := .bool false) (congrArg Value.bool (congrArg Bool.not (decide_eq_true rfl))) rfl) ?_
    refine JL.nil ?_
    refine JQ.seq ?_
    refine JC.condF (congrArg Value.bool rfl) ?_
    refine JC.skip ?_
    refine JQ.seq ?_
    refine JC.seq ?_
    refine JC.region ?_
    refine JL.pure rfl (PO.move (v := .slice pa p.length pc) rfl) ?_
    refine JL.op rfl (JO.call [] Tryz.call48 rfl (D_dNamesIn pa pc p (by omega)) rfl (fun w hw => hw.seeOut_ hs_pa (fun _ _ => List.not_mem_nil))) ?_
    rintro _ _ ⟨_, ⟨x_25, m_26, k_27, rfl, rfl⟩, rfl⟩
    refine JL.op rfl (JO.alloc (z := .agg #[.slice none 0 0, .slice none 0 0, .slice none 0 0]) (cs := [.slice none 0 0, .slice none 0 0, .slice none 0 0]) Tryz.zeroValue32 rfl) ?_
    rintro _ _ ⟨b_29, rfl, rfl⟩
    refine JL.op rfl (JO.store 0 (vs := [.slice x_25.a0 m_26.s.length x_25.c0, .slice x_25.a1 m_26.r.length x_25.c1, .slice x_25.a2 m_26.w.length x_25.c2]) (cs' := [.slice x_25.a0 m_26.s.length x_25.c0, .slice x_25.a1 m_26.r.length x_25.c1, .slice x_25.a2 m_26.w.length x_25.c2]) rfl rfl rfl rfl Tryz.sizeOf32 rfl rfl (Nat.le_of_ble_eq_true rfl) rfl) ?_
    rintro _ _ rfl
    refine JL.nil ?_
    refine JQ.seq ?_
    refine JC.seq ?_
    refine JC.region ?_
    refine JL.ld rfl (LO.loadK 0 (vs := [.slice x_25.a0 m_26.s.length x_25.c0, .slice x_25.a1 m_26.r.length x_25.c1, .slice x_25.a2 m_26.w.length x_25.c2]) rfl rfl Tryz.isAgg32 Tryz.sizeOf32 rfl rfl) ?_
    refine JL.op rfl (JO.call [] Tryz.call49 rfl (P_names x_25 m_26 k_27 (by omega) (by omega)) rfl (fun w hw => ⟨hw.see (i := 1) rfl, hw.see (i := 2) rfl, hw.see (i := 3) rfl⟩)) ?_
    rintro _ _ ⟨_, ⟨x_32, m_33, l_34a, l_34c, l_34, e_30, k_31, f_35, rfl, rfl⟩, rfl⟩
    refine JL.pure rfl (PO.move (v := .tuple #[mv x_32 m_33, .slice l_34a l_34.length l_34c]) rfl) ?_
    refine JL.pure rfl (PO.extract (v := mv x_32 m_33) rfl rfl) ?_
    refine JL.pure rfl (PO.extract (v := .slice l_34a l_34.length l_34c) rfl rfl) ?_
    refine JL.op rfl (JO.alloc (z := .agg #[.slice none 0 0, .slice none 0 0, .slice none 0 0]) (cs := [.slice none 0 0, .slice none 0 0, .slice none 0 0]) Tryz.zeroValue32 rfl) ?_
    rintro _ _ ⟨b_36, rfl, rfl⟩
    refine JL.op rfl (JO.store 0 (vs := [.slice x_32.a0 m_33.s.length x_32.c0, .slice x_32.a1 m_33.r.length x_32.c1, .slice x_32.a2 m_33.w.length x_32.c2]) (cs' := [.slice x_32.a0 m_33.s.length x_32.c0, .slice x_32.a1 m_33.r.length x_32.c1, .slice x_32.a2 m_33.w.length x_32.c2]) rfl rfl rfl rfl Tryz.sizeOf32 rfl rfl (Nat.le_of_ble_eq_true rfl) rfl) ?_
    rintro _ _ rfl
    refine JL.pure rfl (PO.assign (v := .slice l_34a l_34.length l_34c) rfl) ?_
    refine JL.nil ?_
    refine JQ.seq ?_
    refine JC.seq ?_
    refine JC.region ?_
    refine JL.ld rfl (LO.loadK 5 (vs := [.slice x_25.a0 m_26.s.length x_25.c0, .slice x_25.a1 m_26.r.length x_25.c1, .slice x_25.a2 m_26.w.length x_25.c2]) rfl rfl Tryz.isAgg32 Tryz.sizeOf32 rfl rfl) ?_
    refine JL.op rfl (JO.call [] Tryz.call50 rfl (Q_names x_25 m_26 k_27 (by omega) (by omega)) rfl (fun w hw => ⟨hw.see (i := 6) rfl, hw.see (i := 7) rfl, hw.see (i := 8) rfl⟩)) ?_
    rintro _ _ ⟨_, ⟨x_39, m_40, l_41a, l_41c, l_41, e_37, k_38, f_42, rfl, rfl⟩, rfl⟩
    have hqe_37 := e_30.symm.trans e_37
    simp only [Prod.mk.injEq] at hqe_37
    obtain ⟨rfl, rfl⟩ := hqe_37
    refine JL.pure rfl (PO.move (v := .tuple #[mv x_39 m_33, .slice l_41a l_34.length l_41c]) rfl) ?_
    refine JL.pure rfl (PO.extract (v := mv x_39 m_33) rfl rfl) ?_
    refine JL.pure rfl (PO.extract (v := .slice l_41a l_34.length l_41c) rfl rfl) ?_
    refine JL.op rfl (JO.alloc (z := .agg #[.slice none 0 0, .slice none 0 0, .slice none 0 0]) (cs := [.slice none 0 0, .slice none 0 0, .slice none 0 0]) Tryz.zeroValue32 rfl) ?_
    rintro _ _ ⟨b_43, rfl, rfl⟩
    refine JL.op rfl (JO.store 0 (vs := [.slice x_39.a0 m_33.s.length x_39.c0, .slice x_39.a1 m_33.r.length x_39.c1, .slice x_39.a2 m_33.w.length x_39.c2]) (cs' := [.slice x_39.a0 m_33.s.length x_39.c0, .slice x_39.a1 m_33.r.length x_39.c1, .slice x_39.a2 m_33.w.length x_39.c2]) rfl rfl rfl rfl Tryz.sizeOf32 rfl rfl (Nat.le_of_ble_eq_true rfl) rfl) ?_
    rintro _ _ rfl
    refine JL.pure rfl (PO.assign (v := .slice l_41a l_34.length l_41c) rfl) ?_
    refine JL.nil ?_
    refine JQ.sub (L' := [mb b_43 x_39 m_33, rC x_39.a0 x_39.c0 m_33.s, rS x_39.a1 x_39.c1 m_33.r, rS x_39.a2 x_39.c2 m_33.w, rS l_41a l_41c l_34, mb b_36 x_32 m_33, rC x_32.a0 x_32.c0 m_33.s, rS x_32.a1 x_32.c1 m_33.r, rS x_32.a2 x_32.c2 m_33.w, rS l_34a l_34c l_34, mb b_17 x_13 m_14, rC x_13.a0 x_13.c0 m_14.s, rS x_13.a1 x_13.c1 m_14.r, rS x_13.a2 x_13.c2 m_14.w, mb b_10 x_2 m_3, rC x_2.a0 x_2.c0 m_3.s, rS x_2.a1 x_2.c1 m_3.r, rS x_2.a2 x_2.c2 m_3.w]) (.cons_cons _ (.cons_cons _ (.cons_cons _ (.cons_cons _ (.cons_cons _ (.cons_cons _ (.cons_cons _ (.cons_cons _ (.cons_cons _ (.cons_cons _ (.cons _ (.cons _ (.cons _ (.cons _ (.cons _ (.cons _ (.cons _ (.cons _ (.cons_cons _ (.cons_cons _ (.cons_cons _ (.cons_cons _ (.cons_cons _ (.cons_cons _ (.cons_cons _ (.cons_cons _ (.slnil))))))))))))))))))))))))))) ?_
    refine JQ.seq ?_
    refine JC.seq ?_
    refine JC.seq ?_
    refine JC.region ?_
    refine JL.pure rfl (PO.move (v := .slice l_34a l_34.length l_34c) rfl) ?_
    refine JL.pure rfl (PO.move (v := .slice l_41a l_34.length l_41c) rfl) ?_
    refine JL.op rfl (JO.call [] Tryz.call51 rfl (C_sameTexts l_34a l_41a l_34c l_41c l_34 l_34 (by omega)) rfl (fun w hw => ⟨hw.see (i := 9) rfl, hw.see (i := 4) rfl⟩)) ?_
    rintro _ _ ⟨_, ⟨rfl, rfl⟩, rfl⟩
    refine JL.pure rfl (PO.not rfl) ?_
    refine JL.pure rfl (PO.move (v := .bool (!(decide (l_34 = l_34)))) rfl) ?_
    refine JL.guardOn rfl rfl rfl (congrArg Value.bool (congrArg Bool.not (decide_eq_true rfl))) (JO.ofLO (LO.loadK 5 (vs := [.slice x_32.a0 m_33.s.length x_32.c0, .slice x_32.a1 m_33.r.length x_32.c1, .slice x_32.a2 m_33.w.length x_32.c2]) rfl rfl Tryz.isAgg32 Tryz.sizeOf32 rfl rfl)) ?_
    rintro _ _ ⟨rfl, rfl⟩
    refine JL.guardOn rfl rfl rfl (congrArg Value.bool (congrArg Bool.not (decide_eq_true rfl))) (JO.ofLO (LO.loadK 0 (vs := [.slice x_39.a0 m_33.s.length x_39.c0, .slice x_39.a1 m_33.r.length x_39.c1, .slice x_39.a2 m_33.w.length x_39.c2]) rfl rfl Tryz.isAgg32 Tryz.sizeOf32 rfl rfl)) ?_
    rintro _ _ ⟨rfl, rfl⟩
    refine JL.guardOn rfl rfl rfl (congrArg Value.bool (congrArg Bool.not (decide_eq_true rfl))) (JO.call [] Tryz.call30 rfl (N_sameMach x_32 x_39 m_33 k_31 (by omega) (by omega)) rfl (fun w hw => ⟨⟨hw.see (i := 6) rfl, hw.see (i := 7) rfl, hw.see (i := 8) rfl⟩, ⟨hw.see (i := 1) rfl, hw.see (i := 2) rfl, hw.see (i := 3) rfl⟩⟩)) ?_
    rintro _ _ ⟨_, ⟨rfl, rfl⟩, rfl⟩
    refine JL.guardOn rfl rfl rfl (congrArg Value.bool (congrArg Bool.not (decide_eq_true rfl))) (JO.ofLO (LO.pure (PO.not rfl))) ?_
    rintro _ _ ⟨rfl, rfl⟩
    refine JL.pure rfl (PO.pickF (v := .bool false) (congrArg Value.bool (congrArg Bool.not (decide_eq_true rfl))) rfl) ?_
    refine JL.nil ?_
    refine JQ.sub (L' := [mb b_17 x_13 m_14, rC x_13.a0 x_13.c0 m_14.s, rS x_13.a1 x_13.c1 m_14.r, rS x_13.a2 x_13.c2 m_14.w, mb b_10 x_2 m_3, rC x_2.a0 x_2.c0 m_3.s, rS x_2.a1 x_2.c1 m_3.r, rS x_2.a2 x_2.c2 m_3.w]) (.cons _ (.cons _ (.cons _ (.cons _ (.cons _ (.cons _ (.cons _ (.cons _ (.cons _ (.cons _ (.cons_cons _ (.cons_cons _ (.cons_cons _ (.cons_cons _ (.cons_cons _ (.cons_cons _ (.cons_cons _ (.cons_cons _ (.slnil))))))))))))))))))) ?_
    refine JQ.seq ?_
    refine JC.condF (congrArg Value.bool rfl) ?_
    refine JC.skip ?_
    refine JQ.seq ?_
    refine JC.seq ?_
    refine JC.region ?_
    refine JL.op rfl (JO.call [] Tryz.call36 rfl (D_base) rfl (fun _ _ => trivial)) ?_
    rintro _ _ ⟨_, ⟨x_44, m_45, e_47, k_46, rfl, rfl⟩, rfl⟩
    refine JL.op rfl (JO.call [] Tryz.call28 rfl (P_makeName x_44 m_45 k_46 (by omega) (by omega) [120] (by decide)) rfl (fun w hw => ⟨hw.see (i := 0) rfl, hw.see (i := 1) rfl, hw.see (i := 2) rfl⟩)) ?_
    rintro _ _ ⟨_, ⟨x_50, m_51, n_52, n_54, e_48, k_49, f_53, f_55, rfl, rfl⟩, rfl⟩
    refine JL.pure rfl (PO.move (v := .tuple #[mv x_50 m_51, .int .i64 n_52, .int .i64 n_54]) rfl) ?_
    refine JL.pure rfl (PO.extract (v := mv x_50 m_51) rfl rfl) ?_
    refine JL.pure rfl (PO.extract (v := .int .i64 n_52) rfl rfl) ?_
    refine JL.pure rfl (PO.extract (v := .int .i64 n_54) rfl rfl) ?_
    refine JL.op rfl (JO.alloc (z := .agg #[.slice none 0 0, .slice none 0 0, .slice none 0 0]) (cs := [.slice none 0 0, .slice none 0 0, .slice none 0 0]) Tryz.zeroValue32 rfl) ?_
    rintro _ _ ⟨b_56, rfl, rfl⟩
    refine JL.op rfl (JO.store 0 (vs := [.slice x_50.a0 m_51.s.length x_50.c0, .slice x_50.a1 m_51.r.length x_50.c1, .slice x_50.a2 m_51.w.length x_50.c2]) (cs' := [.slice x_50.a0 m_51.s.length x_50.c0, .slice x_50.a1 m_51.r.length x_50.c1, .slice x_50.a2 m_51.w.length x_50.c2]) rfl rfl rfl rfl Tryz.sizeOf32 rfl rfl (Nat.le_of_ble_eq_true rfl) rfl) ?_
    rintro _ _ rfl
    refine JL.pure rfl (PO.assign (v := .int .i64 n_52) rfl) ?_
    refine JL.pure rfl (PO.assign (v := .int .i64 n_54) rfl) ?_
    refine JL.nil ?_
    refine JQ.seq ?_
    refine JC.seq ?_
    refine JC.region ?_
    refine JL.ld rfl (LO.loadK 0 (vs := [.slice x_50.a0 m_51.s.length x_50.c0, .slice x_50.a1 m_51.r.length x_50.c1, .slice x_50.a2 m_51.w.length x_50.c2]) rfl rfl Tryz.isAgg32 Tryz.sizeOf32 rfl rfl) ?_
    refine JL.op rfl (JO.call [] Tryz.call46 rfl (P_renameName x_50 m_51 k_49 (by omega) (by omega) [120] [121] (by decide) (by decide)) rfl (fun w hw => ⟨hw.see (i := 1) rfl, hw.see (i := 2) rfl, hw.see (i := 3) rfl⟩)) ?_
    rintro _ _ ⟨_, ⟨x_59, m_60, n_61, e_57, k_58, f_62, rfl, rfl⟩, rfl⟩
    refine JL.pure rfl (PO.move (v := .tuple #[mv x_59 m_60, .int .i64 n_61]) rfl) ?_
    refine JL.pure rfl (PO.extract (v := mv x_59 m_60) rfl rfl) ?_
    refine JL.pure rfl (PO.extract (v := .int .i64 n_61) rfl rfl) ?_
    refine JL.op rfl (JO.alloc (z := .agg #[.slice none 0 0, .slice none 0 0, .slice none 0 0]) (cs := [.slice none 0 0, .slice none 0 0, .slice none 0 0]) Tryz.zeroValue32 rfl) ?_
    rintro _ _ ⟨b_63, rfl, rfl⟩
    refine JL.op rfl (JO.store 0 (vs := [.slice x_59.a0 m_60.s.length x_59.c0, .slice x_59.a1 m_60.r.length x_59.c1, .slice x_59.a2 m_60.w.length x_59.c2]) (cs' := [.slice x_59.a0 m_60.s.length x_59.c0, .slice x_59.a1 m_60.r.length x_59.c1, .slice x_59.a2 m_60.w.length x_59.c2]) rfl rfl rfl rfl Tryz.sizeOf32 rfl rfl (Nat.le_of_ble_eq_true rfl) rfl) ?_
    rintro _ _ rfl
    refine JL.pure rfl (PO.assign (v := .int .i64 n_61) rfl) ?_
    refine JL.nil ?_
    refine JQ.sub (L' := [mb b_63 x_59 m_60, rC x_59.a0 x_59.c0 m_60.s, rS x_59.a1 x_59.c1 m_60.r, rS x_59.a2 x_59.c2 m_60.w, mb b_17 x_13 m_14, rC x_13.a0 x_13.c0 m_14.s, rS x_13.a1 x_13.c1 m_14.r, rS x_13.a2 x_13.c2 m_14.w, mb b_10 x_2 m_3, rC x_2.a0 x_2.c0 m_3.s, rS x_2.a1 x_2.c1 m_3.r, rS x_2.a2 x_2.c2 m_3.w]) (.cons_cons _ (.cons_cons _ (.cons_cons _ (.cons_cons _ (.cons _ (.cons _ (.cons _ (.cons _ (.cons _ (.cons _ (.cons _ (.cons_cons _ (.cons_cons _ (.cons_cons _ (.cons_cons _ (.cons_cons _ (.cons_cons _ (.cons_cons _ (.cons_cons _ (.slnil)))))))))))))))))))) ?_
    refine JQ.seq ?_
    refine JC.seq ?_
    refine JC.region ?_
    refine JL.ld rfl (LO.loadK 0 (vs := [.slice x_59.a0 m_60.s.length x_59.c0, .slice x_59.a1 m_60.r.length x_59.c1, .slice x_59.a2 m_60.w.length x_59.c2]) rfl rfl Tryz.isAgg32 Tryz.sizeOf32 rfl rfl) ?_
    refine JL.op rfl (JO.call [] Tryz.call49 rfl (P_names x_59 m_60 k_58 (by omega) (by omega)) rfl (fun w hw => ⟨hw.see (i := 1) rfl, hw.see (i := 2) rfl, hw.see (i := 3) rfl⟩)) ?_
    rintro _ _ ⟨_, ⟨x_66, m_67, l_68a, l_68c, l_68, e_64, k_65, f_69, rfl, rfl⟩, rfl⟩
    refine JL.pure rfl (PO.move (v := .tuple #[mv x_66 m_67, .slice l_68a l_68.length l_68c]) rfl) ?_
    refine JL.pure rfl (PO.extract (v := mv x_66 m_67) rfl rfl) ?_
    refine JL.pure rfl (PO.extract (v := .slice l_68a l_68.length l_68c) rfl rfl) ?_
    refine JL.op rfl (JO.alloc (z := .agg #[.slice none 0 0, .slice none 0 0, .slice none 0 0]) (cs := [.slice none 0 0, .slice none 0 0, .slice none 0 0]) Tryz.zeroValue32 rfl) ?_
    rintro _ _ ⟨b_70, rfl, rfl⟩
    refine JL.op rfl (JO.store 0 (vs := [.slice x_66.a0 m_67.s.length x_66.c0, .slice x_66.a1 m_67.r.length x_66.c1, .slice x_66.a2 m_67.w.length x_66.c2]) (cs' := [.slice x_66.a0 m_67.s.length x_66.c0, .slice x_66.a1 m_67.r.length x_66.c1, .slice x_66.a2 m_67.w.length x_66.c2]) rfl rfl rfl rfl Tryz.sizeOf32 rfl rfl (Nat.le_of_ble_eq_true rfl) rfl) ?_
    rintro _ _ rfl
    refine JL.pure rfl (PO.assign (v := .slice l_68a l_68.length l_68c) rfl) ?_
    refine JL.nil ?_
    refine JQ.sub (L' := [rS l_68a l_68c l_68, mb b_17 x_13 m_14, rC x_13.a0 x_13.c0 m_14.s, rS x_13.a1 x_13.c1 m_14.r, rS x_13.a2 x_13.c2 m_14.w, mb b_10 x_2 m_3, rC x_2.a0 x_2.c0 m_3.s, rS x_2.a1 x_2.c1 m_3.r, rS x_2.a2 x_2.c2 m_3.w]) (.cons _ (.cons _ (.cons _ (.cons _ (.cons_cons _ (.cons _ (.cons _ (.cons _ (.cons _ (.cons_cons _ (.cons_cons _ (.cons_cons _ (.cons_cons _ (.cons_cons _ (.cons_cons _ (.cons_cons _ (.cons_cons _ (.slnil)))))))))))))))))) ?_
    refine JQ.seq ?_
    refine JC.seq ?_
    refine JC.region ?_
    refine JL.ld rfl (LO.loadK 5 (vs := [.slice x_2.a0 m_3.s.length x_2.c0, .slice x_2.a1 m_3.r.length x_2.c1, .slice x_2.a2 m_3.w.length x_2.c2]) rfl rfl Tryz.isAgg32 Tryz.sizeOf32 rfl rfl) ?_
    refine JL.pure rfl (PO.move (v := str u_5) rfl) ?_
    refine JL.op rfl (JO.call [] Tryz.call35 rfl (Q_fileOf x_2 m_3 k_4 (by omega) (by omega) u_5 (by omega)) rfl (fun w hw => ⟨hw.see (i := 6) rfl, hw.see (i := 7) rfl, hw.see (i := 8) rfl⟩)) ?_
    rintro _ _ ⟨_, ⟨x_73, m_74, n_75, e_71, k_72, f_76, rfl, rfl⟩, rfl⟩
    refine JL.pure rfl (PO.move (v := .tuple #[mv x_73 m_74, .int .i64 n_75]) rfl) ?_
    refine JL.pure rfl (PO.extract (v := mv x_73 m_74) rfl rfl) ?_
    refine JL.pure rfl (PO.extract (v := .int .i64 n_75) rfl rfl) ?_
    refine JL.op rfl (JO.alloc (z := .agg #[.slice none 0 0, .slice none 0 0, .slice none 0 0]) (cs := [.slice none 0 0, .slice none 0 0, .slice none 0 0]) Tryz.zeroValue32 rfl) ?_
    rintro _ _ ⟨b_77, rfl, rfl⟩
    refine JL.op rfl (JO.store 0 (vs := [.slice x_73.a0 m_74.s.length x_73.c0, .slice x_73.a1 m_74.r.length x_73.c1, .slice x_73.a2 m_74.w.length x_73.c2]) (cs' := [.slice x_73.a0 m_74.s.length x_73.c0, .slice x_73.a1 m_74.r.length x_73.c1, .slice x_73.a2 m_74.w.length x_73.c2]) rfl rfl rfl rfl Tryz.sizeOf32 rfl rfl (Nat.le_of_ble_eq_true rfl) rfl) ?_
    rintro _ _ rfl
    refine JL.pure rfl (PO.assign (v := .int .i64 n_75) rfl) ?_
    refine JL.nil ?_
    refine JQ.seq ?_
    refine JC.seq ?_
    refine JC.region ?_
    refine JL.ld rfl (LO.loadK 9 (vs := [.slice x_2.a0 m_3.s.length x_2.c0, .slice x_2.a1 m_3.r.length x_2.c1, .slice x_2.a2 m_3.w.length x_2.c2]) rfl rfl Tryz.isAgg32 Tryz.sizeOf32 rfl rfl) ?_
    refine JL.pure rfl (PO.move (v := str u_7) rfl) ?_
    refine JL.op rfl (JO.call [] Tryz.call35 rfl (Q_fileOf x_2 m_3 k_4 (by omega) (by omega) u_7 (by omega)) rfl (fun w hw => ⟨hw.see (i := 10) rfl, hw.see (i := 11) rfl, hw.see (i := 12) rfl⟩)) ?_
    rintro _ _ ⟨_, ⟨x_80, m_81, n_82, e_78, k_79, f_83, rfl, rfl⟩, rfl⟩
    refine JL.pure rfl (PO.move (v := .tuple #[mv x_80 m_81, .int .i64 n_82]) rfl) ?_
    refine JL.pure rfl (PO.extract (v := mv x_80 m_81) rfl rfl) ?_
    refine JL.pure rfl (PO.extract (v := .int .i64 n_82) rfl rfl) ?_
    refine JL.op rfl (JO.alloc (z := .agg #[.slice none 0 0, .slice none 0 0, .slice none 0 0]) (cs := [.slice none 0 0, .slice none 0 0, .slice none 0 0]) Tryz.zeroValue32 rfl) ?_
    rintro _ _ ⟨b_84, rfl, rfl⟩
    refine JL.op rfl (JO.store 0 (vs := [.slice x_80.a0 m_81.s.length x_80.c0, .slice x_80.a1 m_81.r.length x_80.c1, .slice x_80.a2 m_81.w.length x_80.c2]) (cs' := [.slice x_80.a0 m_81.s.length x_80.c0, .slice x_80.a1 m_81.r.length x_80.c1, .slice x_80.a2 m_81.w.length x_80.c2]) rfl rfl rfl rfl Tryz.sizeOf32 rfl rfl (Nat.le_of_ble_eq_true rfl) rfl) ?_
    rintro _ _ rfl
    refine JL.pure rfl (PO.assign (v := .int .i64 n_82) rfl) ?_
    refine JL.nil ?_
    refine JQ.sub (L' := [rS l_68a l_68c l_68, mb b_17 x_13 m_14, rC x_13.a0 x_13.c0 m_14.s, rS x_13.a1 x_13.c1 m_14.r, rS x_13.a2 x_13.c2 m_14.w]) (.cons _ (.cons _ (.cons _ (.cons _ (.cons _ (.cons _ (.cons _ (.cons _ (.cons_cons _ (.cons_cons _ (.cons_cons _ (.cons_cons _ (.cons_cons _ (.cons _ (.cons _ (.cons _ (.cons _ (.slnil)))))))))))))))))) ?_
    refine JQ.seq ?_
    refine JC.seq ?_
    refine JC.region ?_
    refine JL.ld rfl (LO.loadK 1 (vs := [.slice x_13.a0 m_14.s.length x_13.c0, .slice x_13.a1 m_14.r.length x_13.c1, .slice x_13.a2 m_14.w.length x_13.c2]) rfl rfl Tryz.isAgg32 Tryz.sizeOf32 rfl rfl) ?_
    refine JL.pure rfl (PO.move (v := str u_7) rfl) ?_
    refine JL.op rfl (JO.call [] Tryz.call35 rfl (Q_fileOf x_13 m_14 k_12 (by omega) (by omega) u_7 (by omega)) rfl (fun w hw => ⟨hw.see (i := 2) rfl, hw.see (i := 3) rfl, hw.see (i := 4) rfl⟩)) ?_
    rintro _ _ ⟨_, ⟨x_87, m_88, n_89, e_85, k_86, f_90, rfl, rfl⟩, rfl⟩
    refine JL.pure rfl (PO.move (v := .tuple #[mv x_87 m_88, .int .i64 n_89]) rfl) ?_
    refine JL.pure rfl (PO.extract (v := mv x_87 m_88) rfl rfl) ?_
    refine JL.pure rfl (PO.extract (v := .int .i64 n_89) rfl rfl) ?_
    refine JL.op rfl (JO.alloc (z := .agg #[.slice none 0 0, .slice none 0 0, .slice none 0 0]) (cs := [.slice none 0 0, .slice none 0 0, .slice none 0 0]) Tryz.zeroValue32 rfl) ?_
    rintro _ _ ⟨b_91, rfl, rfl⟩
    refine JL.op rfl (JO.store 0 (vs := [.slice x_87.a0 m_88.s.length x_87.c0, .slice x_87.a1 m_88.r.length x_87.c1, .slice x_87.a2 m_88.w.length x_87.c2]) (cs' := [.slice x_87.a0 m_88.s.length x_87.c0, .slice x_87.a1 m_88.r.length x_87.c1, .slice x_87.a2 m_88.w.length x_87.c2]) rfl rfl rfl rfl Tryz.sizeOf32 rfl rfl (Nat.le_of_ble_eq_true rfl) rfl) ?_
    rintro _ _ rfl
    refine JL.pure rfl (PO.assign (v := .int .i64 n_89) rfl) ?_
    refine JL.nil ?_
    refine JQ.seq ?_
    refine JC.seq ?_
    refine JC.region ?_
    refine JL.ld rfl (LO.loadK 5 (vs := [.slice x_13.a0 m_14.s.length x_13.c0, .slice x_13.a1 m_14.r.length x_13.c1, .slice x_13.a2 m_14.w.length x_13.c2]) rfl rfl Tryz.isAgg32 Tryz.sizeOf32 rfl rfl) ?_
    refine JL.pure rfl (PO.move (v := str u_5) rfl) ?_
    refine JL.op rfl (JO.call [] Tryz.call35 rfl (Q_fileOf x_13 m_14 k_12 (by omega) (by omega) u_5 (by omega)) rfl (fun w hw => ⟨hw.see (i := 6) rfl, hw.see (i := 7) rfl, hw.see (i := 8) rfl⟩)) ?_
    rintro _ _ ⟨_, ⟨x_94, m_95, n_96, e_92, k_93, f_97, rfl, rfl⟩, rfl⟩
    refine JL.pure rfl (PO.move (v := .tuple #[mv x_94 m_95, .int .i64 n_96]) rfl) ?_
    refine JL.pure rfl (PO.extract (v := mv x_94 m_95) rfl rfl) ?_
    refine JL.pure rfl (PO.extract (v := .int .i64 n_96) rfl rfl) ?_
    refine JL.op rfl (JO.alloc (z := .agg #[.slice none 0 0, .slice none 0 0, .slice none 0 0]) (cs := [.slice none 0 0, .slice none 0 0, .slice none 0 0]) Tryz.zeroValue32 rfl) ?_
    rintro _ _ ⟨b_98, rfl, rfl⟩
    refine JL.op rfl (JO.store 0 (vs := [.slice x_94.a0 m_95.s.length x_94.c0, .slice x_94.a1 m_95.r.length x_94.c1, .slice x_94.a2 m_95.w.length x_94.c2]) (cs' := [.slice x_94.a0 m_95.s.length x_94.c0, .slice x_94.a1 m_95.r.length x_94.c1, .slice x_94.a2 m_95.w.length x_94.c2]) rfl rfl rfl rfl Tryz.sizeOf32 rfl rfl (Nat.le_of_ble_eq_true rfl) rfl) ?_
    rintro _ _ rfl
    refine JL.pure rfl (PO.assign (v := .int .i64 n_96) rfl) ?_
    refine JL.nil ?_
    refine JQ.sub (L' := [rS l_68a l_68c l_68]) (.cons _ (.cons _ (.cons _ (.cons _ (.cons _ (.cons _ (.cons _ (.cons _ (.cons_cons _ (.cons _ (.cons _ (.cons _ (.cons _ (.slnil)))))))))))))) ?_
    refine JQ.seq ?_
    refine JC.seq ?_
    refine JC.region ?_
    refine JL.pure rfl (PO.move (v := .int .i64 n_15) rfl) ?_
    refine JL.pure rfl (PO.neqI rfl rfl) ?_
    refine JL.pure rfl (PO.move (v := .bool (!(decide (n_15 = 0)))) rfl) ?_
    by_cases h_99 : n_15 = 0
    · skip
      refine JL.guardOn rfl rfl rfl (congrArg Value.bool (congrArg Bool.not (decide_eq_true h_99))) (JO.ofLO (LO.pure (PO.move (v := .int .i64 n_89) rfl))) ?_
      rintro _ _ ⟨rfl, rfl⟩
      refine JL.guardOn rfl rfl rfl (congrArg Value.bool (congrArg Bool.not (decide_eq_true h_99))) (JO.ofLO (LO.pure (PO.move (v := .int .i64 n_75) rfl))) ?_
      rintro _ _ ⟨rfl, rfl⟩
      refine JL.guardOn rfl rfl rfl (congrArg Value.bool (congrArg Bool.not (decide_eq_true h_99))) (JO.ofLO (LO.pure (PO.eqlI rfl rfl))) ?_
      rintro _ _ ⟨rfl, rfl⟩
      refine JL.guardOn rfl rfl rfl (congrArg Value.bool (congrArg Bool.not (decide_eq_true h_99))) (JO.ofLO (LO.pure (PO.move (v := .bool (decide (n_89 = n_75))) rfl))) ?_
      rintro _ _ ⟨rfl, rfl⟩
      by_cases h_100 : n_89 = n_75
      · skip
        refine JL.guardOn rfl rfl rfl (congrArg Value.bool (decide_eq_true h_100)) (JO.ofLO (LO.pure (PO.move (v := .int .i64 n_96) rfl))) ?_
        rintro _ _ ⟨rfl, rfl⟩
        refine JL.guardOn rfl rfl rfl (congrArg Value.bool (decide_eq_true h_100)) (JO.ofLO (LO.pure (PO.eqlI rfl rfl))) ?_
        rintro _ _ ⟨rfl, rfl⟩
        refine JL.guardOn rfl rfl rfl (congrArg Value.bool (decide_eq_true h_100)) (JO.ofLO (LO.pure (PO.move (v := .bool (decide (n_96 = 0))) rfl))) ?_
        rintro _ _ ⟨rfl, rfl⟩
        by_cases h_101 : n_96 = 0
        · skip
          refine JL.guardOff (b := true) rfl rfl rfl (congrArg Value.bool (decide_eq_true h_101)) ?_
          refine JL.guardOff (b := true) rfl rfl rfl (congrArg Value.bool (decide_eq_true h_101)) ?_
          refine JL.guardOff (b := true) rfl rfl rfl (congrArg Value.bool (decide_eq_true h_101)) ?_
          refine JL.guardOn rfl rfl rfl (congrArg Value.bool (decide_eq_true h_100)) (JO.ofLO (LO.pure (PO.pickT (v := .bool true) (congrArg Value.bool (decide_eq_true h_101)) rfl))) ?_
          rintro _ _ ⟨rfl, rfl⟩
          refine JL.guardOn rfl rfl rfl (congrArg Value.bool (congrArg Bool.not (decide_eq_true h_99))) (JO.ofLO (LO.pure (PO.pickT (v := .bool true) (congrArg Value.bool (decide_eq_true h_100)) rfl))) ?_
          rintro _ _ ⟨rfl, rfl⟩
          refine JL.pure rfl (PO.pickF (v := .bool true) (congrArg Value.bool (congrArg Bool.not (decide_eq_true h_99))) rfl) ?_
          refine JL.pure rfl (PO.move (v := .bool true) rfl) ?_
          refine JL.guardOn rfl rfl rfl (congrArg Value.bool rfl) (JO.ofLO (LO.pure (PO.move (v := .slice l_68a l_68.length l_68c) rfl))) ?_
          rintro _ _ ⟨rfl, rfl⟩
          refine JL.guardOn rfl rfl rfl (congrArg Value.bool rfl) (JO.buildSlice (ps := [(0, str [121])]) (cur := #[str [121]]) Tryz.underlying23 Tryz.sizeOf9 Tryz.zeroValue9 rfl (by kernel_rfl) (by decide) (by decide)) ?_
          rintro _ _ ⟨a_102, rfl, rfl⟩
          refine JL.guardOn rfl rfl rfl (congrArg Value.bool rfl) (JO.call [] Tryz.call51 rfl (C_sameTexts l_68a a_102 l_68c 1 l_68 ([[121]] : List Str) (by omega)) rfl (fun w hw => ⟨hw.see (i := 1) rfl, hw.see (i := 0) rfl⟩)) ?_
          rintro _ _ ⟨_, ⟨rfl, rfl⟩, rfl⟩
          refine JL.pure rfl (PO.pickT (v := .bool (decide (l_68 = ([[121]] : List Str)))) (congrArg Value.bool rfl) rfl) ?_
          refine JL.pure rfl (PO.move (v := .bool (decide (l_68 = ([[121]] : List Str)))) rfl) ?_
          by_cases h_103 : l_68 = ([[121]] : List Str)
          · skip
            refine JL.guardOn rfl rfl rfl (congrArg Value.bool (decide_eq_true h_103)) (JO.ofLO (LO.pure (PO.move (v := .int .i64 n_52) rfl))) ?_
            rintro _ _ ⟨rfl, rfl⟩
            refine JL.guardOn rfl rfl rfl (congrArg Value.bool (decide_eq_true h_103)) (JO.ofLO (LO.pure (PO.eqlI rfl rfl))) ?_
            rintro _ _ ⟨rfl, rfl⟩
            refine JL.pure rfl (PO.pickT (v := .bool (decide (n_52 = 1))) (congrArg Value.bool (decide_eq_true h_103)) rfl) ?_
            refine JL.pure rfl (PO.assign (v := .bool (decide (n_52 = 1))) rfl) ?_
            refine JL.nil ?_
            refine JQ.seq ?_
            refine JC.ret ?_
            refine Done.one (.inl rfl) rfl (RV.tmp (v := .bool (decide (n_52 = 1))) rfl) (List.nil_sublist _) ?_
            obtain ⟨hb1, hb2⟩ := pl_rename_base e_47 e_48 e_57 e_64
            have hc1 := pl_rename e_11 e_71 e_78 e_85 e_92
            refine ⟨congrArg Value.bool ?_, rfl⟩
            simp only [decide_eq_true_eq]
            first | omega | assumption | simp_all
          · skip
            refine JL.guardOff (b := false) rfl rfl rfl (congrArg Value.bool (decide_eq_false h_103)) ?_
            refine JL.guardOff (b := false) rfl rfl rfl (congrArg Value.bool (decide_eq_false h_103)) ?_
            refine JL.pure rfl (PO.pickF (v := .bool false) (congrArg Value.bool (decide_eq_false h_103)) rfl) ?_
            refine JL.pure rfl (PO.assign (v := .bool false) rfl) ?_
            refine JL.nil ?_
            refine JQ.seq ?_
            refine JC.ret ?_
            refine Done.one (.inl rfl) rfl (RV.tmp (v := .bool false) rfl) (List.nil_sublist _) ?_
            obtain ⟨hb1, hb2⟩ := pl_rename_base e_47 e_48 e_57 e_64
            have hc1 := pl_rename e_11 e_71 e_78 e_85 e_92
            exfalso
            first | omega | contradiction | simp_all
        · skip
          refine JL.guardOn rfl rfl rfl (congrArg Value.bool (decide_eq_false h_101)) (JO.ofLO (LO.pure (PO.move (v := .int .i64 n_82) rfl))) ?_
          rintro _ _ ⟨rfl, rfl⟩
          refine JL.guardOn rfl rfl rfl (congrArg Value.bool (decide_eq_false h_101)) (JO.ofLO (LO.pure (PO.move (v := .int .i64 n_75) rfl))) ?_
          rintro _ _ ⟨rfl, rfl⟩
          refine JL.guardOn rfl rfl rfl (congrArg Value.bool (decide_eq_false h_101)) (JO.ofLO (LO.pure (PO.eqlI rfl rfl))) ?_
          rintro _ _ ⟨rfl, rfl⟩
          refine JL.guardOn rfl rfl rfl (congrArg Value.bool (decide_eq_true h_100)) (JO.ofLO (LO.pure (PO.pickF (v := .bool (decide (n_82 = n_75))) (congrArg Value.bool (decide_eq_false h_101)) rfl))) ?_
          rintro _ _ ⟨rfl, rfl⟩
          refine JL.guardOn rfl rfl rfl (congrArg Value.bool (congrArg Bool.not (decide_eq_true h_99))) (JO.ofLO (LO.pure (PO.pickT (v := .bool (decide (n_82 = n_75))) (congrArg Value.bool (decide_eq_true h_100)) rfl))) ?_
          rintro _ _ ⟨rfl, rfl⟩
          refine JL.pure rfl (PO.pickF (v := .bool (decide (n_82 = n_75))) (congrArg Value.bool (congrArg Bool.not (decide_eq_true h_99))) rfl) ?_
          refine JL.pure rfl (PO.move (v := .bool (decide (n_82 = n_75))) rfl) ?_
          by_cases h_104 : n_82 = n_75
          · skip
            refine JL.guardOn rfl rfl rfl (congrArg Value.bool (decide_eq_true h_104)) (JO.ofLO (LO.pure (PO.move (v := .slice l_68a l_68.length l_68c) rfl))) ?_
            rintro _ _ ⟨rfl, rfl⟩
            refine JL.guardOn rfl rfl rfl (congrArg Value.bool (decide_eq_true h_104)) (JO.buildSlice (ps := [(0, str [121])]) (cur := #[str [121]]) Tryz.underlying23 Tryz.sizeOf9 Tryz.zeroValue9 rfl (by kernel_rfl) (by decide) (by decide)) ?_
            rintro _ _ ⟨a_105, rfl, rfl⟩
            refine JL.guardOn rfl rfl rfl (congrArg Value.bool (decide_eq_true h_104)) (JO.call [] Tryz.call51 rfl (C_sameTexts l_68a a_105 l_68c 1 l_68 ([[121]] : List Str) (by omega)) rfl (fun w hw => ⟨hw.see (i := 1) rfl, hw.see (i := 0) rfl⟩)) ?_
            rintro _ _ ⟨_, ⟨rfl, rfl⟩, rfl⟩
            refine JL.pure rfl (PO.pickT (v := .bool (decide (l_68 = ([[121]] : List Str)))) (congrArg Value.bool (decide_eq_true h_104)) rfl) ?_
            refine JL.pure rfl (PO.move (v := .bool (decide (l_68 = ([[121]] : List Str)))) rfl) ?_
            by_cases h_106 : l_68 = ([[121]] : List Str)
            · skip
              refine JL.guardOn rfl rfl rfl (congrArg Value.bool (decide_eq_true h_106)) (JO.ofLO (LO.pure (PO.move (v := .int .i64 n_52) rfl))) ?_
              rintro _ _ ⟨rfl, rfl⟩
              refine JL.guardOn rfl rfl rfl (congrArg Value.bool (decide_eq_true h_106)) (JO.ofLO (LO.pure (PO.eqlI rfl rfl))) ?_
              rintro _ _ ⟨rfl, rfl⟩
              refine JL.pure rfl (PO.pickT (v := .bool (decide (n_52 = 1))) (congrArg Value.bool (decide_eq_true h_106)) rfl) ?_
              refine JL.pure rfl (PO.assign (v := .bool (decide (n_52 = 1))) rfl) ?_
              refine JL.nil ?_
              refine JQ.seq ?_
              refine JC.ret ?_
              refine Done.one (.inl rfl) rfl (RV.tmp (v := .bool (decide (n_52 = 1))) rfl) (List.nil_sublist _) ?_
              obtain ⟨hb1, hb2⟩ := pl_rename_base e_47 e_48 e_57 e_64
              have hc1 := pl_rename e_11 e_71 e_78 e_85 e_92
              refine ⟨congrArg Value.bool ?_, rfl⟩
              simp only [decide_eq_true_eq]
              first | omega | assumption | simp_all
            · skip
              refine JL.guardOff (b := false) rfl rfl rfl (congrArg Value.bool (decide_eq_false h_106)) ?_
              refine JL.guardOff (b := false) rfl rfl rfl (congrArg Value.bool (decide_eq_false h_106)) ?_
              refine JL.pure rfl (PO.pickF (v := .bool false) (congrArg Value.bool (decide_eq_false h_106)) rfl) ?_
              refine JL.pure rfl (PO.assign (v := .bool false) rfl) ?_
              refine JL.nil ?_
              refine JQ.seq ?_
              refine JC.ret ?_
              refine Done.one (.inl rfl) rfl (RV.tmp (v := .bool false) rfl) (List.nil_sublist _) ?_
              obtain ⟨hb1, hb2⟩ := pl_rename_base e_47 e_48 e_57 e_64
              have hc1 := pl_rename e_11 e_71 e_78 e_85 e_92
              exfalso
              first | omega | contradiction | simp_all
          · skip
            refine JL.guardOff (b := false) rfl rfl rfl (congrArg Value.bool (decide_eq_false h_104)) ?_
            refine JL.guardOff (b := false) rfl rfl rfl (congrArg Value.bool (decide_eq_false h_104)) ?_
            refine JL.guardOff (b := false) rfl rfl rfl (congrArg Value.bool (decide_eq_false h_104)) ?_
            refine JL.pure rfl (PO.pickF (v := .bool false) (congrArg Value.bool (decide_eq_false h_104)) rfl) ?_
            refine JL.pure rfl (PO.move (v := .bool false) rfl) ?_
            refine JL.guardOff (b := false) rfl rfl rfl (congrArg Value.bool rfl) ?_
            refine JL.guardOff (b := false) rfl rfl rfl (congrArg Value.bool rfl) ?_
            refine JL.pure rfl (PO.pickF (v := .bool false) (congrArg Value.bool rfl) rfl) ?_
            refine JL.pure rfl (PO.assign (v := .bool false) rfl) ?_
            refine JL.nil ?_
            refine JQ.seq ?_
            refine JC.ret ?_
            refine Done.one (.inl rfl) rfl (RV.tmp (v := .bool false) rfl) (List.nil_sublist _) ?_
            obtain ⟨hb1, hb2⟩ := pl_rename_base e_47 e_48 e_57 e_64
            have hc1 := pl_rename e_11 e_71 e_78 e_85 e_92
            exfalso
            first | omega | contradiction | simp_all
      · skip
        refine JL.guardOff (b := false) rfl rfl rfl (congrArg Value.bool (decide_eq_false h_100)) ?_
        refine JL.guardOff (b := false) rfl rfl rfl (congrArg Value.bool (decide_eq_false h_100)) ?_
        refine JL.guardOff (b := false) rfl rfl rfl (congrArg Value.bool (decide_eq_false h_100)) ?_
        refine JL.guardOffU rfl rfl rfl rfl ?_
        refine JL.guardOffU rfl rfl rfl rfl ?_
        refine JL.guardOffU rfl rfl rfl rfl ?_
        refine JL.guardOff (b := false) rfl rfl rfl (congrArg Value.bool (decide_eq_false h_100)) ?_
        refine JL.guardOn rfl rfl rfl (congrArg Value.bool (congrArg Bool.not (decide_eq_true h_99))) (JO.ofLO (LO.pure (PO.pickF (v := .bool false) (congrArg Value.bool (decide_eq_false h_100)) rfl))) ?_
        rintro _ _ ⟨rfl, rfl⟩
        refine JL.pure rfl (PO.pickF (v := .bool false) (congrArg Value.bool (congrArg Bool.not (decide_eq_true h_99))) rfl) ?_
        refine JL.pure rfl (PO.move (v := .bool false) rfl) ?_
        refine JL.guardOff (b := false) rfl rfl rfl (congrArg Value.bool rfl) ?_
        refine JL.guardOff (b := false) rfl rfl rfl (congrArg Value.bool rfl) ?_
        refine JL.guardOff (b := false) rfl rfl rfl (congrArg Value.bool rfl) ?_
        refine JL.pure rfl (PO.pickF (v := .bool false) (congrArg Value.bool rfl) rfl) ?_
        refine JL.pure rfl (PO.move (v := .bool false) rfl) ?_
        refine JL.guardOff (b := false) rfl rfl rfl (congrArg Value.bool rfl) ?_
        refine JL.guardOff (b := false) rfl rfl rfl (congrArg Value.bool rfl) ?_
        refine JL.pure rfl (PO.pickF (v := .bool false) (congrArg Value.bool rfl) rfl) ?_
        refine JL.pure rfl (PO.assign (v := .bool false) rfl) ?_
        refine JL.nil ?_
        refine JQ.seq ?_
        refine JC.ret ?_
        refine Done.one (.inl rfl) rfl (RV.tmp (v := .bool false) rfl) (List.nil_sublist _) ?_
        obtain ⟨hb1, hb2⟩ := pl_rename_base e_47 e_48 e_57 e_64
        have hc1 := pl_rename e_11 e_71 e_78 e_85 e_92
        exfalso
        first | omega | contradiction | simp_all
    · skip
      refine JL.guardOff (b := true) rfl rfl rfl (congrArg Value.bool (congrArg Bool.not (decide_eq_false h_99))) ?_
      refine JL.guardOff (b := true) rfl rfl rfl (congrArg Value.bool (congrArg Bool.not (decide_eq_false h_99))) ?_
      refine JL.guardOff (b := true) rfl rfl rfl (congrArg Value.bool (congrArg Bool.not (decide_eq_false h_99))) ?_
      refine JL.guardOff (b := true) rfl rfl rfl (congrArg Value.bool (congrArg Bool.not (decide_eq_false h_99))) ?_
      refine JL.guardOffU rfl rfl rfl rfl ?_
      refine JL.guardOffU rfl rfl rfl rfl ?_
      refine JL.guardOffU rfl rfl rfl rfl ?_
      refine JL.guardOffU rfl rfl rfl rfl ?_
      refine JL.guardOffU rfl rfl rfl rfl ?_
      refine JL.guardOffU rfl rfl rfl rfl ?_
      refine JL.guardOffU rfl rfl rfl rfl ?_
      refine JL.guardOff (b := true) rfl rfl rfl (congrArg Value.bool (congrArg Bool.not (decide_eq_false h_99))) ?_
      refine JL.pure rfl (PO.pickT (v := .bool true) (congrArg Value.bool (congrArg Bool.not (decide_eq_false h_99))) rfl) ?_
      refine JL.pure rfl (PO.move (v := .bool true) rfl) ?_
      refine JL.guardOn rfl rfl rfl (congrArg Value.bool rfl) (JO.ofLO (LO.pure (PO.move (v := .slice l_68a l_68.length l_68c) rfl))) ?_
      rintro _ _ ⟨rfl, rfl⟩
      refine JL.guardOn rfl rfl rfl (congrArg Value.bool rfl) (JO.buildSlice (ps := [(0, str [121])]) (cur := #[str [121]]) Tryz.underlying23 Tryz.sizeOf9 Tryz.zeroValue9 rfl (by kernel_rfl) (by decide) (by decide)) ?_
      rintro _ _ ⟨a_107, rfl, rfl⟩
      refine JL.guardOn rfl rfl rfl (congrArg Value.bool rfl) (JO.call [] Tryz.call51 rfl (C_sameTexts l_68a a_107 l_68c 1 l_68 ([[121]] : List Str) (by omega)) rfl (fun w hw => ⟨hw.see (i := 1) rfl, hw.see (i := 0) rfl⟩)) ?_
      rintro _ _ ⟨_, ⟨rfl, rfl⟩, rfl⟩
      refine JL.pure rfl (PO.pickT (v := .bool (decide (l_68 = ([[121]] : List Str)))) (congrArg Value.bool rfl) rfl) ?_
      refine JL.pure rfl (PO.move (v := .bool (decide (l_68 = ([[121]] : List Str)))) rfl) ?_
      by_cases h_108 : l_68 = ([[121]] : List Str)
      · skip
        refine JL.guardOn rfl rfl rfl (congrArg Value.bool (decide_eq_true h_108)) (JO.ofLO (LO.pure (PO.move (v := .int .i64 n_52) rfl))) ?_
        rintro _ _ ⟨rfl, rfl⟩
        refine JL.guardOn rfl rfl rfl (congrArg Value.bool (decide_eq_true h_108)) (JO.ofLO (LO.pure (PO.eqlI rfl rfl))) ?_
        rintro _ _ ⟨rfl, rfl⟩
        refine JL.pure rfl (PO.pickT (v := .bool (decide (n_52 = 1))) (congrArg Value.bool (decide_eq_true h_108)) rfl) ?_
        refine JL.pure rfl (PO.assign (v := .bool (decide (n_52 = 1))) rfl) ?_
        refine JL.nil ?_
        refine JQ.seq ?_
        refine JC.ret ?_
        refine Done.one (.inl rfl) rfl (RV.tmp (v := .bool (decide (n_52 = 1))) rfl) (List.nil_sublist _) ?_
        obtain ⟨hb1, hb2⟩ := pl_rename_base e_47 e_48 e_57 e_64
        have hc1 := pl_rename e_11 e_71 e_78 e_85 e_92
        refine ⟨congrArg Value.bool ?_, rfl⟩
        simp only [decide_eq_true_eq]
        first | omega | assumption | simp_all
      · skip
        refine JL.guardOff (b := false) rfl rfl rfl (congrArg Value.bool (decide_eq_false h_108)) ?_
        refine JL.guardOff (b := false) rfl rfl rfl (congrArg Value.bool (decide_eq_false h_108)) ?_
        refine JL.pure rfl (PO.pickF (v := .bool false) (congrArg Value.bool (decide_eq_false h_108)) rfl) ?_
        refine JL.pure rfl (PO.assign (v := .bool false) rfl) ?_
        refine JL.nil ?_
        refine JQ.seq ?_
        refine JC.ret ?_
        refine Done.one (.inl rfl) rfl (RV.tmp (v := .bool false) rfl) (List.nil_sublist _) ?_
        obtain ⟨hb1, hb2⟩ := pl_rename_base e_47 e_48 e_57 e_64
        have hc1 := pl_rename e_11 e_71 e_78 e_85 e_92
        exfalso
        first | omega | contradiction | simp_all

end Go.Proofs.YtenfajgpdhgknaaGreatDoor
