/-
  A law that draws, walked: it says yes at every row of bytes.
-/
import Derived.Test.YtenfajgpdhgknaaGreatDoorS18HEX
import Derived.Test.YtenfajgpdhgknaaGreatDoorS26DRAWNp1
set_option linter.unusedSimpArgs false
set_option linter.unusedVariables false
set_option linter.unnecessarySimpa false
set_option maxRecDepth 8000
namespace Go.Proofs.YtenfajgpdhgknaaGreatDoor
open Go Go.RowKit
attribute [local irreducible] JL JC JQ JO LO PO JA JX Ct

set_option maxHeartbeats 1600000 in
theorem L_Files (pa : Option Addr) (pc : Nat) (p : Str) :
    Ct Tryz.prog 13 [.slice pa p.length pc] [] (fun w => Sees w (.slice pa p.length pc) 1 p.length (p.map encB) ∧ HexOk w) (fun v A' => v = .bool true ∧ A' = []) := by
  refine Ct.introL Tryz.func13 rfl Tryz.ntmps13 (Nat.le_of_ble_eq_true rfl) fun w0 hpre hlow => ?_
  have hs_pa : Sees w0 _ _ _ _ := hpre.1
  refine JC.seq ?_
  refine JC.region ?_
  refine JL.pure rfl (PO.assign (v := .bool false) rfl) ?_
  refine JL.nil ?_
  refine JQ.seq ?_
  refine JC.seq ?_
  refine JC.seq ?_
  refine JC.region ?_
  refine JL.pure rfl (PO.move (v := .slice pa p.length pc) rfl) ?_
  refine JL.op rfl (JO.call [] Tryz.call26 rfl (N_big pa pc p) rfl (fun _ _ => trivial)) ?_
  rintro _ _ ⟨_, ⟨rfl, rfl⟩, rfl⟩
  refine JL.nil ?_
  refine JQ.seq ?_
  by_cases h_1 : 1048576 < ((p.length : Nat) : Int)
  · skip
    refine JC.condT (congrArg Value.bool (decide_eq_true h_1)) ?_
    refine JC.seq ?_
    refine JC.region ?_
    refine JL.pure rfl (PO.assign (v := .bool true) rfl) ?_
    refine JL.nil ?_
    refine JQ.seq ?_
    refine JC.ret ?_
    refine JQ.thenRet ?_
    refine Done.one (.inl rfl) rfl (RV.tmp (v := .bool true) rfl) (List.nil_sublist _) ?_
    exact ⟨rfl, rfl⟩
  · skip
    refine JC.condF (congrArg Value.bool (decide_eq_false h_1)) ?_
    refine JC.skip ?_
    refine JQ.seq ?_
    refine JC.seq ?_
    refine JC.region ?_
    refine JL.pure rfl (PO.move (v := .slice pa p.length pc) rfl) ?_
    refine JL.op rfl (JO.call [] Tryz.call98 rfl (D_dReadFile pa pc p (by omega)) rfl (fun w hw => hw.seeOut_ hs_pa (fun _ _ => List.not_mem_nil))) ?_
    rintro _ _ ⟨_, ⟨x_2, m_3, n_5, n_7, n_9, k_4, f_6, f_8, f_10, rfl, rfl⟩, rfl⟩
    refine JL.pure rfl (PO.move (v := .tuple #[mv x_2 m_3, .int .i64 n_5, .int .i64 n_7, .int .i64 n_9]) rfl) ?_
    refine JL.pure rfl (PO.extract (v := mv x_2 m_3) rfl rfl) ?_
    refine JL.pure rfl (PO.extract (v := .int .i64 n_5) rfl rfl) ?_
    refine JL.pure rfl (PO.extract (v := .int .i64 n_7) rfl rfl) ?_
    refine JL.pure rfl (PO.extract (v := .int .i64 n_9) rfl rfl) ?_
    refine JL.op rfl (JO.alloc (z := .agg #[.slice none 0 0, .slice none 0 0, .slice none 0 0]) (cs := [.slice none 0 0, .slice none 0 0, .slice none 0 0]) Tryz.zeroValue32 rfl) ?_
    rintro _ _ ⟨b_12, rfl, rfl⟩
    refine JL.op rfl (JO.store 0 (vs := [.slice x_2.a0 m_3.s.length x_2.c0, .slice x_2.a1 m_3.r.length x_2.c1, .slice x_2.a2 m_3.w.length x_2.c2]) (cs' := [.slice x_2.a0 m_3.s.length x_2.c0, .slice x_2.a1 m_3.r.length x_2.c1, .slice x_2.a2 m_3.w.length x_2.c2]) rfl rfl rfl rfl Tryz.sizeOf32 rfl rfl (Nat.le_of_ble_eq_true rfl) rfl) ?_
    rintro _ _ rfl
    refine JL.pure rfl (PO.assign (v := .int .i64 n_5) rfl) ?_
    refine JL.pure rfl (PO.assign (v := .int .i64 n_7) rfl) ?_
    refine JL.pure rfl (PO.assign (v := .int .i64 n_9) rfl) ?_
    refine JL.nil ?_
    refine JQ.seq ?_
    refine JC.seq ?_
    refine JC.region ?_
    refine JL.ld rfl (LO.loadK 0 (vs := [.slice x_2.a0 m_3.s.length x_2.c0, .slice x_2.a1 m_3.r.length x_2.c1, .slice x_2.a2 m_3.w.length x_2.c2]) rfl rfl Tryz.isAgg32 Tryz.sizeOf32 rfl rfl) ?_
    refine JL.pure rfl (PO.move (v := .int .i64 n_5) rfl) ?_
    refine JL.pure rfl (PO.move (v := .int .i64 n_7) rfl) ?_
    refine JL.pure rfl (PO.move (v := .int .i64 n_9) rfl) ?_
    refine JL.op rfl (JO.call [] Tryz.call97 rfl (P_readFile x_2 m_3 k_4 (by omega) (by omega) n_5 n_7 n_9 (by omega) (by omega) (by omega)) rfl (fun w hw => ⟨⟨hw.see (i := 1) rfl, hw.see (i := 2) rfl, hw.see (i := 3) rfl⟩, hw.hex hlow hpre.2⟩)) ?_
    rintro _ _ ⟨_, ⟨x_15, m_16, u_17, e_13, k_14, f_18, rfl, rfl⟩, rfl⟩
    refine JL.pure rfl (PO.move (v := .tuple #[mv x_15 m_16, str u_17]) rfl) ?_
    refine JL.pure rfl (PO.extract (v := mv x_15 m_16) rfl rfl) ?_
    refine JL.pure rfl (PO.extract (v := str u_17) rfl rfl) ?_
    refine JL.op rfl (JO.alloc (z := .agg #[.slice none 0 0, .slice none 0 0, .slice none 0 0]) (cs := [.slice none 0 0, .slice none 0 0, .slice none 0 0]) Tryz.zeroValue32 rfl) ?_
    rintro _ _ ⟨b_19, rfl, rfl⟩
    refine JL.op rfl (JO.store 0 (vs := [.slice x_15.a0 m_16.s.length x_15.c0, .slice x_15.a1 m_16.r.length x_15.c1, .slice x_15.a2 m_16.w.length x_15.c2]) (cs' := [.slice x_15.a0 m_16.s.length x_15.c0, .slice x_15.a1 m_16.r.length x_15.c1, .slice x_15.a2 m_16.w.length x_15.c2]) rfl rfl rfl rfl Tryz.sizeOf32 rfl rfl (Nat.le_of_ble_eq_true rfl) rfl) ?_
    rintro _ _ rfl
    refine JL.pure rfl (PO.assign (v := str u_17) rfl) ?_
    refine JL.nil ?_
    refine JQ.seq ?_
    refine JC.seq ?_
    refine JC.region ?_
    refine JL.ld rfl (LO.loadK 4 (vs := [.slice x_2.a0 m_3.s.length x_2.c0, .slice x_2.a1 m_3.r.length x_2.c1, .slice x_2.a2 m_3.w.length x_2.c2]) rfl rfl Tryz.isAgg32 Tryz.sizeOf32 rfl rfl) ?_
    refine JL.pure rfl (PO.move (v := .int .i64 n_5) rfl) ?_
    refine JL.pure rfl (PO.move (v := .int .i64 n_7) rfl) ?_
    refine JL.pure rfl (PO.move (v := .int .i64 n_9) rfl) ?_
    refine JL.op rfl (JO.call [] Tryz.call99 rfl (Q_readFile x_2 m_3 k_4 (by omega) (by omega) n_5 n_7 n_9 (by omega) (by omega) (by omega)) rfl (fun w hw => ⟨hw.see (i := 5) rfl, hw.see (i := 6) rfl, hw.see (i := 7) rfl⟩)) ?_
    rintro _ _ ⟨_, ⟨x_22, m_23, u_24, e_20, k_21, f_25, rfl, rfl⟩, rfl⟩
    have hqe_20 := e_13.symm.trans e_20
    simp only [Prod.mk.injEq] at hqe_20
    obtain ⟨rfl, rfl⟩ := hqe_20
    refine JL.pure rfl (PO.move (v := .tuple #[mv x_22 m_16, str u_17]) rfl) ?_
    refine JL.pure rfl (PO.extract (v := mv x_22 m_16) rfl rfl) ?_
    refine JL.pure rfl (PO.extract (v := str u_17) rfl rfl) ?_
    refine JL.op rfl (JO.alloc (z := .agg #[.slice none 0 0, .slice none 0 0, .slice none 0 0]) (cs := [.slice none 0 0, .slice none 0 0, .slice none 0 0]) Tryz.zeroValue32 rfl) ?_
    rintro _ _ ⟨b_26, rfl, rfl⟩
    refine JL.op rfl (JO.store 0 (vs := [.slice x_22.a0 m_16.s.length x_22.c0, .slice x_22.a1 m_16.r.length x_22.c1, .slice x_22.a2 m_16.w.length x_22.c2]) (cs' := [.slice x_22.a0 m_16.s.length x_22.c0, .slice x_22.a1 m_16.r.length x_22.c1, .slice x_22.a2 m_16.w.length x_22.c2]) rfl rfl rfl rfl Tryz.sizeOf32 rfl rfl (Nat.le_of_ble_eq_true rfl) rfl) ?_
    rintro _ _ rfl
    refine JL.pure rfl (PO.assign (v := str u_17) rfl) ?_
    refine JL.nil ?_
    refine JQ.seq ?_
    refine JC.seq ?_
    refine JC.region ?_
    refine JL.pure rfl (PO.move (v := .slice pa p.length pc) rfl) ?_
    refine JL.op rfl (JO.call [] Tryz.call100 rfl (D_dSizeFile pa pc p (by omega)) rfl (fun w hw => hw.seeOut_ hs_pa (fun _ _ => List.not_mem_nil))) ?_
    rintro _ _ ⟨_, ⟨x_27, m_28, n_30, k_29, f_31, rfl, rfl⟩, rfl⟩
    refine JL.pure rfl (PO.move (v := .tuple #[mv x_27 m_28, .int .i64 n_30]) rfl) ?_
    refine JL.pure rfl (PO.extract (v := mv x_27 m_28) rfl rfl) ?_
    refine JL.pure rfl (PO.extract (v := .int .i64 n_30) rfl rfl) ?_
    refine JL.op rfl (JO.alloc (z := .agg #[.slice none 0 0, .slice none 0 0, .slice none 0 0]) (cs := [.slice none 0 0, .slice none 0 0, .slice none 0 0]) Tryz.zeroValue32 rfl) ?_
    rintro _ _ ⟨b_33, rfl, rfl⟩
    refine JL.op rfl (JO.store 0 (vs := [.slice x_27.a0 m_28.s.length x_27.c0, .slice x_27.a1 m_28.r.length x_27.c1, .slice x_27.a2 m_28.w.length x_27.c2]) (cs' := [.slice x_27.a0 m_28.s.length x_27.c0, .slice x_27.a1 m_28.r.length x_27.c1, .slice x_27.a2 m_28.w.length x_27.c2]) rfl rfl rfl rfl Tryz.sizeOf32 rfl rfl (Nat.le_of_ble_eq_true rfl) rfl) ?_
    rintro _ _ rfl
    refine JL.pure rfl (PO.assign (v := .int .i64 n_30) rfl) ?_
    refine JL.nil ?_
    refine JQ.seq ?_
    refine JC.seq ?_
    refine JC.region ?_
    refine JL.ld rfl (LO.loadK 0 (vs := [.slice x_27.a0 m_28.s.length x_27.c0, .slice x_27.a1 m_28.r.length x_27.c1, .slice x_27.a2 m_28.w.length x_27.c2]) rfl rfl Tryz.isAgg32 Tryz.sizeOf32 rfl rfl) ?_
    refine JL.pure rfl (PO.move (v := .int .i64 n_30) rfl) ?_
    refine JL.op rfl (JO.call [] Tryz.call101 rfl (P_sizeFile x_27 m_28 k_29 (by omega) (by omega) n_30 (by omega)) rfl (fun w hw => ⟨hw.see (i := 1) rfl, hw.see (i := 2) rfl, hw.see (i := 3) rfl⟩)) ?_
    rintro _ _ ⟨_, ⟨x_36, m_37, n_38, e_34, k_35, f_39, rfl, rfl⟩, rfl⟩
    refine JL.pure rfl (PO.move (v := .tuple #[mv x_36 m_37, .int .i64 n_38]) rfl) ?_
    refine JL.pure rfl (PO.extract (v := mv x_36 m_37) rfl rfl) ?_
    refine JL.pure rfl (PO.extract (v := .int .i64 n_38) rfl rfl) ?_
    refine JL.op rfl (JO.alloc (z := .agg #[.slice none 0 0, .slice none 0 0, .slice none 0 0]) (cs := [.slice none 0 0, .slice none 0 0, .slice none 0 0]) Tryz.zeroValue32 rfl) ?_
    rintro _ _ ⟨b_40, rfl, rfl⟩
    refine JL.op rfl (JO.store 0 (vs := [.slice x_36.a0 m_37.s.length x_36.c0, .slice x_36.a1 m_37.r.length x_36.c1, .slice x_36.a2 m_37.w.length x_36.c2]) (cs' := [.slice x_36.a0 m_37.s.length x_36.c0, .slice x_36.a1 m_37.r.length x_36.c1, .slice x_36.a2 m_37.w.length x_36.c2]) rfl rfl rfl rfl Tryz.sizeOf32 rfl rfl (Nat.le_of_ble_eq_true rfl) rfl) ?_
    rintro _ _ rfl
    refine JL.pure rfl (PO.assign (v := .int .i64 n_38) rfl) ?_
    refine JL.nil ?_
    refine JQ.seq ?_
    refine JC.seq ?_
    refine JC.region ?_
    refine JL.ld rfl (LO.loadK 4 (vs := [.slice x_27.a0 m_28.s.length x_27.c0, .slice x_27.a1 m_28.r.length x_27.c1, .slice x_27.a2 m_28.w.length x_27.c2]) rfl rfl Tryz.isAgg32 Tryz.sizeOf32 rfl rfl) ?_
    refine JL.pure rfl (PO.move (v := .int .i64 n_30) rfl) ?_
    refine JL.op rfl (JO.call [] Tryz.call102 rfl (Q_sizeFile x_27 m_28 k_29 (by omega) (by omega) n_30 (by omega)) rfl (fun w hw => ⟨hw.see (i := 5) rfl, hw.see (i := 6) rfl, hw.see (i := 7) rfl⟩)) ?_
    rintro _ _ ⟨_, ⟨x_43, m_44, n_45, e_41, k_42, f_46, rfl, rfl⟩, rfl⟩
    have hqe_41 := e_34.symm.trans e_41
    simp only [Prod.mk.injEq] at hqe_41
    obtain ⟨rfl, rfl⟩ := hqe_41
    refine JL.pure rfl (PO.move (v := .tuple #[mv x_43 m_37, .int .i64 n_38]) rfl) ?_
    refine JL.pure rfl (PO.extract (v := mv x_43 m_37) rfl rfl) ?_
    refine JL.pure rfl (PO.extract (v := .int .i64 n_38) rfl rfl) ?_
    refine JL.op rfl (JO.alloc (z := .agg #[.slice none 0 0, .slice none 0 0, .slice none 0 0]) (cs := [.slice none 0 0, .slice none 0 0, .slice none 0 0]) Tryz.zeroValue32 rfl) ?_
    rintro _ _ ⟨b_47, rfl, rfl⟩
    refine JL.op rfl (JO.store 0 (vs := [.slice x_43.a0 m_37.s.length x_43.c0, .slice x_43.a1 m_37.r.length x_43.c1, .slice x_43.a2 m_37.w.length x_43.c2]) (cs' := [.slice x_43.a0 m_37.s.length x_43.c0, .slice x_43.a1 m_37.r.length x_43.c1, .slice x_43.a2 m_37.w.length x_43.c2]) rfl rfl rfl rfl Tryz.sizeOf32 rfl rfl (Nat.le_of_ble_eq_true rfl) rfl) ?_
    rintro _ _ rfl
    refine JL.pure rfl (PO.assign (v := .int .i64 n_38) rfl) ?_
    refine JL.nil ?_
    refine JQ.seq ?_
    refine JC.seq ?_
    refine JC.region ?_
    refine JL.pure rfl (PO.move (v := .slice pa p.length pc) rfl) ?_
    refine JL.op rfl (JO.call [] Tryz.call103 rfl (D_dCutFile pa pc p (by omega)) rfl (fun w hw => hw.seeOut_ hs_pa (fun _ _ => List.not_mem_nil))) ?_
    rintro _ _ ⟨_, ⟨x_48, m_49, n_51, n_53, k_50, f_52, f_54, rfl, rfl⟩, rfl⟩
    refine JL.pure rfl (PO.move (v := .tuple #[mv x_48 m_49, .int .i64 n_51, .int .i64 n_53]) rfl) ?_
    refine JL.pure rfl (PO.extract (v := mv x_48 m_49) rfl rfl) ?_
    refine JL.pure rfl (PO.extract (v := .int .i64 n_51) rfl rfl) ?_
    refine JL.pure rfl (PO.extract (v := .int .i64 n_53) rfl rfl) ?_
    refine JL.op rfl (JO.alloc (z := .agg #[.slice none 0 0, .slice none 0 0, .slice none 0 0]) (cs := [.slice none 0 0, .slice none 0 0, .slice none 0 0]) Tryz.zeroValue32 rfl) ?_
    rintro _ _ ⟨b_56, rfl, rfl⟩
    refine JL.op rfl (JO.store 0 (vs := [.slice x_48.a0 m_49.s.length x_48.c0, .slice x_48.a1 m_49.r.length x_48.c1, .slice x_48.a2 m_49.w.length x_48.c2]) (cs' := [.slice x_48.a0 m_49.s.length x_48.c0, .slice x_48.a1 m_49.r.length x_48.c1, .slice x_48.a2 m_49.w.length x_48.c2]) rfl rfl rfl rfl Tryz.sizeOf32 rfl rfl (Nat.le_of_ble_eq_true rfl) rfl) ?_
    rintro _ _ rfl
    refine JL.pure rfl (PO.assign (v := .int .i64 n_51) rfl) ?_
    refine JL.pure rfl (PO.assign (v := .int .i64 n_53) rfl) ?_
    refine JL.nil ?_
    refine JQ.seq ?_
    refine JC.seq ?_
    refine JC.region ?_
    refine JL.ld rfl (LO.loadK 0 (vs := [.slice x_48.a0 m_49.s.length x_48.c0, .slice x_48.a1 m_49.r.length x_48.c1, .slice x_48.a2 m_49.w.length x_48.c2]) rfl rfl Tryz.isAgg32 Tryz.sizeOf32 rfl rfl) ?_
    refine JL.pure rfl (PO.move (v := .int .i64 n_51) rfl) ?_
    refine JL.pure rfl (PO.move (v := .int .i64 n_53) rfl) ?_
    refine JL.op rfl (JO.call [] Tryz.call23 rfl (P_cutFile x_48 m_49 k_50 (by omega) (by omega) n_51 n_53 (by omega) (by omega)) rfl (fun w hw => ⟨⟨hw.see (i := 1) rfl, hw.see (i := 2) rfl, hw.see (i := 3) rfl⟩, hw.hex hlow hpre.2⟩)) ?_
    rintro _ _ ⟨_, ⟨x_59, m_60, n_61, e_57, k_58, f_62, rfl, rfl⟩, rfl⟩
    refine JL.pure rfl (PO.move (v := .tuple #[mv x_59 m_60, .int .i64 n_61]) rfl) ?_
    refine JL.pure rfl (PO.extract (v := mv x_59 m_60) rfl rfl) ?_
    refine JL.pure rfl (PO.extract (v := .int .i64 n_61) rfl rfl) ?_
    refine JL.op rfl (JO.alloc (z := .agg #[.slice none 0 0, .slice none 0 0, .slice none 0 0]) (cs := [.slice none 0 0, .slice none 0 0, .slice none 0 0]) Tryz.zeroValue32 rfl) ?_
    rintro _ _ ⟨b_63, rfl, rfl⟩
    refine JL.op rfl (JO.store 0 (vs := [.slice x_59.a0 m_60.s.length x_59.c0, .slice x_59.a1 m_60.r.length x_59.c1, .slice x_59.a2 m_60.w.length x_59.c2]) (cs' := [.slice x_59.a0 m_60.s.length x_59.c0, .slice x_59.a1 m_60.r.length x_59.c1, .slice x_59.a2 m_60.w.length x_59.c2]) rfl rfl rfl rfl Tryz.sizeOf32 rfl rfl (Nat.le_of_ble_eq_true rfl) rfl) ?_
    rintro _ _ rfl
    refine JL.pure rfl (PO.assign (v := .int .i64 n_61) rfl) ?_
    refine JL.nil ?_
    refine JQ.seq ?_
    refine JC.seq ?_
    refine JC.region ?_
    refine JL.ld rfl (LO.loadK 4 (vs := [.slice x_48.a0 m_49.s.length x_48.c0, .slice x_48.a1 m_49.r.length x_48.c1, .slice x_48.a2 m_49.w.length x_48.c2]) rfl rfl Tryz.isAgg32 Tryz.sizeOf32 rfl rfl) ?_
    refine JL.pure rfl (PO.move (v := .int .i64 n_51) rfl) ?_
    refine JL.pure rfl (PO.move (v := .int .i64 n_53) rfl) ?_
    refine JL.op rfl (JO.call [] Tryz.call22 rfl (Q_cutFile x_48 m_49 k_50 (by omega) (by omega) n_51 n_53 (by omega) (by omega)) rfl (fun w hw => ⟨hw.see (i := 5) rfl, hw.see (i := 6) rfl, hw.see (i := 7) rfl⟩)) ?_
    rintro _ _ ⟨_, ⟨x_66, m_67, n_68, e_64, k_65, f_69, rfl, rfl⟩, rfl⟩
    have hqe_64 := e_57.symm.trans e_64
    simp only [Prod.mk.injEq] at hqe_64
    obtain ⟨rfl, rfl⟩ := hqe_64
    refine JL.pure rfl (PO.move (v := .tuple #[mv x_66 m_60, .int .i64 n_61]) rfl) ?_
    refine JL.pure rfl (PO.extract (v := mv x_66 m_60) rfl rfl) ?_
    refine JL.pure rfl (PO.extract (v := .int .i64 n_61) rfl rfl) ?_
    refine JL.op rfl (JO.alloc (z := .agg #[.slice none 0 0, .slice none 0 0, .slice none 0 0]) (cs := [.slice none 0 0, .slice none 0 0, .slice none 0 0]) Tryz.zeroValue32 rfl) ?_
    rintro _ _ ⟨b_70, rfl, rfl⟩
    refine JL.op rfl (JO.store 0 (vs := [.slice x_66.a0 m_60.s.length x_66.c0, .slice x_66.a1 m_60.r.length x_66.c1, .slice x_66.a2 m_60.w.length x_66.c2]) (cs' := [.slice x_66.a0 m_60.s.length x_66.c0, .slice x_66.a1 m_60.r.length x_66.c1, .slice x_66.a2 m_60.w.length x_66.c2]) rfl rfl rfl rfl Tryz.sizeOf32 rfl rfl (Nat.le_of_ble_eq_true rfl) rfl) ?_
    rintro _ _ rfl
    refine JL.pure rfl (PO.assign (v := .int .i64 n_61) rfl) ?_
    refine JL.nil ?_
    refine JQ.sub (L' := [mb b_70 x_66 m_60, rC x_66.a0 x_66.c0 m_60.s, rS x_66.a1 x_66.c1 m_60.r, rS x_66.a2 x_66.c2 m_60.w, mb b_63 x_59 m_60, rC x_59.a0 x_59.c0 m_60.s, rS x_59.a1 x_59.c1 m_60.r, rS x_59.a2 x_59.c2 m_60.w, mb b_47 x_43 m_37, rC x_43.a0 x_43.c0 m_37.s, rS x_43.a1 x_43.c1 m_37.r, rS x_43.a2 x_43.c2 m_37.w, mb b_40 x_36 m_37, rC x_36.a0 x_36.c0 m_37.s, rS x_36.a1 x_36.c1 m_37.r, rS x_36.a2 x_36.c2 m_37.w, mb b_33 x_27 m_28, rC x_27.a0 x_27.c0 m_28.s, rS x_27.a1 x_27.c1 m_28.r, rS x_27.a2 x_27.c2 m_28.w, mb b_26 x_22 m_16, rC x_22.a0 x_22.c0 m_16.s, rS x_22.a1 x_22.c1 m_16.r, rS x_22.a2 x_22.c2 m_16.w, mb b_19 x_15 m_16, rC x_15.a0 x_15.c0 m_16.s, rS x_15.a1 x_15.c1 m_16.r, rS x_15.a2 x_15.c2 m_16.w]) (.cons_cons _ (.cons_cons _ (.cons_cons _ (.cons_cons _ (.cons_cons _ (.cons_cons _ (.cons_cons _ (.cons_cons _ (.cons _ (.cons _ (.cons _ (.cons _ (.cons_cons _ (.cons_cons _ (.cons_cons _ (.cons_cons _ (.cons_cons _ (.cons_cons _ (.cons_cons _ (.cons_cons _ (.cons_cons _ (.cons_cons _ (.cons_cons _ (.cons_cons _ (.cons_cons _ (.cons_cons _ (.cons_cons _ (.cons_cons _ (.cons_cons _ (.cons_cons _ (.cons_cons _ (.cons_cons _ (.cons _ (.cons _ (.cons _ (.cons _ (.slnil))))))))))))))))))))))))))))))))))))) ?_
    refine JQ.seq ?_
    refine JC.seq ?_
    refine JC.region ?_
    refine JL.pure rfl (PO.move (v := .slice pa p.length pc) rfl) ?_
    refine JL.op rfl (JO.call [] Tryz.call104 rfl (D_dBlockOf pa pc p (by omega)) rfl (fun w hw => hw.seeOut_ hs_pa (fun _ _ => List.not_mem_nil))) ?_
    rintro _ _ ⟨_, ⟨x_71, m_72, n_74, n_76, k_73, f_75, f_77, rfl, rfl⟩, rfl⟩
    refine JL.pure rfl (PO.move (v := .tuple #[mv x_71 m_72, .int .i64 n_74, .int .i64 n_76]) rfl) ?_
    refine JL.pure rfl (PO.extract (v := mv x_71 m_72) rfl rfl) ?_
    refine JL.pure rfl (PO.extract (v := .int .i64 n_74) rfl rfl) ?_
    refine JL.pure rfl (PO.extract (v := .int .i64 n_76) rfl rfl) ?_
    refine JL.op rfl (JO.alloc (z := .agg #[.slice none 0 0, .slice none 0 0, .slice none 0 0]) (cs := [.slice none 0 0, .slice none 0 0, .slice none 0 0]) Tryz.zeroValue32 rfl) ?_
    rintro _ _ ⟨b_79, rfl, rfl⟩
    refine JL.op rfl (JO.store 0 (vs := [.slice x_71.a0 m_72.s.length x_71.c0, .slice x_71.a1 m_72.r.length x_71.c1, .slice x_71.a2 m_72.w.length x_71.c2]) (cs' := [.slice x_71.a0 m_72.s.length x_71.c0, .slice x_71.a1 m_72.r.length x_71.c1, .slice x_71.a2 m_72.w.length x_71.c2]) rfl rfl rfl rfl Tryz.sizeOf32 rfl rfl (Nat.le_of_ble_eq_true rfl) rfl) ?_
    rintro _ _ rfl
    refine JL.pure rfl (PO.assign (v := .int .i64 n_74) rfl) ?_
    refine JL.pure rfl (PO.assign (v := .int .i64 n_76) rfl) ?_
    refine JL.nil ?_
    refine JQ.seq ?_
    refine JC.seq ?_
    refine JC.region ?_
    refine JL.ld rfl (LO.loadK 0 (vs := [.slice x_71.a0 m_72.s.length x_71.c0, .slice x_71.a1 m_72.r.length x_71.c1, .slice x_71.a2 m_72.w.length x_71.c2]) rfl rfl Tryz.isAgg32 Tryz.sizeOf32 rfl rfl) ?_
    refine JL.pure rfl (PO.move (v := .int .i64 n_74) rfl) ?_
    refine JL.pure rfl (PO.move (v := .int .i64 n_76) rfl) ?_
    refine JL.op rfl (JO.call [] Tryz.call105 rfl (P_blockOf x_71 m_72 k_73 (by omega) (by omega) n_74 n_76 (by omega) (by omega)) rfl (fun w hw => ⟨⟨hw.see (i := 1) rfl, hw.see (i := 2) rfl, hw.see (i := 3) rfl⟩, hw.hex hlow hpre.2⟩)) ?_
    rintro _ _ ⟨_, ⟨x_82, m_83, u_84, e_80, k_81, f_85, rfl, rfl⟩, rfl⟩
    refine JL.pure rfl (PO.move (v := .tuple #[mv x_82 m_83, str u_84]) rfl) ?_
    refine JL.pure rfl (PO.extract (v := mv x_82 m_83) rfl rfl) ?_
    refine JL.pure rfl (PO.extract (v := str u_84) rfl rfl) ?_
    refine JL.op rfl (JO.alloc (z := .agg #[.slice none 0 0, .slice none 0 0, .slice none 0 0]) (cs := [.slice none 0 0, .slice none 0 0, .slice none 0 0]) Tryz.zeroValue32 rfl) ?_
    rintro _ _ ⟨b_86, rfl, rfl⟩
    refine JL.op rfl (JO.store 0 (vs := [.slice x_82.a0 m_83.s.length x_82.c0, .slice x_82.a1 m_83.r.length x_82.c1, .slice x_82.a2 m_83.w.length x_82.c2]) (cs' := [.slice x_82.a0 m_83.s.length x_82.c0, .slice x_82.a1 m_83.r.length x_82.c1, .slice x_82.a2 m_83.w.length x_82.c2]) rfl rfl rfl rfl Tryz.sizeOf32 rfl rfl (Nat.le_of_ble_eq_true rfl) rfl) ?_
    rintro _ _ rfl
    refine JL.pure rfl (PO.assign (v := str u_84) rfl) ?_
    refine JL.nil ?_
    refine JQ.seq ?_
    refine JC.seq ?_
    refine JC.region ?_
    refine JL.ld rfl (LO.loadK 4 (vs := [.slice x_71.a0 m_72.s.length x_71.c0, .slice x_71.a1 m_72.r.length x_71.c1, .slice x_71.a2 m_72.w.length x_71.c2]) rfl rfl Tryz.isAgg32 Tryz.sizeOf32 rfl rfl) ?_
    refine JL.pure rfl (PO.move (v := .int .i64 n_74) rfl) ?_
    refine JL.pure rfl (PO.move (v := .int .i64 n_76) rfl) ?_
    refine JL.op rfl (JO.call [] Tryz.call106 rfl (Q_blockOf x_71 m_72 k_73 (by omega) (by omega) n_74 n_76 (by omega) (by omega)) rfl (fun w hw => ⟨hw.see (i := 5) rfl, hw.see (i := 6) rfl, hw.see (i := 7) rfl⟩)) ?_
    rintro _ _ ⟨_, ⟨x_89, m_90, u_91, e_87, k_88, f_92, rfl, rfl⟩, rfl⟩
    have hqe_87 := e_80.symm.trans e_87
    simp only [Prod.mk.injEq] at hqe_87
    obtain ⟨rfl, rfl⟩ := hqe_87
    refine JL.pure rfl (PO.move (v := .tuple #[mv x_89 m_83, str u_84]) rfl) ?_
    refine JL.pure rfl (PO.extract (v := mv x_89 m_83) rfl rfl) ?_
    refine JL.pure rfl (PO.extract (v := str u_84) rfl rfl) ?_
    refine JL.op rfl (JO.alloc (z := .agg #[.slice none 0 0, .slice none 0 0, .slice none 0 0]) (cs := [.slice none 0 0, .slice none 0 0, .slice none 0 0]) Tryz.zeroValue32 rfl) ?_
    rintro _ _ ⟨b_93, rfl, rfl⟩
    refine JL.op rfl (JO.store 0 (vs := [.slice x_89.a0 m_83.s.length x_89.c0, .slice x_89.a1 m_83.r.length x_89.c1, .slice x_89.a2 m_83.w.length x_89.c2]) (cs' := [.slice x_89.a0 m_83.s.length x_89.c0, .slice x_89.a1 m_83.r.length x_89.c1, .slice x_89.a2 m_83.w.length x_89.c2]) rfl rfl rfl rfl Tryz.sizeOf32 rfl rfl (Nat.le_of_ble_eq_true rfl) rfl) ?_
    rintro _ _ rfl
    refine JL.pure rfl (PO.assign (v := str u_84) rfl) ?_
    refine JL.nil ?_
    refine JQ.seq ?_
    refine JC.seq ?_
    refine JC.region ?_
    refine JL.ld rfl (LO.loadK 28 (vs := [.slice x_27.a0 m_28.s.length x_27.c0, .slice x_27.a1 m_28.r.length x_27.c1, .slice x_27.a2 m_28.w.length x_27.c2]) rfl rfl Tryz.isAgg32 Tryz.sizeOf32 rfl rfl) ?_
    refine JL.pure rfl (PO.move (v := .int .i64 n_30) rfl) ?_
    refine JL.op rfl (JO.call [] Tryz.call96 rfl (P_textOf x_27 m_28 k_29 (by omega) (by omega) n_30 (by omega)) rfl (fun w hw => ⟨⟨hw.see (i := 29) rfl, hw.see (i := 30) rfl, hw.see (i := 31) rfl⟩, hw.hex hlow hpre.2⟩)) ?_
    rintro _ _ ⟨_, ⟨x_96, m_97, u_98, e_94, k_95, f_99, rfl, rfl⟩, rfl⟩
    refine JL.pure rfl (PO.move (v := .tuple #[mv x_96 m_97, str u_98]) rfl) ?_
    refine JL.pure rfl (PO.extract (v := mv x_96 m_97) rfl rfl) ?_
    refine JL.pure rfl (PO.extract (v := str u_98) rfl rfl) ?_
    refine JL.op rfl (JO.alloc (z := .agg #[.slice none 0 0, .slice none 0 0, .slice none 0 0]) (cs := [.slice none 0 0, .slice none 0 0, .slice none 0 0]) Tryz.zeroValue32 rfl) ?_
    rintro _ _ ⟨b_100, rfl, rfl⟩
    refine JL.op rfl (JO.store 0 (vs := [.slice x_96.a0 m_97.s.length x_96.c0, .slice x_96.a1 m_97.r.length x_96.c1, .slice x_96.a2 m_97.w.length x_96.c2]) (cs' := [.slice x_96.a0 m_97.s.length x_96.c0, .slice x_96.a1 m_97.r.length x_96.c1, .slice x_96.a2 m_97.w.length x_96.c2]) rfl rfl rfl rfl Tryz.sizeOf32 rfl rfl (Nat.le_of_ble_eq_true rfl) rfl) ?_
    rintro _ _ rfl
    refine JL.pure rfl (PO.assign (v := str u_98) rfl) ?_
    refine JL.nil ?_
    refine JQ.seq ?_
    refine JC.seq ?_
    refine JC.region ?_
    refine JL.ld rfl (LO.loadK 32 (vs := [.slice x_27.a0 m_28.s.length x_27.c0, .slice x_27.a1 m_28.r.length x_27.c1, .slice x_27.a2 m_28.w.length x_27.c2]) rfl rfl Tryz.isAgg32 Tryz.sizeOf32 rfl rfl) ?_
    refine JL.pure rfl (PO.move (v := .int .i64 n_30) rfl) ?_
    refine JL.op rfl (JO.call [] Tryz.call107 rfl (Q_textOf x_27 m_28 k_29 (by omega) (by omega) n_30 (by omega)) rfl (fun w hw => ⟨hw.see (i := 33) rfl, hw.see (i := 34) rfl, hw.see (i := 35) rfl⟩)) ?_
    rintro _ _ ⟨_, ⟨x_103, m_104, u_105, e_101, k_102, f_106, rfl, rfl⟩, rfl⟩
    have hqe_101 := e_94.symm.trans e_101
    simp only [Prod.mk.injEq] at hqe_101
    obtain ⟨rfl, rfl⟩ := hqe_101
    refine JL.pure rfl (PO.move (v := .tuple #[mv x_103 m_97, str u_98]) rfl) ?_
    refine JL.pure rfl (PO.extract (v := mv x_103 m_97) rfl rfl) ?_
    refine JL.pure rfl (PO.extract (v := str u_98) rfl rfl) ?_
    refine JL.op rfl (JO.alloc (z := .agg #[.slice none 0 0, .slice none 0 0, .slice none 0 0]) (cs := [.slice none 0 0, .slice none 0 0, .slice none 0 0]) Tryz.zeroValue32 rfl) ?_
    rintro _ _ ⟨b_107, rfl, rfl⟩
    refine JL.op rfl (JO.store 0 (vs := [.slice x_103.a0 m_97.s.length x_103.c0, .slice x_103.a1 m_97.r.length x_103.c1, .slice x_103.a2 m_97.w.length x_103.c2]) (cs' := [.slice x_103.a0 m_97.s.length x_103.c0, .slice x_103.a1 m_97.r.length x_103.c1, .slice x_103.a2 m_97.w.length x_103.c2]) rfl rfl rfl rfl Tryz.sizeOf32 rfl rfl (Nat.le_of_ble_eq_true rfl) rfl) ?_
    rintro _ _ rfl
    refine JL.pure rfl (PO.assign (v := str u_98) rfl) ?_
    refine JL.nil ?_
    refine JQ.sub (L' := [mb b_107 x_103 m_97, rC x_103.a0 x_103.c0 m_97.s, rS x_103.a1 x_103.c1 m_97.r, rS x_103.a2 x_103.c2 m_97.w, mb b_100 x_96 m_97, rC x_96.a0 x_96.c0 m_97.s, rS x_96.a1 x_96.c1 m_97.r, rS x_96.a2 x_96.c2 m_97.w, mb b_93 x_89 m_83, rC x_89.a0 x_89.c0 m_83.s, rS x_89.a1 x_89.c1 m_83.r, rS x_89.a2 x_89.c2 m_83.w, mb b_86 x_82 m_83, rC x_82.a0 x_82.c0 m_83.s, rS x_82.a1 x_82.c1 m_83.r, rS x_82.a2 x_82.c2 m_83.w, mb b_70 x_66 m_60, rC x_66.a0 x_66.c0 m_60.s, rS x_66.a1 x_66.c1 m_60.r, rS x_66.a2 x_66.c2 m_60.w, mb b_63 x_59 m_60, rC x_59.a0 x_59.c0 m_60.s, rS x_59.a1 x_59.c1 m_60.r, rS x_59.a2 x_59.c2 m_60.w, mb b_47 x_43 m_37, rC x_43.a0 x_43.c0 m_37.s, rS x_43.a1 x_43.c1 m_37.r, rS x_43.a2 x_43.c2 m_37.w, mb b_40 x_36 m_37, rC x_36.a0 x_36.c0 m_37.s, rS x_36.a1 x_36.c1 m_37.r, rS x_36.a2 x_36.c2 m_37.w, mb b_26 x_22 m_16, rC x_22.a0 x_22.c0 m_16.s, rS x_22.a1 x_22.c1 m_16.r, rS x_22.a2 x_22.c2 m_16.w, mb b_19 x_15 m_16, rC x_15.a0 x_15.c0 m_16.s, rS x_15.a1 x_15.c1 m_16.r, rS x_15.a2 x_15.c2 m_16.w]) (.cons_cons _ (.cons_cons _ (.cons_cons _ (.cons_cons _ (.cons_cons _ (.cons_cons _ (.cons_cons _ (.cons_cons _ (.cons_cons _ (.cons_cons _ (.cons_cons _ (.cons_cons _ (.cons_cons _ (.cons_cons _ (.cons_cons _ (.cons_cons _ (.cons _ (.cons _ (.cons _ (.cons _ (.cons_cons _ (.cons_cons _ (.cons_cons _ (.cons_cons _ (.cons_cons _ (.cons_cons _ (.cons_cons _ (.cons_cons _ (.cons_cons _ (.cons_cons _ (.cons_cons _ (.cons_cons _ (.cons_cons _ (.cons_cons _ (.cons_cons _ (.cons_cons _ (.cons _ (.cons _ (.cons _ (.cons _ (.cons_cons _ (.cons_cons _ (.cons_cons _ (.cons_cons _ (.cons_cons _ (.cons_cons _ (.cons_cons _ (.cons_cons _ (.slnil))))))))))))))))))))))))))))))))))))))))))))))))) ?_
    refine JQ.seq ?_
    refine JC.seq ?_
    refine JC.seq ?_
    refine JC.region ?_
    refine JL.pure rfl (PO.move (v := str u_17) rfl) ?_
    refine JL.pure rfl (PO.move (v := str u_17) rfl) ?_
    refine JL.pure rfl (PO.neqS rfl rfl) ?_
    refine JL.pure rfl (PO.move (v := .bool (!(decide (u_17 = u_17)))) rfl) ?_
    refine JL.guardOn rfl rfl rfl (congrArg Value.bool (congrArg Bool.not (decide_eq_true rfl))) (JO.ofLO (LO.loadK 36 (vs := [.slice x_15.a0 m_16.s.length x_15.c0, .slice x_15.a1 m_16.r.length x_15.c1, .slice x_15.a2 m_16.w.length x_15.c2]) rfl rfl Tryz.isAgg32 Tryz.sizeOf32 rfl rfl)) ?_
    rintro _ _ ⟨rfl, rfl⟩
    refine JL.guardOn rfl rfl rfl (congrArg Value.bool (congrArg Bool.not (decide_eq_true rfl))) (JO.ofLO (LO.loadK 32 (vs := [.slice x_22.a0 m_16.s.length x_22.c0, .slice x_22.a1 m_16.r.length x_22.c1, .slice x_22.a2 m_16.w.length x_22.c2]) rfl rfl Tryz.isAgg32 Tryz.sizeOf32 rfl rfl)) ?_
    rintro _ _ ⟨rfl, rfl⟩
    refine JL.guardOn rfl rfl rfl (congrArg Value.bool (congrArg Bool.not (decide_eq_true rfl))) (JO.call [] Tryz.call30 rfl (N_sameMach x_15 x_22 m_16 k_14 (by omega) (by omega)) rfl (fun w hw => ⟨⟨hw.see (i := 37) rfl, hw.see (i := 38) rfl, hw.see (i := 39) rfl⟩, ⟨hw.see (i := 33) rfl, hw.see (i := 34) rfl, hw.see (i := 35) rfl⟩⟩)) ?_
    rintro _ _ ⟨_, ⟨rfl, rfl⟩, rfl⟩
    refine JL.guardOn rfl rfl rfl (congrArg Value.bool (congrArg Bool.not (decide_eq_true rfl))) (JO.ofLO (LO.pure (PO.not rfl))) ?_
    rintro _ _ ⟨rfl, rfl⟩
    refine JL.pure rfl (PO.pickF (v := .bool false) (congrArg Value.bool (congrArg Bool.not (decide_eq_true rfl))) rfl) ?_
    refine JL.pure rfl (PO.move (v := .bool false) rfl) ?_
    refine JL.guardOn rfl rfl rfl (congrArg Value.bool rfl) (JO.ofLO (LO.pure (PO.move (v := .int .i64 n_38) rfl))) ?_
    rintro _ _ ⟨rfl, rfl⟩
    refine JL.guardOn rfl rfl rfl (congrArg Value.bool rfl) (JO.ofLO (LO.pure (PO.move (v := .int .i64 n_38) rfl))) ?_
    rintro _ _ ⟨rfl, rfl⟩
    refine JL.guardOn rfl rfl rfl (congrArg Value.bool rfl) (JO.ofLO (LO.pure (PO.neqI rfl rfl))) ?_
    rintro _ _ ⟨rfl, rfl⟩
    refine JL.pure rfl (PO.pickF (v := .bool (!(decide (n_38 = n_38)))) (congrArg Value.bool rfl) rfl) ?_
    refine JL.pure rfl (PO.move (v := .bool (!(decide (n_38 = n_38)))) rfl) ?_
    refine JL.guardOn rfl rfl rfl (congrArg Value.bool (congrArg Bool.not (decide_eq_true rfl))) (JO.ofLO (LO.loadK 28 (vs := [.slice x_36.a0 m_37.s.length x_36.c0, .slice x_36.a1 m_37.r.length x_36.c1, .slice x_36.a2 m_37.w.length x_36.c2]) rfl rfl Tryz.isAgg32 Tryz.sizeOf32 rfl rfl)) ?_
    rintro _ _ ⟨rfl, rfl⟩
    refine JL.guardOn rfl rfl rfl (congrArg Value.bool (congrArg Bool.not (decide_eq_true rfl))) (JO.ofLO (LO.loadK 24 (vs := [.slice x_43.a0 m_37.s.length x_43.c0, .slice x_43.a1 m_37.r.length x_43.c1, .slice x_43.a2 m_37.w.length x_43.c2]) rfl rfl Tryz.isAgg32 Tryz.sizeOf32 rfl rfl)) ?_
    rintro _ _ ⟨rfl, rfl⟩
    refine JL.guardOn rfl rfl rfl (congrArg Value.bool (congrArg Bool.not (decide_eq_true rfl))) (JO.call [] Tryz.call30 rfl (N_sameMach x_36 x_43 m_37 k_35 (by omega) (by omega)) rfl (fun w hw => ⟨⟨hw.see (i := 29) rfl, hw.see (i := 30) rfl, hw.see (i := 31) rfl⟩, ⟨hw.see (i := 25) rfl, hw.see (i := 26) rfl, hw.see (i := 27) rfl⟩⟩)) ?_
    rintro _ _ ⟨_, ⟨rfl, rfl⟩, rfl⟩
    refine JL.guardOn rfl rfl rfl (congrArg Value.bool (congrArg Bool.not (decide_eq_true rfl))) (JO.ofLO (LO.pure (PO.not rfl))) ?_
    rintro _ _ ⟨rfl, rfl⟩
    refine JL.pure rfl (PO.pickF (v := .bool false) (congrArg Value.bool (congrArg Bool.not (decide_eq_true rfl))) rfl) ?_
    refine JL.pure rfl (PO.move (v := .bool false) rfl) ?_
    refine JL.guardOn rfl rfl rfl (congrArg Value.bool rfl) (JO.ofLO (LO.pure (PO.move (v := .int .i64 n_61) rfl))) ?_
    rintro _ _ ⟨rfl, rfl⟩
    refine JL.guardOn rfl rfl rfl (congrArg Value.bool rfl) (JO.ofLO (LO.pure (PO.move (v := .int .i64 n_61) rfl))) ?_
    rintro _ _ ⟨rfl, rfl⟩
    refine JL.guardOn rfl rfl rfl (congrArg Value.bool rfl) (JO.ofLO (LO.pure (PO.neqI rfl rfl))) ?_
    rintro _ _ ⟨rfl, rfl⟩
    refine JL.pure rfl (PO.pickF (v := .bool (!(decide (n_61 = n_61)))) (congrArg Value.bool rfl) rfl) ?_
    refine JL.pure rfl (PO.move (v := .bool (!(decide (n_61 = n_61)))) rfl) ?_
    refine JL.guardOn rfl rfl rfl (congrArg Value.bool (congrArg Bool.not (decide_eq_true rfl))) (JO.ofLO (LO.loadK 20 (vs := [.slice x_59.a0 m_60.s.length x_59.c0, .slice x_59.a1 m_60.r.length x_59.c1, .slice x_59.a2 m_60.w.length x_59.c2]) rfl rfl Tryz.isAgg32 Tryz.sizeOf32 rfl rfl)) ?_
    rintro _ _ ⟨rfl, rfl⟩
    refine JL.guardOn rfl rfl rfl (congrArg Value.bool (congrArg Bool.not (decide_eq_true rfl))) (JO.ofLO (LO.loadK 16 (vs := [.slice x_66.a0 m_60.s.length x_66.c0, .slice x_66.a1 m_60.r.length x_66.c1, .slice x_66.a2 m_60.w.length x_66.c2]) rfl rfl Tryz.isAgg32 Tryz.sizeOf32 rfl rfl)) ?_
    rintro _ _ ⟨rfl, rfl⟩
    refine JL.guardOn rfl rfl rfl (congrArg Value.bool (congrArg Bool.not (decide_eq_true rfl))) (JO.call [] Tryz.call30 rfl (N_sameMach x_59 x_66 m_60 k_58 (by omega) (by omega)) rfl (fun w hw => ⟨⟨hw.see (i := 21) rfl, hw.see (i := 22) rfl, hw.see (i := 23) rfl⟩, ⟨hw.see (i := 17) rfl, hw.see (i := 18) rfl, hw.see (i := 19) rfl⟩⟩)) ?_
    rintro _ _ ⟨_, ⟨rfl, rfl⟩, rfl⟩
    refine JL.guardOn rfl rfl rfl (congrArg Value.bool (congrArg Bool.not (decide_eq_true rfl))) (JO.ofLO (LO.pure (PO.not rfl))) ?_
    rintro _ _ ⟨rfl, rfl⟩
    refine JL.pure rfl (PO.pickF (v := .bool false) (congrArg Value.bool (congrArg Bool.not (decide_eq_true rfl))) rfl) ?_
    refine JL.pure rfl (PO.move (v := .bool false) rfl) ?_
    refine JL.guardOn rfl rfl rfl (congrArg Value.bool rfl) (JO.ofLO (LO.pure (PO.move (v := str u_84) rfl))) ?_
    rintro _ _ ⟨rfl, rfl⟩
    refine JL.guardOn rfl rfl rfl (congrArg Value.bool rfl) (JO.ofLO (LO.pure (PO.move (v := str u_84) rfl))) ?_
    rintro _ _ ⟨rfl, rfl⟩
    refine JL.guardOn rfl rfl rfl (congrArg Value.bool rfl) (JO.ofLO (LO.pure (PO.neqS rfl rfl))) ?_
    rintro _ _ ⟨rfl, rfl⟩
    refine JL.pure rfl (PO.pickF (v := .bool (!(decide (u_84 = u_84)))) (congrArg Value.bool rfl) rfl) ?_
    refine JL.pure rfl (PO.move (v := .bool (!(decide (u_84 = u_84)))) rfl) ?_
    refine JL.guardOn rfl rfl rfl (congrArg Value.bool (congrArg Bool.not (decide_eq_true rfl))) (JO.ofLO (LO.loadK 12 (vs := [.slice x_82.a0 m_83.s.length x_82.c0, .slice x_82.a1 m_83.r.length x_82.c1, .slice x_82.a2 m_83.w.length x_82.c2]) rfl rfl Tryz.isAgg32 Tryz.sizeOf32 rfl rfl)) ?_
    rintro _ _ ⟨rfl, rfl⟩
    refine JL.guardOn rfl rfl rfl (congrArg Value.bool (congrArg Bool.not (decide_eq_true rfl))) (JO.ofLO (LO.loadK 8 (vs := [.slice x_89.a0 m_83.s.length x_89.c0, .slice x_89.a1 m_83.r.length x_89.c1, .slice x_89.a2 m_83.w.length x_89.c2]) rfl rfl Tryz.isAgg32 Tryz.sizeOf32 rfl rfl)) ?_
    rintro _ _ ⟨rfl, rfl⟩
    refine JL.guardOn rfl rfl rfl (congrArg Value.bool (congrArg Bool.not (decide_eq_true rfl))) (JO.call [] Tryz.call30 rfl (N_sameMach x_82 x_89 m_83 k_81 (by omega) (by omega)) rfl (fun w hw => ⟨⟨hw.see (i := 13) rfl, hw.see (i := 14) rfl, hw.see (i := 15) rfl⟩, ⟨hw.see (i := 9) rfl, hw.see (i := 10) rfl, hw.see (i := 11) rfl⟩⟩)) ?_
    rintro _ _ ⟨_, ⟨rfl, rfl⟩, rfl⟩
    refine JL.guardOn rfl rfl rfl (congrArg Value.bool (congrArg Bool.not (decide_eq_true rfl))) (JO.ofLO (LO.pure (PO.not rfl))) ?_
    rintro _ _ ⟨rfl, rfl⟩
    refine JL.pure rfl (PO.pickF (v := .bool false) (congrArg Value.bool (congrArg Bool.not (decide_eq_true rfl))) rfl) ?_
    refine JL.pure rfl (PO.move (v := .bool false) rfl) ?_
    refine JL.guardOn rfl rfl rfl (congrArg Value.bool rfl) (JO.ofLO (LO.pure (PO.move (v := str u_98) rfl))) ?_
    rintro _ _ ⟨rfl, rfl⟩
    refine JL.guardOn rfl rfl rfl (congrArg Value.bool rfl) (JO.ofLO (LO.pure (PO.move (v := str u_98) rfl))) ?_
    rintro _ _ ⟨rfl, rfl⟩
    refine JL.guardOn rfl rfl rfl (congrArg Value.bool rfl) (JO.ofLO (LO.pure (PO.neqS rfl rfl))) ?_
    rintro _ _ ⟨rfl, rfl⟩
    refine JL.pure rfl (PO.pickF (v := .bool (!(decide (u_98 = u_98)))) (congrArg Value.bool rfl) rfl) ?_
    refine JL.pure rfl (PO.move (v := .bool (!(decide (u_98 = u_98)))) rfl) ?_
    refine JL.guardOn rfl rfl rfl (congrArg Value.bool (congrArg Bool.not (decide_eq_true rfl))) (JO.ofLO (LO.loadK 4 (vs := [.slice x_96.a0 m_97.s.length x_96.c0, .slice x_96.a1 m_97.r.length x_96.c1, .slice x_96.a2 m_97.w.length x_96.c2]) rfl rfl Tryz.isAgg32 Tryz.sizeOf32 rfl rfl)) ?_
    rintro _ _ ⟨rfl, rfl⟩
    refine JL.guardOn rfl rfl rfl (congrArg Value.bool (congrArg Bool.not (decide_eq_true rfl))) (JO.ofLO (LO.loadK 0 (vs := [.slice x_103.a0 m_97.s.length x_103.c0, .slice x_103.a1 m_97.r.length x_103.c1, .slice x_103.a2 m_97.w.length x_103.c2]) rfl rfl Tryz.isAgg32 Tryz.sizeOf32 rfl rfl)) ?_
    rintro _ _ ⟨rfl, rfl⟩
    refine JL.guardOn rfl rfl rfl (congrArg Value.bool (congrArg Bool.not (decide_eq_true rfl))) (JO.call [] Tryz.call30 rfl (N_sameMach x_96 x_103 m_97 k_95 (by omega) (by omega)) rfl (fun w hw => ⟨⟨hw.see (i := 5) rfl, hw.see (i := 6) rfl, hw.see (i := 7) rfl⟩, ⟨hw.see (i := 1) rfl, hw.see (i := 2) rfl, hw.see (i := 3) rfl⟩⟩)) ?_
    rintro _ _ ⟨_, ⟨rfl, rfl⟩, rfl⟩
    refine JL.guardOn rfl rfl rfl (congrArg Value.bool (congrArg Bool.not (decide_eq_true rfl))) (JO.ofLO (LO.pure (PO.not rfl))) ?_
    rintro _ _ ⟨rfl, rfl⟩
    refine JL.pure rfl (PO.pickF (v := .bool false) (congrArg Value.bool (congrArg Bool.not (decide_eq_true rfl))) rfl) ?_
    refine JL.nil ?_
    refine JQ.sub (L' := []) (.cons _ (.cons _ (.cons _ (.cons _ (.cons _ (.cons _ (.cons _ (.cons _ (.cons _ (.cons _ (.cons _ (.cons _ (.cons _ (.cons _ (.cons _ (.cons _ (.cons _ (.cons _ (.cons _ (.cons _ (.cons _ (.cons _ (.cons _ (.cons _ (.cons _ (.cons _ (.cons _ (.cons _ (.cons _ (.cons _ (.cons _ (.cons _ (.cons _ (.cons _ (.cons _ (.cons _ (.cons _ (.cons _ (.cons _ (.cons _ (.slnil))))))))))))))))))))))))))))))))))))))))) ?_
    refine JQ.seq ?_
    refine JC.condF (congrArg Value.bool rfl) ?_
    refine JC.skip ?_
    refine JQ.seq ?_
    refine JC.seq ?_
    refine JC.region ?_
    refine JL.op rfl (JO.call [] Tryz.call36 rfl (D_base) rfl (fun _ _ => trivial)) ?_
    rintro _ _ ⟨_, ⟨x_108, m_109, e_111, k_110, rfl, rfl⟩, rfl⟩
    refine JL.op rfl (JO.call [] Tryz.call25 rfl (P_writeFile x_108 m_109 k_110 (by omega) (by omega) 1 0 [104, 101, 108, 108, 111, 32, 119, 111, 114, 108, 100] (by omega) (by omega) (by decide)) rfl (fun w hw => ⟨⟨hw.see (i := 0) rfl, hw.see (i := 1) rfl, hw.see (i := 2) rfl⟩, hw.hex hlow hpre.2⟩)) ?_
    rintro _ _ ⟨_, ⟨x_114, m_115, n_116, e_112, k_113, f_117, rfl, rfl⟩, rfl⟩
    refine JL.pure rfl (PO.move (v := .tuple #[mv x_114 m_115, .int .i64 n_116]) rfl) ?_
    refine JL.pure rfl (PO.extract (v := mv x_114 m_115) rfl rfl) ?_
    refine JL.pure rfl (PO.extract (v := .int .i64 n_116) rfl rfl) ?_
    refine JL.op rfl (JO.alloc (z := .agg #[.slice none 0 0, .slice none 0 0, .slice none 0 0]) (cs := [.slice none 0 0, .slice none 0 0, .slice none 0 0]) Tryz.zeroValue32 rfl) ?_
    rintro _ _ ⟨b_118, rfl, rfl⟩
    refine JL.op rfl (JO.store 0 (vs := [.slice x_114.a0 m_115.s.length x_114.c0, .slice x_114.a1 m_115.r.length x_114.c1, .slice x_114.a2 m_115.w.length x_114.c2]) (cs' := [.slice x_114.a0 m_115.s.length x_114.c0, .slice x_114.a1 m_115.r.length x_114.c1, .slice x_114.a2 m_115.w.length x_114.c2]) rfl rfl rfl rfl Tryz.sizeOf32 rfl rfl (Nat.le_of_ble_eq_true rfl) rfl) ?_
    rintro _ _ rfl
    refine JL.pure rfl (PO.assign (v := .int .i64 n_116) rfl) ?_
    refine JL.nil ?_
    refine JQ.seq ?_
    refine JC.seq ?_
    refine JC.region ?_
    refine JL.ld rfl (LO.loadK 0 (vs := [.slice x_114.a0 m_115.s.length x_114.c0, .slice x_114.a1 m_115.r.length x_114.c1, .slice x_114.a2 m_115.w.length x_114.c2]) rfl rfl Tryz.isAgg32 Tryz.sizeOf32 rfl rfl) ?_
    refine JL.op rfl (JO.call [] Tryz.call23 rfl (P_cutFile x_114 m_115 k_113 (by omega) (by omega) 1 9 (by omega) (by omega)) rfl (fun w hw => ⟨⟨hw.see (i := 1) rfl, hw.see (i := 2) rfl, hw.see (i := 3) rfl⟩, hw.hex hlow hpre.2⟩)) ?_
    rintro _ _ ⟨_, ⟨x_121, m_122, n_123, e_119, k_120, f_124, rfl, rfl⟩, rfl⟩
    refine JL.pure rfl (PO.move (v := .tuple #[mv x_121 m_122, .int .i64 n_123]) rfl) ?_
    refine JL.pure rfl (PO.extract (v := mv x_121 m_122) rfl rfl) ?_
    refine JL.pure rfl (PO.extract (v := .int .i64 n_123) rfl rfl) ?_
    refine JL.op rfl (JO.alloc (z := .agg #[.slice none 0 0, .slice none 0 0, .slice none 0 0]) (cs := [.slice none 0 0, .slice none 0 0, .slice none 0 0]) Tryz.zeroValue32 rfl) ?_
    rintro _ _ ⟨b_125, rfl, rfl⟩
    refine JL.op rfl (JO.store 0 (vs := [.slice x_121.a0 m_122.s.length x_121.c0, .slice x_121.a1 m_122.r.length x_121.c1, .slice x_121.a2 m_122.w.length x_121.c2]) (cs' := [.slice x_121.a0 m_122.s.length x_121.c0, .slice x_121.a1 m_122.r.length x_121.c1, .slice x_121.a2 m_122.w.length x_121.c2]) rfl rfl rfl rfl Tryz.sizeOf32 rfl rfl (Nat.le_of_ble_eq_true rfl) rfl) ?_
    rintro _ _ rfl
    refine JL.pure rfl (PO.assign (v := .int .i64 n_123) rfl) ?_
    refine JL.nil ?_
    refine JQ.sub (L' := [mb b_125 x_121 m_122, rC x_121.a0 x_121.c0 m_122.s, rS x_121.a1 x_121.c1 m_122.r, rS x_121.a2 x_121.c2 m_122.w]) (.cons_cons _ (.cons_cons _ (.cons_cons _ (.cons_cons _ (.cons _ (.cons _ (.cons _ (.cons _ (.cons _ (.cons _ (.cons _ (.slnil)))))))))))) ?_
    refine JQ.seq ?_
    refine JC.seq ?_
    refine JC.region ?_
    refine JL.ld rfl (LO.loadK 0 (vs := [.slice x_121.a0 m_122.s.length x_121.c0, .slice x_121.a1 m_122.r.length x_121.c1, .slice x_121.a2 m_122.w.length x_121.c2]) rfl rfl Tryz.isAgg32 Tryz.sizeOf32 rfl rfl) ?_
    refine JL.op rfl (JO.call [] Tryz.call96 rfl (P_textOf x_121 m_122 k_120 (by omega) (by omega) 1 (by omega)) rfl (fun w hw => ⟨⟨hw.see (i := 1) rfl, hw.see (i := 2) rfl, hw.see (i := 3) rfl⟩, hw.hex hlow hpre.2⟩)) ?_
    rintro _ _ ⟨_, ⟨x_128, m_129, u_130, e_126, k_127, f_131, rfl, rfl⟩, rfl⟩
    refine JL.pure rfl (PO.move (v := .tuple #[mv x_128 m_129, str u_130]) rfl) ?_
    refine JL.pure rfl (PO.extract (v := mv x_128 m_129) rfl rfl) ?_
    refine JL.pure rfl (PO.extract (v := str u_130) rfl rfl) ?_
    refine JL.op rfl (JO.alloc (z := .agg #[.slice none 0 0, .slice none 0 0, .slice none 0 0]) (cs := [.slice none 0 0, .slice none 0 0, .slice none 0 0]) Tryz.zeroValue32 rfl) ?_
    rintro _ _ ⟨b_132, rfl, rfl⟩
    refine JL.op rfl (JO.store 0 (vs := [.slice x_128.a0 m_129.s.length x_128.c0, .slice x_128.a1 m_129.r.length x_128.c1, .slice x_128.a2 m_129.w.length x_128.c2]) (cs' := [.slice x_128.a0 m_129.s.length x_128.c0, .slice x_128.a1 m_129.r.length x_128.c1, .slice x_128.a2 m_129.w.length x_128.c2]) rfl rfl rfl rfl Tryz.sizeOf32 rfl rfl (Nat.le_of_ble_eq_true rfl) rfl) ?_
    rintro _ _ rfl
    refine JL.pure rfl (PO.assign (v := str u_130) rfl) ?_
    refine JL.nil ?_
    refine JQ.seq ?_
    refine JC.seq ?_
    refine JC.region ?_
    refine JL.pure rfl (PO.move (v := .int .i64 n_123) rfl) ?_
    refine JL.pure rfl (PO.eqlI rfl rfl) ?_
    refine JL.pure rfl (PO.move (v := .bool (decide (n_123 = 0))) rfl) ?_
    by_cases h_133 : n_123 = 0
    · skip
      refine JL.guardOn rfl rfl rfl (congrArg Value.bool (decide_eq_true h_133)) (JO.ofLO (LO.pure (PO.move (v := str u_130) rfl))) ?_
      rintro _ _ ⟨rfl, rfl⟩
      refine JL.guardOn rfl rfl rfl (congrArg Value.bool (decide_eq_true h_133)) (JO.ofLO (LO.pure (PO.eqlS rfl rfl))) ?_
      rintro _ _ ⟨rfl, rfl⟩
      refine JL.pure rfl (PO.pickT (v := .bool (decide (u_130 = [104, 101, 108, 108, 111, 32, 119, 111, 114]))) (congrArg Value.bool (decide_eq_true h_133)) rfl) ?_
      refine JL.pure rfl (PO.move (v := .bool (decide (u_130 = [104, 101, 108, 108, 111, 32, 119, 111, 114]))) rfl) ?_
      by_cases h_134 : u_130 = [104, 101, 108, 108, 111, 32, 119, 111, 114]
      · skip
        refine JL.guardOn rfl rfl rfl (congrArg Value.bool (decide_eq_true h_134)) (JO.ofLO (LO.pure (PO.fieldAddr fo32_0 rfl))) ?_
        rintro _ _ ⟨rfl, rfl⟩
        refine JL.guardOn rfl rfl rfl (congrArg Value.bool (decide_eq_true h_134)) (JO.ofLO (LO.load1 4 (v := .slice x_121.a0 m_122.s.length x_121.c0) rfl rfl Tryz.isAgg29 rfl)) ?_
        rintro _ _ ⟨rfl, rfl⟩
        refine JL.guardOn rfl rfl rfl (congrArg Value.bool (decide_eq_true h_134)) (JO.call [] Tryz.call44 rfl (N_skeysUnder x_121.a0 x_121.c0 m_122.s [105, 47, 49, 47, 98, 47] (by have hl_ := k_120.1; omega) (by decide) (fun j hj => Nat.le_trans (k_120.2.2.2 _ (getD_mem hj)).1 (by decide))) rfl (fun w hw => hw.see (i := 5) rfl)) ?_
        rintro _ _ ⟨_, ⟨l_137a, l_137c, l_137, e_135, f_138, rfl, rfl⟩, rfl⟩
        refine JL.guardOn rfl rfl rfl (congrArg Value.bool (decide_eq_true h_134)) (JO.ofLO (LO.pure (PO.lenV Tryz.underlying23 rfl))) ?_
        rintro _ _ ⟨rfl, rfl⟩
        refine JL.guardOn rfl rfl rfl (congrArg Value.bool (decide_eq_true h_134)) (JO.ofLO (LO.pure (PO.eqlI rfl rfl))) ?_
        rintro _ _ ⟨rfl, rfl⟩
        refine JL.pure rfl (PO.pickT (v := .bool (decide (((l_137.length : Nat) : Int) = 2))) (congrArg Value.bool (decide_eq_true h_134)) rfl) ?_
        refine JL.pure rfl (PO.assign (v := .bool (decide (((l_137.length : Nat) : Int) = 2))) rfl) ?_
        refine JL.nil ?_
        refine JQ.sub (L' := []) (.cons _ (.cons _ (.cons _ (.cons _ (.cons _ (.cons _ (.cons _ (.cons _ (.cons _ (.slnil)))))))))) ?_
        refine JQ.seq ?_
        refine JC.ret ?_
        refine Done.one (.inl rfl) rfl (RV.tmp (v := .bool (decide (((l_137.length : Nat) : Int) = 2))) rfl) (List.nil_sublist _) ?_
        obtain ⟨hb1, hb2, hb3⟩ := pl_cut e_111 e_112 e_119 e_126 e_135
        refine ⟨congrArg Value.bool ?_, rfl⟩
        simp only [decide_eq_true_eq]
        first | omega | assumption | simp_all
      · skip
        refine JL.guardOff (b := false) rfl rfl rfl (congrArg Value.bool (decide_eq_false h_134)) ?_
        refine JL.guardOff (b := false) rfl rfl rfl (congrArg Value.bool (decide_eq_false h_134)) ?_
        refine JL.guardOff (b := false) rfl rfl rfl (congrArg Value.bool (decide_eq_false h_134)) ?_
        refine JL.guardOff (b := false) rfl rfl rfl (congrArg Value.bool (decide_eq_false h_134)) ?_
        refine JL.guardOff (b := false) rfl rfl rfl (congrArg Value.bool (decide_eq_false h_134)) ?_
        refine JL.pure rfl (PO.pickF (v := .bool false) (congrArg Value.bool (decide_eq_false h_134)) rfl) ?_
        refine JL.pure rfl (PO.assign (v := .bool false) rfl) ?_
        refine JL.nil ?_
        refine JQ.sub (L' := []) (.cons _ (.cons _ (.cons _ (.cons _ (.cons _ (.cons _ (.cons _ (.cons _ (.slnil))))))))) ?_
        refine JQ.seq ?_
        refine JC.ret ?_
        refine Done.one (.inl rfl) rfl (RV.tmp (v := .bool false) rfl) (List.nil_sublist _) ?_
        obtain ⟨hb1, hb2⟩ := pl_cut0 e_111 e_112 e_119 e_126
        exfalso
        first | omega | contradiction | simp_all
    · skip
      refine JL.guardOff (b := false) rfl rfl rfl (congrArg Value.bool (decide_eq_false h_133)) ?_
      refine JL.guardOff (b := false) rfl rfl rfl (congrArg Value.bool (decide_eq_false h_133)) ?_
      refine JL.pure rfl (PO.pickF (v := .bool false) (congrArg Value.bool (decide_eq_false h_133)) rfl) ?_
      refine JL.pure rfl (PO.move (v := .bool false) rfl) ?_
      refine JL.guardOff (b := false) rfl rfl rfl (congrArg Value.bool rfl) ?_
      refine JL.guardOff (b := false) rfl rfl rfl (congrArg Value.bool rfl) ?_
      refine JL.guardOff (b := false) rfl rfl rfl (congrArg Value.bool rfl) ?_
      refine JL.guardOff (b := false) rfl rfl rfl (congrArg Value.bool rfl) ?_
      refine JL.guardOff (b := false) rfl rfl rfl (congrArg Value.bool rfl) ?_
      refine JL.pure rfl (PO.pickF (v := .bool false) (congrArg Value.bool rfl) rfl) ?_
      refine JL.pure rfl (PO.assign (v := .bool false) rfl) ?_
      refine JL.nil ?_
      refine JQ.sub (L' := []) (.cons _ (.cons _ (.cons _ (.cons _ (.cons _ (.cons _ (.cons _ (.cons _ (.slnil))))))))) ?_
      refine JQ.seq ?_
      refine JC.ret ?_
      refine Done.one (.inl rfl) rfl (RV.tmp (v := .bool false) rfl) (List.nil_sublist _) ?_
      obtain ⟨hb1, hb2⟩ := pl_cut0 e_111 e_112 e_119 e_126
      exfalso
      first | omega | contradiction | simp_all

end Go.Proofs.YtenfajgpdhgknaaGreatDoor
