/-
  A law that draws, walked: it says yes at every row of bytes.
-/
import Derived.Test.YtenfajgpdhgknaaGreatDoorS18HEX
import Derived.Test.YtenfajgpdhgknaaGreatDoorS26DRAWN
set_option linter.unusedSimpArgs false
set_option linter.unusedVariables false
set_option linter.unnecessarySimpa false
set_option maxRecDepth 8000
namespace Go.Proofs.YtenfajgpdhgknaaGreatDoor
open Go Go.RowKit
attribute [local irreducible] JL JC JQ JO LO PO JA JX Ct

set_option maxHeartbeats 1600000 in
theorem L_Pipes (pa : Option Addr) (pc : Nat) (p : Str) :
    Ct Tryz.prog 9 [.slice pa p.length pc] [] (fun w => Sees w (.slice pa p.length pc) 1 p.length (p.map encB) ∧ HexOk w) (fun v A' => v = .bool true ∧ A' = []) := by
  refine Ct.introL Tryz.func9 rfl Tryz.ntmps9 (Nat.le_of_ble_eq_true rfl) fun w0 hpre hlow => ?_
  have hs_pa : Sees w0 _ _ _ _ := hpre.1
  refine JC.seq ?_
  refine JC.region ?_
  refine JL.pure rfl (PO.assign (v := .bool false) rfl) ?_
  refine JL.nil ?_
  refine JQ.seq ?_
  refine JC.seq ?_
  refine JC.seq ?_
  refine JC.region ?_
  refine JL.pure rfl (PO.move (v := .slice pa p.length pc) rfl) ?_
  refine JL.op rfl (JO.call [] Tryz.call26 rfl (N_big pa pc p) rfl (fun _ _ => trivial)) ?_
  rintro _ _ ⟨_, ⟨rfl, rfl⟩, rfl⟩
  refine JL.nil ?_
  refine JQ.seq ?_
  by_cases h_1 : 1048576 < ((p.length : Nat) : Int)
  · skip
    refine JC.condT (congrArg Value.bool (decide_eq_true h_1)) ?_
    refine JC.seq ?_
    refine JC.region ?_
    refine JL.pure rfl (PO.assign (v := .bool true) rfl) ?_
    refine JL.nil ?_
    refine JQ.seq ?_
    refine JC.ret ?_
    refine JQ.thenRet ?_
    refine Done.one (.inl rfl) rfl (RV.tmp (v := .bool true) rfl) (List.nil_sublist _) ?_
    exact ⟨rfl, rfl⟩
  · skip
    refine JC.condF (congrArg Value.bool (decide_eq_false h_1)) ?_
    refine JC.skip ?_
    refine JQ.seq ?_
    refine JC.seq ?_
    refine JC.region ?_
    refine JL.pure rfl (PO.move (v := .slice pa p.length pc) rfl) ?_
    refine JL.op rfl (JO.call [] Tryz.call52 rfl (D_dPutPipe pa pc p (by omega)) rfl (fun w hw => hw.seeOut_ hs_pa (fun _ _ => List.not_mem_nil))) ?_
    rintro _ _ ⟨_, ⟨x_2, m_3, n_5, u_7, k_4, f_6, f_8, rfl, rfl⟩, rfl⟩
    refine JL.pure rfl (PO.move (v := .tuple #[mv x_2 m_3, .int .i64 n_5, str u_7]) rfl) ?_
    refine JL.pure rfl (PO.extract (v := mv x_2 m_3) rfl rfl) ?_
    refine JL.pure rfl (PO.extract (v := .int .i64 n_5) rfl rfl) ?_
    refine JL.pure rfl (PO.extract (v := str u_7) rfl rfl) ?_
    refine JL.op rfl (JO.alloc (z := .agg #[.slice none 0 0, .slice none 0 0, .slice none 0 0]) (cs := [.slice none 0 0, .slice none 0 0, .slice none 0 0]) Tryz.zeroValue32 rfl) ?_
    rintro _ _ ⟨b_10, rfl, rfl⟩
    refine JL.op rfl (JO.store 0 (vs := [.slice x_2.a0 m_3.s.length x_2.c0, .slice x_2.a1 m_3.r.length x_2.c1, .slice x_2.a2 m_3.w.length x_2.c2]) (cs' := [.slice x_2.a0 m_3.s.length x_2.c0, .slice x_2.a1 m_3.r.length x_2.c1, .slice x_2.a2 m_3.w.length x_2.c2]) rfl rfl rfl rfl Tryz.sizeOf32 rfl rfl (Nat.le_of_ble_eq_true rfl) rfl) ?_
    rintro _ _ rfl
    refine JL.pure rfl (PO.assign (v := .int .i64 n_5) rfl) ?_
    refine JL.pure rfl (PO.assign (v := str u_7) rfl) ?_
    refine JL.nil ?_
    refine JQ.seq ?_
    refine JC.seq ?_
    refine JC.region ?_
    refine JL.ld rfl (LO.loadK 0 (vs := [.slice x_2.a0 m_3.s.length x_2.c0, .slice x_2.a1 m_3.r.length x_2.c1, .slice x_2.a2 m_3.w.length x_2.c2]) rfl rfl Tryz.isAgg32 Tryz.sizeOf32 rfl rfl) ?_
    refine JL.pure rfl (PO.move (v := .int .i64 n_5) rfl) ?_
    refine JL.pure rfl (PO.move (v := str u_7) rfl) ?_
    refine JL.op rfl (JO.call [] Tryz.call53 rfl (P_putPipe x_2 m_3 k_4 (by omega) (by omega) n_5 u_7 (by omega) (by omega)) rfl (fun w hw => ⟨hw.see (i := 1) rfl, hw.see (i := 2) rfl, hw.see (i := 3) rfl⟩)) ?_
    rintro _ _ ⟨_, ⟨x_13, m_14, n_15, e_11, k_12, f_16, rfl, rfl⟩, rfl⟩
    refine JL.pure rfl (PO.move (v := .tuple #[mv x_13 m_14, .int .i64 n_15]) rfl) ?_
    refine JL.pure rfl (PO.extract (v := mv x_13 m_14) rfl rfl) ?_
    refine JL.pure rfl (PO.extract (v := .int .i64 n_15) rfl rfl) ?_
    refine JL.op rfl (JO.alloc (z := .agg #[.slice none 0 0, .slice none 0 0, .slice none 0 0]) (cs := [.slice none 0 0, .slice none 0 0, .slice none 0 0]) Tryz.zeroValue32 rfl) ?_
    rintro _ _ ⟨b_17, rfl, rfl⟩
    refine JL.op rfl (JO.store 0 (vs := [.slice x_13.a0 m_14.s.length x_13.c0, .slice x_13.a1 m_14.r.length x_13.c1, .slice x_13.a2 m_14.w.length x_13.c2]) (cs' := [.slice x_13.a0 m_14.s.length x_13.c0, .slice x_13.a1 m_14.r.length x_13.c1, .slice x_13.a2 m_14.w.length x_13.c2]) rfl rfl rfl rfl Tryz.sizeOf32 rfl rfl (Nat.le_of_ble_eq_true rfl) rfl) ?_
    rintro _ _ rfl
    refine JL.pure rfl (PO.assign (v := .int .i64 n_15) rfl) ?_
    refine JL.nil ?_
    refine JQ.seq ?_
    refine JC.seq ?_
    refine JC.region ?_
    refine JL.ld rfl (LO.loadK 4 (vs := [.slice x_2.a0 m_3.s.length x_2.c0, .slice x_2.a1 m_3.r.length x_2.c1, .slice x_2.a2 m_3.w.length x_2.c2]) rfl rfl Tryz.isAgg32 Tryz.sizeOf32 rfl rfl) ?_
    refine JL.pure rfl (PO.move (v := .int .i64 n_5) rfl) ?_
    refine JL.pure rfl (PO.move (v := str u_7) rfl) ?_
    refine JL.op rfl (JO.call [] Tryz.call54 rfl (Q_putPipe x_2 m_3 k_4 (by omega) (by omega) n_5 u_7 (by omega) (by omega)) rfl (fun w hw => ⟨hw.see (i := 5) rfl, hw.see (i := 6) rfl, hw.see (i := 7) rfl⟩)) ?_
    rintro _ _ ⟨_, ⟨x_20, m_21, n_22, e_18, k_19, f_23, rfl, rfl⟩, rfl⟩
    have hqe_18 := e_11.symm.trans e_18
    simp only [Prod.mk.injEq] at hqe_18
    obtain ⟨rfl, rfl⟩ := hqe_18
    refine JL.pure rfl (PO.move (v := .tuple #[mv x_20 m_14, .int .i64 n_15]) rfl) ?_
    refine JL.pure rfl (PO.extract (v := mv x_20 m_14) rfl rfl) ?_
    refine JL.pure rfl (PO.extract (v := .int .i64 n_15) rfl rfl) ?_
    refine JL.op rfl (JO.alloc (z := .agg #[.slice none 0 0, .slice none 0 0, .slice none 0 0]) (cs := [.slice none 0 0, .slice none 0 0, .slice none 0 0]) Tryz.zeroValue32 rfl) ?_
    rintro _ _ ⟨b_24, rfl, rfl⟩
    refine JL.op rfl (JO.store 0 (vs := [.slice x_20.a0 m_14.s.length x_20.c0, .slice x_20.a1 m_14.r.length x_20.c1, .slice x_20.a2 m_14.w.length x_20.c2]) (cs' := [.slice x_20.a0 m_14.s.length x_20.c0, .slice x_20.a1 m_14.r.length x_20.c1, .slice x_20.a2 m_14.w.length x_20.c2]) rfl rfl rfl rfl Tryz.sizeOf32 rfl rfl (Nat.le_of_ble_eq_true rfl) rfl) ?_
    rintro _ _ rfl
    refine JL.pure rfl (PO.assign (v := .int .i64 n_15) rfl) ?_
    refine JL.nil ?_
    refine JQ.seq ?_
    refine JC.seq ?_
    refine JC.region ?_
    refine JL.pure rfl (PO.move (v := .slice pa p.length pc) rfl) ?_
    refine JL.op rfl (JO.call [] Tryz.call55 rfl (D_dTakePipe pa pc p (by omega)) rfl (fun w hw => hw.seeOut_ hs_pa (fun _ _ => List.not_mem_nil))) ?_
    rintro _ _ ⟨_, ⟨x_25, m_26, n_28, k_27, f_29, rfl, rfl⟩, rfl⟩
    refine JL.pure rfl (PO.move (v := .tuple #[mv x_25 m_26, .int .i64 n_28]) rfl) ?_
    refine JL.pure rfl (PO.extract (v := mv x_25 m_26) rfl rfl) ?_
    refine JL.pure rfl (PO.extract (v := .int .i64 n_28) rfl rfl) ?_
    refine JL.op rfl (JO.alloc (z := .agg #[.slice none 0 0, .slice none 0 0, .slice none 0 0]) (cs := [.slice none 0 0, .slice none 0 0, .slice none 0 0]) Tryz.zeroValue32 rfl) ?_
    rintro _ _ ⟨b_31, rfl, rfl⟩
    refine JL.op rfl (JO.store 0 (vs := [.slice x_25.a0 m_26.s.length x_25.c0, .slice x_25.a1 m_26.r.length x_25.c1, .slice x_25.a2 m_26.w.length x_25.c2]) (cs' := [.slice x_25.a0 m_26.s.length x_25.c0, .slice x_25.a1 m_26.r.length x_25.c1, .slice x_25.a2 m_26.w.length x_25.c2]) rfl rfl rfl rfl Tryz.sizeOf32 rfl rfl (Nat.le_of_ble_eq_true rfl) rfl) ?_
    rintro _ _ rfl
    refine JL.pure rfl (PO.assign (v := .int .i64 n_28) rfl) ?_
    refine JL.nil ?_
    refine JQ.seq ?_
    refine JC.seq ?_
    refine JC.region ?_
    refine JL.ld rfl (LO.loadK 0 (vs := [.slice x_25.a0 m_26.s.length x_25.c0, .slice x_25.a1 m_26.r.length x_25.c1, .slice x_25.a2 m_26.w.length x_25.c2]) rfl rfl Tryz.isAgg32 Tryz.sizeOf32 rfl rfl) ?_
    refine JL.pure rfl (PO.move (v := .int .i64 n_28) rfl) ?_
    refine JL.op rfl (JO.call [] Tryz.call18 rfl (P_takePipe x_25 m_26 k_27 (by omega) (by omega) n_28 (by omega)) rfl (fun w hw => ⟨⟨hw.see (i := 1) rfl, hw.see (i := 2) rfl, hw.see (i := 3) rfl⟩, hw.hex hlow hpre.2⟩)) ?_
    rintro _ _ ⟨_, ⟨x_34, m_35, u_36, n_38, e_32, k_33, f_37, f_39, rfl, rfl⟩, rfl⟩
    refine JL.pure rfl (PO.move (v := .tuple #[mv x_34 m_35, str u_36, .int .i64 n_38]) rfl) ?_
    refine JL.pure rfl (PO.extract (v := mv x_34 m_35) rfl rfl) ?_
    refine JL.pure rfl (PO.extract (v := str u_36) rfl rfl) ?_
    refine JL.pure rfl (PO.extract (v := .int .i64 n_38) rfl rfl) ?_
    refine JL.op rfl (JO.alloc (z := .agg #[.slice none 0 0, .slice none 0 0, .slice none 0 0]) (cs := [.slice none 0 0, .slice none 0 0, .slice none 0 0]) Tryz.zeroValue32 rfl) ?_
    rintro _ _ ⟨b_40, rfl, rfl⟩
    refine JL.op rfl (JO.store 0 (vs := [.slice x_34.a0 m_35.s.length x_34.c0, .slice x_34.a1 m_35.r.length x_34.c1, .slice x_34.a2 m_35.w.length x_34.c2]) (cs' := [.slice x_34.a0 m_35.s.length x_34.c0, .slice x_34.a1 m_35.r.length x_34.c1, .slice x_34.a2 m_35.w.length x_34.c2]) rfl rfl rfl rfl Tryz.sizeOf32 rfl rfl (Nat.le_of_ble_eq_true rfl) rfl) ?_
    rintro _ _ rfl
    refine JL.pure rfl (PO.assign (v := str u_36) rfl) ?_
    refine JL.pure rfl (PO.assign (v := .int .i64 n_38) rfl) ?_
    refine JL.nil ?_
    refine JQ.seq ?_
    refine JC.seq ?_
    refine JC.region ?_
    refine JL.ld rfl (LO.loadK 4 (vs := [.slice x_25.a0 m_26.s.length x_25.c0, .slice x_25.a1 m_26.r.length x_25.c1, .slice x_25.a2 m_26.w.length x_25.c2]) rfl rfl Tryz.isAgg32 Tryz.sizeOf32 rfl rfl) ?_
    refine JL.pure rfl (PO.move (v := .int .i64 n_28) rfl) ?_
    refine JL.op rfl (JO.call [] Tryz.call16 rfl (Q_takePipe x_25 m_26 k_27 (by omega) (by omega) n_28 (by omega)) rfl (fun w hw => ⟨hw.see (i := 5) rfl, hw.see (i := 6) rfl, hw.see (i := 7) rfl⟩)) ?_
    rintro _ _ ⟨_, ⟨x_43, m_44, u_45, n_47, e_41, k_42, f_46, f_48, rfl, rfl⟩, rfl⟩
    have hqe_41 := e_32.symm.trans e_41
    simp only [Prod.mk.injEq] at hqe_41
    obtain ⟨rfl, rfl, rfl⟩ := hqe_41
    refine JL.pure rfl (PO.move (v := .tuple #[mv x_43 m_35, str u_36, .int .i64 n_38]) rfl) ?_
    refine JL.pure rfl (PO.extract (v := mv x_43 m_35) rfl rfl) ?_
    refine JL.pure rfl (PO.extract (v := str u_36) rfl rfl) ?_
    refine JL.pure rfl (PO.extract (v := .int .i64 n_38) rfl rfl) ?_
    refine JL.op rfl (JO.alloc (z := .agg #[.slice none 0 0, .slice none 0 0, .slice none 0 0]) (cs := [.slice none 0 0, .slice none 0 0, .slice none 0 0]) Tryz.zeroValue32 rfl) ?_
    rintro _ _ ⟨b_49, rfl, rfl⟩
    refine JL.op rfl (JO.store 0 (vs := [.slice x_43.a0 m_35.s.length x_43.c0, .slice x_43.a1 m_35.r.length x_43.c1, .slice x_43.a2 m_35.w.length x_43.c2]) (cs' := [.slice x_43.a0 m_35.s.length x_43.c0, .slice x_43.a1 m_35.r.length x_43.c1, .slice x_43.a2 m_35.w.length x_43.c2]) rfl rfl rfl rfl Tryz.sizeOf32 rfl rfl (Nat.le_of_ble_eq_true rfl) rfl) ?_
    rintro _ _ rfl
    refine JL.pure rfl (PO.assign (v := str u_36) rfl) ?_
    refine JL.pure rfl (PO.assign (v := .int .i64 n_38) rfl) ?_
    refine JL.nil ?_
    refine JQ.seq ?_
    refine JC.seq ?_
    refine JC.region ?_
    refine JL.pure rfl (PO.move (v := .slice pa p.length pc) rfl) ?_
    refine JL.op rfl (JO.call [] Tryz.call56 rfl (D_dMakePipe pa pc p (by omega)) rfl (fun w hw => hw.seeOut_ hs_pa (fun _ _ => List.not_mem_nil))) ?_
    rintro _ _ ⟨_, ⟨x_50, m_51, k_52, rfl, rfl⟩, rfl⟩
    refine JL.op rfl (JO.alloc (z := .agg #[.slice none 0 0, .slice none 0 0, .slice none 0 0]) (cs := [.slice none 0 0, .slice none 0 0, .slice none 0 0]) Tryz.zeroValue32 rfl) ?_
    rintro _ _ ⟨b_54, rfl, rfl⟩
    refine JL.op rfl (JO.store 0 (vs := [.slice x_50.a0 m_51.s.length x_50.c0, .slice x_50.a1 m_51.r.length x_50.c1, .slice x_50.a2 m_51.w.length x_50.c2]) (cs' := [.slice x_50.a0 m_51.s.length x_50.c0, .slice x_50.a1 m_51.r.length x_50.c1, .slice x_50.a2 m_51.w.length x_50.c2]) rfl rfl rfl rfl Tryz.sizeOf32 rfl rfl (Nat.le_of_ble_eq_true rfl) rfl) ?_
    rintro _ _ rfl
    refine JL.nil ?_
    refine JQ.seq ?_
    refine JC.seq ?_
    refine JC.region ?_
    refine JL.ld rfl (LO.loadK 0 (vs := [.slice x_50.a0 m_51.s.length x_50.c0, .slice x_50.a1 m_51.r.length x_50.c1, .slice x_50.a2 m_51.w.length x_50.c2]) rfl rfl Tryz.isAgg32 Tryz.sizeOf32 rfl rfl) ?_
    refine JL.op rfl (JO.call [] Tryz.call57 rfl (P_makePipe x_50 m_51 k_52 (by omega) (by omega)) rfl (fun w hw => ⟨hw.see (i := 1) rfl, hw.see (i := 2) rfl, hw.see (i := 3) rfl⟩)) ?_
    rintro _ _ ⟨_, ⟨x_57, m_58, n_59, n_61, e_55, k_56, f_60, f_62, rfl, rfl⟩, rfl⟩
    refine JL.pure rfl (PO.move (v := .tuple #[mv x_57 m_58, .int .i64 n_59, .int .i64 n_61]) rfl) ?_
    refine JL.pure rfl (PO.extract (v := mv x_57 m_58) rfl rfl) ?_
    refine JL.pure rfl (PO.extract (v := .int .i64 n_59) rfl rfl) ?_
    refine JL.pure rfl (PO.extract (v := .int .i64 n_61) rfl rfl) ?_
    refine JL.op rfl (JO.alloc (z := .agg #[.slice none 0 0, .slice none 0 0, .slice none 0 0]) (cs := [.slice none 0 0, .slice none 0 0, .slice none 0 0]) Tryz.zeroValue32 rfl) ?_
    rintro _ _ ⟨b_63, rfl, rfl⟩
    refine JL.op rfl (JO.store 0 (vs := [.slice x_57.a0 m_58.s.length x_57.c0, .slice x_57.a1 m_58.r.length x_57.c1, .slice x_57.a2 m_58.w.length x_57.c2]) (cs' := [.slice x_57.a0 m_58.s.length x_57.c0, .slice x_57.a1 m_58.r.length x_57.c1, .slice x_57.a2 m_58.w.length x_57.c2]) rfl rfl rfl rfl Tryz.sizeOf32 rfl rfl (Nat.le_of_ble_eq_true rfl) rfl) ?_
    rintro _ _ rfl
    refine JL.pure rfl (PO.assign (v := .int .i64 n_59) rfl) ?_
    refine JL.pure rfl (PO.assign (v := .int .i64 n_61) rfl) ?_
    refine JL.nil ?_
    refine JQ.seq ?_
    refine JC.seq ?_
    refine JC.region ?_
    refine JL.ld rfl (LO.loadK 4 (vs := [.slice x_50.a0 m_51.s.length x_50.c0, .slice x_50.a1 m_51.r.length x_50.c1, .slice x_50.a2 m_51.w.length x_50.c2]) rfl rfl Tryz.isAgg32 Tryz.sizeOf32 rfl rfl) ?_
    refine JL.op rfl (JO.call [] Tryz.call58 rfl (Q_makePipe x_50 m_51 k_52 (by omega) (by omega)) rfl (fun w hw => ⟨hw.see (i := 5) rfl, hw.see (i := 6) rfl, hw.see (i := 7) rfl⟩)) ?_
    rintro _ _ ⟨_, ⟨x_66, m_67, n_68, n_70, e_64, k_65, f_69, f_71, rfl, rfl⟩, rfl⟩
    have hqe_64 := e_55.symm.trans e_64
    simp only [Prod.mk.injEq] at hqe_64
    obtain ⟨rfl, rfl, rfl⟩ := hqe_64
    refine JL.pure rfl (PO.move (v := .tuple #[mv x_66 m_58, .int .i64 n_59, .int .i64 n_61]) rfl) ?_
    refine JL.pure rfl (PO.extract (v := mv x_66 m_58) rfl rfl) ?_
    refine JL.pure rfl (PO.extract (v := .int .i64 n_59) rfl rfl) ?_
    refine JL.pure rfl (PO.extract (v := .int .i64 n_61) rfl rfl) ?_
    refine JL.op rfl (JO.alloc (z := .agg #[.slice none 0 0, .slice none 0 0, .slice none 0 0]) (cs := [.slice none 0 0, .slice none 0 0, .slice none 0 0]) Tryz.zeroValue32 rfl) ?_
    rintro _ _ ⟨b_72, rfl, rfl⟩
    refine JL.op rfl (JO.store 0 (vs := [.slice x_66.a0 m_58.s.length x_66.c0, .slice x_66.a1 m_58.r.length x_66.c1, .slice x_66.a2 m_58.w.length x_66.c2]) (cs' := [.slice x_66.a0 m_58.s.length x_66.c0, .slice x_66.a1 m_58.r.length x_66.c1, .slice x_66.a2 m_58.w.length x_66.c2]) rfl rfl rfl rfl Tryz.sizeOf32 rfl rfl (Nat.le_of_ble_eq_true rfl) rfl) ?_
    rintro _ _ rfl
    refine JL.pure rfl (PO.assign (v := .int .i64 n_59) rfl) ?_
    refine JL.pure rfl (PO.assign (v := .int .i64 n_61) rfl) ?_
    refine JL.nil ?_
    refine JQ.sub (L' := [mb b_72 x_66 m_58, rC x_66.a0 x_66.c0 m_58.s, rS x_66.a1 x_66.c1 m_58.r, rS x_66.a2 x_66.c2 m_58.w, mb b_63 x_57 m_58, rC x_57.a0 x_57.c0 m_58.s, rS x_57.a1 x_57.c1 m_58.r, rS x_57.a2 x_57.c2 m_58.w, mb b_49 x_43 m_35, rC x_43.a0 x_43.c0 m_35.s, rS x_43.a1 x_43.c1 m_35.r, rS x_43.a2 x_43.c2 m_35.w, mb b_40 x_34 m_35, rC x_34.a0 x_34.c0 m_35.s, rS x_34.a1 x_34.c1 m_35.r, rS x_34.a2 x_34.c2 m_35.w, mb b_31 x_25 m_26, rC x_25.a0 x_25.c0 m_26.s, rS x_25.a1 x_25.c1 m_26.r, rS x_25.a2 x_25.c2 m_26.w, mb b_24 x_20 m_14, rC x_20.a0 x_20.c0 m_14.s, rS x_20.a1 x_20.c1 m_14.r, rS x_20.a2 x_20.c2 m_14.w, mb b_17 x_13 m_14, rC x_13.a0 x_13.c0 m_14.s, rS x_13.a1 x_13.c1 m_14.r, rS x_13.a2 x_13.c2 m_14.w]) (.cons_cons _ (.cons_cons _ (.cons_cons _ (.cons_cons _ (.cons_cons _ (.cons_cons _ (.cons_cons _ (.cons_cons _ (.cons _ (.cons _ (.cons _ (.cons _ (.cons_cons _ (.cons_cons _ (.cons_cons _ (.cons_cons _ (.cons_cons _ (.cons_cons _ (.cons_cons _ (.cons_cons _ (.cons_cons _ (.cons_cons _ (.cons_cons _ (.cons_cons _ (.cons_cons _ (.cons_cons _ (.cons_cons _ (.cons_cons _ (.cons_cons _ (.cons_cons _ (.cons_cons _ (.cons_cons _ (.cons _ (.cons _ (.cons _ (.cons _ (.slnil))))))))))))))))))))))))))))))))))))) ?_
    refine JQ.seq ?_
    refine JC.seq ?_
    refine JC.seq ?_
    refine JC.region ?_
    refine JL.pure rfl (PO.move (v := .int .i64 n_15) rfl) ?_
    refine JL.pure rfl (PO.move (v := .int .i64 n_15) rfl) ?_
    refine JL.pure rfl (PO.neqI rfl rfl) ?_
    refine JL.pure rfl (PO.move (v := .bool (!(decide (n_15 = n_15)))) rfl) ?_
    refine JL.guardOn rfl rfl rfl (congrArg Value.bool (congrArg Bool.not (decide_eq_true rfl))) (JO.ofLO (LO.loadK 24 (vs := [.slice x_13.a0 m_14.s.length x_13.c0, .slice x_13.a1 m_14.r.length x_13.c1, .slice x_13.a2 m_14.w.length x_13.c2]) rfl rfl Tryz.isAgg32 Tryz.sizeOf32 rfl rfl)) ?_
    rintro _ _ ⟨rfl, rfl⟩
    refine JL.guardOn rfl rfl rfl (congrArg Value.bool (congrArg Bool.not (decide_eq_true rfl))) (JO.ofLO (LO.loadK 20 (vs := [.slice x_20.a0 m_14.s.length x_20.c0, .slice x_20.a1 m_14.r.length x_20.c1, .slice x_20.a2 m_14.w.length x_20.c2]) rfl rfl Tryz.isAgg32 Tryz.sizeOf32 rfl rfl)) ?_
    rintro _ _ ⟨rfl, rfl⟩
    refine JL.guardOn rfl rfl rfl (congrArg Value.bool (congrArg Bool.not (decide_eq_true rfl))) (JO.call [] Tryz.call30 rfl (N_sameMach x_13 x_20 m_14 k_12 (by omega) (by omega)) rfl (fun w hw => ⟨⟨hw.see (i := 25) rfl, hw.see (i := 26) rfl, hw.see (i := 27) rfl⟩, ⟨hw.see (i := 21) rfl, hw.see (i := 22) rfl, hw.see (i := 23) rfl⟩⟩)) ?_
    rintro _ _ ⟨_, ⟨rfl, rfl⟩, rfl⟩
    refine JL.guardOn rfl rfl rfl (congrArg Value.bool (congrArg Bool.not (decide_eq_true rfl))) (JO.ofLO (LO.pure (PO.not rfl))) ?_
    rintro _ _ ⟨rfl, rfl⟩
    refine JL.pure rfl (PO.pickF (v := .bool false) (congrArg Value.bool (congrArg Bool.not (decide_eq_true rfl))) rfl) ?_
    refine JL.pure rfl (PO.move (v := .bool false) rfl) ?_
    refine JL.guardOn rfl rfl rfl (congrArg Value.bool rfl) (JO.ofLO (LO.pure (PO.move (v := str u_36) rfl))) ?_
    rintro _ _ ⟨rfl, rfl⟩
    refine JL.guardOn rfl rfl rfl (congrArg Value.bool rfl) (JO.ofLO (LO.pure (PO.move (v := str u_36) rfl))) ?_
    rintro _ _ ⟨rfl, rfl⟩
    refine JL.guardOn rfl rfl rfl (congrArg Value.bool rfl) (JO.ofLO (LO.pure (PO.neqS rfl rfl))) ?_
    rintro _ _ ⟨rfl, rfl⟩
    refine JL.pure rfl (PO.pickF (v := .bool (!(decide (u_36 = u_36)))) (congrArg Value.bool rfl) rfl) ?_
    refine JL.pure rfl (PO.move (v := .bool (!(decide (u_36 = u_36)))) rfl) ?_
    refine JL.guardOn rfl rfl rfl (congrArg Value.bool (congrArg Bool.not (decide_eq_true rfl))) (JO.ofLO (LO.pure (PO.move (v := .int .i64 n_38) rfl))) ?_
    rintro _ _ ⟨rfl, rfl⟩
    refine JL.guardOn rfl rfl rfl (congrArg Value.bool (congrArg Bool.not (decide_eq_true rfl))) (JO.ofLO (LO.pure (PO.move (v := .int .i64 n_38) rfl))) ?_
    rintro _ _ ⟨rfl, rfl⟩
    refine JL.guardOn rfl rfl rfl (congrArg Value.bool (congrArg Bool.not (decide_eq_true rfl))) (JO.ofLO (LO.pure (PO.neqI rfl rfl))) ?_
    rintro _ _ ⟨rfl, rfl⟩
    refine JL.pure rfl (PO.pickF (v := .bool (!(decide (n_38 = n_38)))) (congrArg Value.bool (congrArg Bool.not (decide_eq_true rfl))) rfl) ?_
    refine JL.pure rfl (PO.move (v := .bool (!(decide (n_38 = n_38)))) rfl) ?_
    refine JL.guardOn rfl rfl rfl (congrArg Value.bool (congrArg Bool.not (decide_eq_true rfl))) (JO.ofLO (LO.loadK 12 (vs := [.slice x_34.a0 m_35.s.length x_34.c0, .slice x_34.a1 m_35.r.length x_34.c1, .slice x_34.a2 m_35.w.length x_34.c2]) rfl rfl Tryz.isAgg32 Tryz.sizeOf32 rfl rfl)) ?_
    rintro _ _ ⟨rfl, rfl⟩
    refine JL.guardOn rfl rfl rfl (congrArg Value.bool (congrArg Bool.not (decide_eq_true rfl))) (JO.ofLO (LO.loadK 8 (vs := [.slice x_43.a0 m_35.s.length x_43.c0, .slice x_43.a1 m_35.r.length x_43.c1, .slice x_43.a2 m_35.w.length x_43.c2]) rfl rfl Tryz.isAgg32 Tryz.sizeOf32 rfl rfl)) ?_
    rintro _ _ ⟨rfl, rfl⟩
    refine JL.guardOn rfl rfl rfl (congrArg Value.bool (congrArg Bool.not (decide_eq_true rfl))) (JO.call [] Tryz.call30 rfl (N_sameMach x_34 x_43 m_35 k_33 (by omega) (by omega)) rfl (fun w hw => ⟨⟨hw.see (i := 13) rfl, hw.see (i := 14) rfl, hw.see (i := 15) rfl⟩, ⟨hw.see (i := 9) rfl, hw.see (i := 10) rfl, hw.see (i := 11) rfl⟩⟩)) ?_
    rintro _ _ ⟨_, ⟨rfl, rfl⟩, rfl⟩
    refine JL.guardOn rfl rfl rfl (congrArg Value.bool (congrArg Bool.not (decide_eq_true rfl))) (JO.ofLO (LO.pure (PO.not rfl))) ?_
    rintro _ _ ⟨rfl, rfl⟩
    refine JL.pure rfl (PO.pickF (v := .bool false) (congrArg Value.bool (congrArg Bool.not (decide_eq_true rfl))) rfl) ?_
    refine JL.pure rfl (PO.move (v := .bool false) rfl) ?_
    refine JL.guardOn rfl rfl rfl (congrArg Value.bool rfl) (JO.ofLO (LO.pure (PO.move (v := .int .i64 n_59) rfl))) ?_
    rintro _ _ ⟨rfl, rfl⟩
    refine JL.guardOn rfl rfl rfl (congrArg Value.bool rfl) (JO.ofLO (LO.pure (PO.move (v := .int .i64 n_59) rfl))) ?_
    rintro _ _ ⟨rfl, rfl⟩
    refine JL.guardOn rfl rfl rfl (congrArg Value.bool rfl) (JO.ofLO (LO.pure (PO.neqI rfl rfl))) ?_
    rintro _ _ ⟨rfl, rfl⟩
    refine JL.pure rfl (PO.pickF (v := .bool (!(decide (n_59 = n_59)))) (congrArg Value.bool rfl) rfl) ?_
    refine JL.pure rfl (PO.move (v := .bool (!(decide (n_59 = n_59)))) rfl) ?_
    refine JL.guardOn rfl rfl rfl (congrArg Value.bool (congrArg Bool.not (decide_eq_true rfl))) (JO.ofLO (LO.pure (PO.move (v := .int .i64 n_61) rfl))) ?_
    rintro _ _ ⟨rfl, rfl⟩
    refine JL.guardOn rfl rfl rfl (congrArg Value.bool (congrArg Bool.not (decide_eq_true rfl))) (JO.ofLO (LO.pure (PO.move (v := .int .i64 n_61) rfl))) ?_
    rintro _ _ ⟨rfl, rfl⟩
    refine JL.guardOn rfl rfl rfl (congrArg Value.bool (congrArg Bool.not (decide_eq_true rfl))) (JO.ofLO (LO.pure (PO.neqI rfl rfl))) ?_
    rintro _ _ ⟨rfl, rfl⟩
    refine JL.pure rfl (PO.pickF (v := .bool (!(decide (n_61 = n_61)))) (congrArg Value.bool (congrArg Bool.not (decide_eq_true rfl))) rfl) ?_
    refine JL.pure rfl (PO.move (v := .bool (!(decide (n_61 = n_61)))) rfl) ?_
    refine JL.guardOn rfl rfl rfl (congrArg Value.bool (congrArg Bool.not (decide_eq_true rfl))) (JO.ofLO (LO.loadK 4 (vs := [.slice x_57.a0 m_58.s.length x_57.c0, .slice x_57.a1 m_58.r.length x_57.c1, .slice x_57.a2 m_58.w.length x_57.c2]) rfl rfl Tryz.isAgg32 Tryz.sizeOf32 rfl rfl)) ?_
    rintro _ _ ⟨rfl, rfl⟩
    refine JL.guardOn rfl rfl rfl (congrArg Value.bool (congrArg Bool.not (decide_eq_true rfl))) (JO.ofLO (LO.loadK 0 (vs := [.slice x_66.a0 m_58.s.length x_66.c0, .slice x_66.a1 m_58.r.length x_66.c1, .slice x_66.a2 m_58.w.length x_66.c2]) rfl rfl Tryz.isAgg32 Tryz.sizeOf32 rfl rfl)) ?_
    rintro _ _ ⟨rfl, rfl⟩
    refine JL.guardOn rfl rfl rfl (congrArg Value.bool (congrArg Bool.not (decide_eq_true rfl))) (JO.call [] Tryz.call30 rfl (N_sameMach x_57 x_66 m_58 k_56 (by omega) (by omega)) rfl (fun w hw => ⟨⟨hw.see (i := 5) rfl, hw.see (i := 6) rfl, hw.see (i := 7) rfl⟩, ⟨hw.see (i := 1) rfl, hw.see (i := 2) rfl, hw.see (i := 3) rfl⟩⟩)) ?_
    rintro _ _ ⟨_, ⟨rfl, rfl⟩, rfl⟩
    refine JL.guardOn rfl rfl rfl (congrArg Value.bool (congrArg Bool.not (decide_eq_true rfl))) (JO.ofLO (LO.pure (PO.not rfl))) ?_
    rintro _ _ ⟨rfl, rfl⟩
    refine JL.pure rfl (PO.pickF (v := .bool false) (congrArg Value.bool (congrArg Bool.not (decide_eq_true rfl))) rfl) ?_
    refine JL.nil ?_
    refine JQ.sub (L' := [mb b_31 x_25 m_26, rC x_25.a0 x_25.c0 m_26.s, rS x_25.a1 x_25.c1 m_26.r, rS x_25.a2 x_25.c2 m_26.w]) (.cons _ (.cons _ (.cons _ (.cons _ (.cons _ (.cons _ (.cons _ (.cons _ (.cons _ (.cons _ (.cons _ (.cons _ (.cons _ (.cons _ (.cons _ (.cons _ (.cons_cons _ (.cons_cons _ (.cons_cons _ (.cons_cons _ (.cons _ (.cons _ (.cons _ (.cons _ (.cons _ (.cons _ (.cons _ (.cons _ (.slnil))))))))))))))))))))))))))))) ?_
    refine JQ.seq ?_
    refine JC.condF (congrArg Value.bool rfl) ?_
    refine JC.skip ?_
    refine JQ.seq ?_
    refine JC.seq ?_
    refine JC.region ?_
    refine JL.ld rfl (LO.loadK 0 (vs := [.slice x_25.a0 m_26.s.length x_25.c0, .slice x_25.a1 m_26.r.length x_25.c1, .slice x_25.a2 m_26.w.length x_25.c2]) rfl rfl Tryz.isAgg32 Tryz.sizeOf32 rfl rfl) ?_
    refine JL.pure rfl (PO.move (v := .int .i64 n_28) rfl) ?_
    refine JL.op rfl (JO.call [] Tryz.call59 rfl (P_isPipe x_25 m_26 k_27 (by omega) (by omega) n_28 (by omega)) rfl (fun w hw => ⟨hw.see (i := 1) rfl, hw.see (i := 2) rfl, hw.see (i := 3) rfl⟩)) ?_
    rintro _ _ ⟨_, ⟨x_75, m_76, b_77, e_73, k_74, rfl, rfl⟩, rfl⟩
    refine JL.pure rfl (PO.move (v := .tuple #[mv x_75 m_76, .bool b_77]) rfl) ?_
    refine JL.pure rfl (PO.extract (v := mv x_75 m_76) rfl rfl) ?_
    refine JL.pure rfl (PO.extract (v := .bool b_77) rfl rfl) ?_
    refine JL.op rfl (JO.alloc (z := .agg #[.slice none 0 0, .slice none 0 0, .slice none 0 0]) (cs := [.slice none 0 0, .slice none 0 0, .slice none 0 0]) Tryz.zeroValue32 rfl) ?_
    rintro _ _ ⟨b_78, rfl, rfl⟩
    refine JL.op rfl (JO.store 0 (vs := [.slice x_75.a0 m_76.s.length x_75.c0, .slice x_75.a1 m_76.r.length x_75.c1, .slice x_75.a2 m_76.w.length x_75.c2]) (cs' := [.slice x_75.a0 m_76.s.length x_75.c0, .slice x_75.a1 m_76.r.length x_75.c1, .slice x_75.a2 m_76.w.length x_75.c2]) rfl rfl rfl rfl Tryz.sizeOf32 rfl rfl (Nat.le_of_ble_eq_true rfl) rfl) ?_
    rintro _ _ rfl
    refine JL.pure rfl (PO.assign (v := .bool b_77) rfl) ?_
    refine JL.nil ?_
    refine JQ.seq ?_
    refine JC.seq ?_
    refine JC.region ?_
    refine JL.ld rfl (LO.loadK 4 (vs := [.slice x_25.a0 m_26.s.length x_25.c0, .slice x_25.a1 m_26.r.length x_25.c1, .slice x_25.a2 m_26.w.length x_25.c2]) rfl rfl Tryz.isAgg32 Tryz.sizeOf32 rfl rfl) ?_
    refine JL.pure rfl (PO.move (v := .int .i64 n_28) rfl) ?_
    refine JL.op rfl (JO.call [] Tryz.call60 rfl (Q_isPipe x_25 m_26 k_27 (by omega) (by omega) n_28 (by omega)) rfl (fun w hw => ⟨hw.see (i := 5) rfl, hw.see (i := 6) rfl, hw.see (i := 7) rfl⟩)) ?_
    rintro _ _ ⟨_, ⟨x_81, m_82, b_83, e_79, k_80, rfl, rfl⟩, rfl⟩
    have hqe_79 := e_73.symm.trans e_79
    simp only [Prod.mk.injEq] at hqe_79
    obtain ⟨rfl, rfl⟩ := hqe_79
    refine JL.pure rfl (PO.move (v := .tuple #[mv x_81 m_76, .bool b_77]) rfl) ?_
    refine JL.pure rfl (PO.extract (v := mv x_81 m_76) rfl rfl) ?_
    refine JL.pure rfl (PO.extract (v := .bool b_77) rfl rfl) ?_
    refine JL.op rfl (JO.alloc (z := .agg #[.slice none 0 0, .slice none 0 0, .slice none 0 0]) (cs := [.slice none 0 0, .slice none 0 0, .slice none 0 0]) Tryz.zeroValue32 rfl) ?_
    rintro _ _ ⟨b_84, rfl, rfl⟩
    refine JL.op rfl (JO.store 0 (vs := [.slice x_81.a0 m_76.s.length x_81.c0, .slice x_81.a1 m_76.r.length x_81.c1, .slice x_81.a2 m_76.w.length x_81.c2]) (cs' := [.slice x_81.a0 m_76.s.length x_81.c0, .slice x_81.a1 m_76.r.length x_81.c1, .slice x_81.a2 m_76.w.length x_81.c2]) rfl rfl rfl rfl Tryz.sizeOf32 rfl rfl (Nat.le_of_ble_eq_true rfl) rfl) ?_
    rintro _ _ rfl
    refine JL.pure rfl (PO.assign (v := .bool b_77) rfl) ?_
    refine JL.nil ?_
    refine JQ.seq ?_
    refine JC.seq ?_
    refine JC.region ?_
    refine JL.ld rfl (LO.loadK 8 (vs := [.slice x_25.a0 m_26.s.length x_25.c0, .slice x_25.a1 m_26.r.length x_25.c1, .slice x_25.a2 m_26.w.length x_25.c2]) rfl rfl Tryz.isAgg32 Tryz.sizeOf32 rfl rfl) ?_
    refine JL.pure rfl (PO.move (v := .int .i64 n_28) rfl) ?_
    refine JL.op rfl (JO.call [] Tryz.call61 rfl (P_lenPipe x_25 m_26 k_27 (by omega) (by omega) n_28 (by omega)) rfl (fun w hw => ⟨hw.see (i := 9) rfl, hw.see (i := 10) rfl, hw.see (i := 11) rfl⟩)) ?_
    rintro _ _ ⟨_, ⟨x_87, m_88, n_89, e_85, k_86, f_90, rfl, rfl⟩, rfl⟩
    refine JL.pure rfl (PO.move (v := .tuple #[mv x_87 m_88, .int .i64 n_89]) rfl) ?_
    refine JL.pure rfl (PO.extract (v := mv x_87 m_88) rfl rfl) ?_
    refine JL.pure rfl (PO.extract (v := .int .i64 n_89) rfl rfl) ?_
    refine JL.op rfl (JO.alloc (z := .agg #[.slice none 0 0, .slice none 0 0, .slice none 0 0]) (cs := [.slice none 0 0, .slice none 0 0, .slice none 0 0]) Tryz.zeroValue32 rfl) ?_
    rintro _ _ ⟨b_91, rfl, rfl⟩
    refine JL.op rfl (JO.store 0 (vs := [.slice x_87.a0 m_88.s.length x_87.c0, .slice x_87.a1 m_88.r.length x_87.c1, .slice x_87.a2 m_88.w.length x_87.c2]) (cs' := [.slice x_87.a0 m_88.s.length x_87.c0, .slice x_87.a1 m_88.r.length x_87.c1, .slice x_87.a2 m_88.w.length x_87.c2]) rfl rfl rfl rfl Tryz.sizeOf32 rfl rfl (Nat.le_of_ble_eq_true rfl) rfl) ?_
    rintro _ _ rfl
    refine JL.pure rfl (PO.assign (v := .int .i64 n_89) rfl) ?_
    refine JL.nil ?_
    refine JQ.seq ?_
    refine JC.seq ?_
    refine JC.region ?_
    refine JL.ld rfl (LO.loadK 12 (vs := [.slice x_25.a0 m_26.s.length x_25.c0, .slice x_25.a1 m_26.r.length x_25.c1, .slice x_25.a2 m_26.w.length x_25.c2]) rfl rfl Tryz.isAgg32 Tryz.sizeOf32 rfl rfl) ?_
    refine JL.pure rfl (PO.move (v := .int .i64 n_28) rfl) ?_
    refine JL.op rfl (JO.call [] Tryz.call62 rfl (Q_lenPipe x_25 m_26 k_27 (by omega) (by omega) n_28 (by omega)) rfl (fun w hw => ⟨hw.see (i := 13) rfl, hw.see (i := 14) rfl, hw.see (i := 15) rfl⟩)) ?_
    rintro _ _ ⟨_, ⟨x_94, m_95, n_96, e_92, k_93, f_97, rfl, rfl⟩, rfl⟩
    have hqe_92 := e_85.symm.trans e_92
    simp only [Prod.mk.injEq] at hqe_92
    obtain ⟨rfl, rfl⟩ := hqe_92
    refine JL.pure rfl (PO.move (v := .tuple #[mv x_94 m_88, .int .i64 n_89]) rfl) ?_
    refine JL.pure rfl (PO.extract (v := mv x_94 m_88) rfl rfl) ?_
    refine JL.pure rfl (PO.extract (v := .int .i64 n_89) rfl rfl) ?_
    refine JL.op rfl (JO.alloc (z := .agg #[.slice none 0 0, .slice none 0 0, .slice none 0 0]) (cs := [.slice none 0 0, .slice none 0 0, .slice none 0 0]) Tryz.zeroValue32 rfl) ?_
    rintro _ _ ⟨b_98, rfl, rfl⟩
    refine JL.op rfl (JO.store 0 (vs := [.slice x_94.a0 m_88.s.length x_94.c0, .slice x_94.a1 m_88.r.length x_94.c1, .slice x_94.a2 m_88.w.length x_94.c2]) (cs' := [.slice x_94.a0 m_88.s.length x_94.c0, .slice x_94.a1 m_88.r.length x_94.c1, .slice x_94.a2 m_88.w.length x_94.c2]) rfl rfl rfl rfl Tryz.sizeOf32 rfl rfl (Nat.le_of_ble_eq_true rfl) rfl) ?_
    rintro _ _ rfl
    refine JL.pure rfl (PO.assign (v := .int .i64 n_89) rfl) ?_
    refine JL.nil ?_
    refine JQ.seq ?_
    refine JC.seq ?_
    refine JC.region ?_
    refine JL.pure rfl (PO.move (v := .slice pa p.length pc) rfl) ?_
    refine JL.op rfl (JO.call [] Tryz.call63 rfl (D_dPlaces pa pc p (by omega)) rfl (fun w hw => hw.seeOut_ hs_pa (fun _ _ => List.not_mem_nil))) ?_
    rintro _ _ ⟨_, ⟨l_99a, l_99c, l_99, f_100, rfl, rfl⟩, rfl⟩
    refine JL.pure rfl (PO.assign (v := .slice l_99a l_99.length l_99c) rfl) ?_
    refine JL.nil ?_
    refine JQ.seq ?_
    refine JC.seq ?_
    refine JC.region ?_
    refine JL.op rfl (JO.call [] Tryz.call36 rfl (D_base) rfl (fun _ _ => trivial)) ?_
    rintro _ _ ⟨_, ⟨x_102, m_103, e_105, k_104, rfl, rfl⟩, rfl⟩
    refine JL.op rfl (JO.call [] Tryz.call57 rfl (P_makePipe x_102 m_103 k_104 (by omega) (by omega)) rfl (fun w hw => ⟨hw.see (i := 0) rfl, hw.see (i := 1) rfl, hw.see (i := 2) rfl⟩)) ?_
    rintro _ _ ⟨_, ⟨x_108, m_109, n_110, n_112, e_106, k_107, f_111, f_113, rfl, rfl⟩, rfl⟩
    refine JL.pure rfl (PO.move (v := .tuple #[mv x_108 m_109, .int .i64 n_110, .int .i64 n_112]) rfl) ?_
    refine JL.pure rfl (PO.extract (v := mv x_108 m_109) rfl rfl) ?_
    refine JL.pure rfl (PO.extract (v := .int .i64 n_110) rfl rfl) ?_
    refine JL.pure rfl (PO.extract (v := .int .i64 n_112) rfl rfl) ?_
    refine JL.op rfl (JO.alloc (z := .agg #[.slice none 0 0, .slice none 0 0, .slice none 0 0]) (cs := [.slice none 0 0, .slice none 0 0, .slice none 0 0]) Tryz.zeroValue32 rfl) ?_
    rintro _ _ ⟨b_114, rfl, rfl⟩
    refine JL.op rfl (JO.store 0 (vs := [.slice x_108.a0 m_109.s.length x_108.c0, .slice x_108.a1 m_109.r.length x_108.c1, .slice x_108.a2 m_109.w.length x_108.c2]) (cs' := [.slice x_108.a0 m_109.s.length x_108.c0, .slice x_108.a1 m_109.r.length x_108.c1, .slice x_108.a2 m_109.w.length x_108.c2]) rfl rfl rfl rfl Tryz.sizeOf32 rfl rfl (Nat.le_of_ble_eq_true rfl) rfl) ?_
    rintro _ _ rfl
    refine JL.pure rfl (PO.assign (v := .int .i64 n_110) rfl) ?_
    refine JL.pure rfl (PO.assign (v := .int .i64 n_112) rfl) ?_
    refine JL.nil ?_
    refine JQ.sub (L' := [mb b_114 x_108 m_109, rC x_108.a0 x_108.c0 m_109.s, rS x_108.a1 x_108.c1 m_109.r, rS x_108.a2 x_108.c2 m_109.w, rI l_99a l_99c l_99, mb b_98 x_94 m_88, rC x_94.a0 x_94.c0 m_88.s, rS x_94.a1 x_94.c1 m_88.r, rS x_94.a2 x_94.c2 m_88.w, mb b_91 x_87 m_88, rC x_87.a0 x_87.c0 m_88.s, rS x_87.a1 x_87.c1 m_88.r, rS x_87.a2 x_87.c2 m_88.w, mb b_84 x_81 m_76, rC x_81.a0 x_81.c0 m_76.s, rS x_81.a1 x_81.c1 m_76.r, rS x_81.a2 x_81.c2 m_76.w, mb b_78 x_75 m_76, rC x_75.a0 x_75.c0 m_76.s, rS x_75.a1 x_75.c1 m_76.r, rS x_75.a2 x_75.c2 m_76.w]) (.cons_cons _ (.cons_cons _ (.cons_cons _ (.cons_cons _ (.cons _ (.cons _ (.cons _ (.cons_cons _ (.cons_cons _ (.cons_cons _ (.cons_cons _ (.cons_cons _ (.cons_cons _ (.cons_cons _ (.cons_cons _ (.cons_cons _ (.cons_cons _ (.cons_cons _ (.cons_cons _ (.cons_cons _ (.cons_cons _ (.cons_cons _ (.cons_cons _ (.cons_cons _ (.cons _ (.cons _ (.cons _ (.cons _ (.slnil))))))))))))))))))))))))))))) ?_
    refine JQ.seq ?_
    refine JC.seq ?_
    refine JC.region ?_
    refine JL.pure rfl (PO.assign (v := .int .i64 0) rfl) ?_
    refine JL.nil ?_
    refine JQ.seq ?_
    refine JC.seq ?_
    refine JC.seq ?_
    refine JC.region ?_
    refine JL.pure rfl (PO.assign (v := .int .i64 0) rfl) ?_
    refine JL.nil ?_
    refine JQ.seq ?_
    refine JC.block ?_
    refine JC.loop (fun k_ e_ L_ => ∃ i_ : Nat, ∃ x1 : MA, ∃ mm : MS, ∃ full_ : Int, (mm.ok (2 + 2 * i_) (3 + 6 * i_)) ∧ (i_ ≤ 4) ∧ (0 ≤ full_ ∧ full_ ≤ 9 * ((i_ : Nat) : Int)) ∧ (putsI n_110 l_99 (4 - i_) i_ mm full_ = putsI n_110 l_99 4 0 m_109 0) ∧ e_ 2 = .bool false ∧ e_ 25 = .pointer (some ⟨b_78, 0, none⟩) ∧ e_ 26 = .bool b_77 ∧ e_ 27 = .pointer (some ⟨b_84, 0, none⟩) ∧ e_ 28 = .bool b_77 ∧ e_ 29 = .pointer (some ⟨b_91, 0, none⟩) ∧ e_ 30 = .int .i64 n_89 ∧ e_ 31 = .pointer (some ⟨b_98, 0, none⟩) ∧ e_ 32 = .int .i64 n_89 ∧ e_ 33 = .slice l_99a l_99.length l_99c ∧ e_ 34 = .pointer (some ⟨b_114, 0, none⟩) ∧ e_ 35 = .int .i64 n_110 ∧ e_ 37 = .int .i64 full_ ∧ e_ 38 = .int .i64 ((i_ : Nat) : Int) ∧ L_ = [mb b_114 x1 mm, rC x1.a0 x1.c0 mm.s, rS x1.a1 x1.c1 mm.r, rS x1.a2 x1.c2 mm.w, rI l_99a l_99c l_99, mb b_98 x_94 m_88, rC x_94.a0 x_94.c0 m_88.s, rS x_94.a1 x_94.c1 m_88.r, rS x_94.a2 x_94.c2 m_88.w, mb b_91 x_87 m_88, rC x_87.a0 x_87.c0 m_88.s, rS x_87.a1 x_87.c1 m_88.r, rS x_87.a2 x_87.c2 m_88.w, mb b_84 x_81 m_76, rC x_81.a0 x_81.c0 m_76.s, rS x_81.a1 x_81.c1 m_76.r, rS x_81.a2 x_81.c2 m_76.w, mb b_78 x_75 m_76, rC x_75.a0 x_75.c0 m_76.s, rS x_75.a1 x_75.c1 m_76.r, rS x_75.a2 x_75.c2 m_76.w] ∧ k_ = 5 - i_) _ ⟨0, x_108, m_109, 0, (k_107.mono (by omega) (by omega)), (by omega), (by omega), rfl, rfl, rfl, rfl, rfl, rfl, rfl, rfl, rfl, rfl, rfl, rfl, rfl, rfl, rfl, rfl, rfl⟩ ?_
    rintro _ e_115 _ ⟨i_, x1, mm, full_, hkmm, hi, hfull, hR, he_116, he_117, he_118, he_119, he_120, he_121, he_122, he_123, he_124, he_125, he_126, he_127, he_128, he_129, rfl, rfl⟩
    refine JC.seq ?_
    refine JC.seq ?_
    refine JC.region ?_
    refine JL.pure rfl (PO.move (v := .int .i64 ((i_ : Nat) : Int)) he_129) ?_
    refine JL.pure rfl (PO.lss rfl rfl) ?_
    refine JL.nil ?_
    refine JQ.seq ?_
    by_cases h_130 : ((i_ : Nat) : Int) < 4
    · skip
      have hpi := f_100.2 _ (getD_mem (d := 0) (show i_ < l_99.length by omega))
      refine JC.condT (congrArg Value.bool (decide_eq_true h_130)) ?_
      refine JC.skip ?_
      refine JQ.seq ?_
      refine JC.seq ?_
      refine JC.block ?_
      refine JC.seq ?_
      refine JC.region ?_
      refine JL.pure rfl (PO.assign (v := .int .i64 0) rfl) ?_
      refine JL.nil ?_
      refine JQ.seq ?_
      refine JC.seq ?_
      refine JC.regionA [mb b_114 x1 mm] 11 mixed (by simp) ?_
      refine JA.take 0 rfl (by kernel_rfl) (NP.th (NP.bl (NP.th (NP.th (NP.bl (NP.th NP.body)))))) (by kernel_rfl) (by kernel_rfl) (by kernel_rfl) rfl (LO.loadK 0 (vs := [.slice x1.a0 mm.s.length x1.c0, .slice x1.a1 mm.r.length x1.c1, .slice x1.a2 mm.w.length x1.c2]) rfl he_126 Tryz.isAgg32 Tryz.sizeOf32 rfl rfl) ?_
      refine JA.takeP 1 rfl (by kernel_rfl) (NP.th (NP.bl (NP.th (NP.th (NP.bl (NP.th NP.body)))))) (by kernel_rfl) (by kernel_rfl) rfl (PO.move (v := .int .i64 n_110) he_127) ?_
      refine JA.takeP 2 rfl (by kernel_rfl) (NP.th (NP.bl (NP.th (NP.th (NP.bl (NP.th NP.body)))))) (by kernel_rfl) (by kernel_rfl) rfl (PO.move (v := .slice l_99a l_99.length l_99c) he_125) ?_
      refine JA.takeP 3 rfl (by kernel_rfl) (NP.th (NP.bl (NP.th (NP.th (NP.bl (NP.th NP.body)))))) (by kernel_rfl) (by kernel_rfl) rfl (PO.move (v := .int .i64 ((i_ : Nat) : Int)) he_129) ?_
      refine JA.facts fun hst => ?_
      obtain ⟨hr_131, hr_131b, -⟩ := row_some 4 rfl (by omega) hst
      refine JA.takeP 4 rfl (by kernel_rfl) (NP.th (NP.bl (NP.th (NP.th (NP.bl (NP.th NP.body)))))) (by kernel_rfl) (by kernel_rfl) rfl (PO.indexAddrV (i := i_) Tryz.underlying70 Tryz.sizeOf3 hr_131 hr_131b rfl rfl (by omega)) ?_
      refine JA.one (i := 5) (by kernel_rfl) ?_
      refine JX.op rfl rfl (JO.ofLO (LO.loadR1 4 (v := .int .i64 (l_99.getD i_ 0)) rfl rfl Tryz.isAgg3 (atI (by omega)))) ?_
      rintro _ _ ⟨rfl, rfl⟩
      refine ⟨(by simp), ?_⟩
      refine JA.one (i := 6) (by kernel_rfl) ?_
      refine JX.op rfl rfl (JO.call [] Tryz.call64 rfl (N_dec (l_99.getD i_ 0) (by omega)) rfl (fun _ _ => trivial)) ?_
      rintro _ _ ⟨_, ⟨u_138, e_136, f_139, rfl, rfl⟩, rfl⟩
      refine ⟨(by simp), ?_⟩
      refine JA.one (i := 7) (by kernel_rfl) ?_
      refine JX.op rfl rfl (JO.call [] Tryz.call53 rfl (P_putPipe x1 mm hkmm (by omega) (by omega) n_110 u_138 (by omega) (by omega)) rfl (fun w hw => ⟨hw.see (i := 1) rfl, hw.see (i := 2) rfl, hw.see (i := 3) rfl⟩)) ?_
      rintro _ _ ⟨_, ⟨x_148, m_149, n_150, e_146, k_147, f_151, rfl, rfl⟩, rfl⟩
      refine ⟨(by simp), ?_⟩
      refine JA.takeP 8 rfl (by kernel_rfl) (NP.th (NP.bl (NP.th (NP.th (NP.bl (NP.th NP.body)))))) (by kernel_rfl) (by kernel_rfl) rfl (PO.move (v := .tuple #[mv x_148 m_149, .int .i64 n_150]) rfl) ?_
      refine JA.takeP 9 rfl (by kernel_rfl) (NP.th (NP.bl (NP.th (NP.th (NP.bl (NP.th NP.body)))))) (by kernel_rfl) (by kernel_rfl) rfl (PO.extract (v := mv x_148 m_149) rfl rfl) ?_
      refine JA.takeP 10 rfl (by kernel_rfl) (NP.th (NP.bl (NP.th (NP.th (NP.bl (NP.th NP.body)))))) (by kernel_rfl) (by kernel_rfl) rfl (PO.extract (v := .int .i64 n_150) rfl rfl) ?_
      refine JA.one (i := 11) (by kernel_rfl) ?_
      refine JX.late rfl rfl (by decide) (by kernel_rfl) (JO.store 3 (vs := [.slice x_148.a0 m_149.s.length x_148.c0, .slice x_148.a1 m_149.r.length x_148.c1, .slice x_148.a2 m_149.w.length x_148.c2]) (cs' := [.slice x_148.a0 m_149.s.length x_148.c0, .slice x_148.a1 m_149.r.length x_148.c1, .slice x_148.a2 m_149.w.length x_148.c2]) rfl he_126 rfl rfl Tryz.sizeOf32 rfl rfl (Nat.le_of_ble_eq_true rfl) rfl) ?_
      rintro _ _ rfl
      refine JA.takeP 12 rfl (by kernel_rfl) (NP.th (NP.bl (NP.th (NP.th (NP.bl (NP.th NP.body)))))) (by kernel_rfl) (by kernel_rfl) rfl (PO.assign (v := .int .i64 n_150) rfl) ?_
      refine JA.done (by kernel_rfl) ?_
      refine JQ.seq ?_
      refine JC.region ?_
      refine JL.pure rfl (PO.move (v := .int .i64 full_) he_128) ?_
      refine JL.pure rfl (PO.move (v := .int .i64 n_150) rfl) ?_
      refine JL.pure rfl (PO.add (c := full_ + n_150) rfl rfl (wr (by omega))) ?_
      refine JL.pure rfl (PO.assign (v := .int .i64 (full_ + n_150)) rfl) ?_
      refine JL.nil ?_
      refine JQ.blockN ?_
      refine JQ.seq ?_
      refine JC.region ?_
      refine JL.pure rfl (PO.move (v := .int .i64 ((i_ : Nat) : Int)) he_129) ?_
      refine JL.pure rfl (PO.add (c := ((i_ + 1 : Nat) : Int)) rfl rfl (wr (by omega))) ?_
      refine JL.pure rfl (PO.assign (v := .int .i64 ((i_ + 1 : Nat) : Int)) rfl) ?_
      refine JL.nil ?_
      refine JQ.pick [3, 0, 0, 0, 3, 3, 3, 3, 3, 3, 3, 3, 3, 3, 3, 3, 3, 3, 3, 3, 3] (A := [mb b_114 x_148 m_149, rC x_148.a0 x_148.c0 m_149.s, rS x_148.a1 x_148.c1 m_149.r, rS x_148.a2 x_148.c2 m_149.w, rI l_99a l_99c l_99, mb b_98 x_94 m_88, rC x_94.a0 x_94.c0 m_88.s, rS x_94.a1 x_94.c1 m_88.r, rS x_94.a2 x_94.c2 m_88.w, mb b_91 x_87 m_88, rC x_87.a0 x_87.c0 m_88.s, rS x_87.a1 x_87.c1 m_88.r, rS x_87.a2 x_87.c2 m_88.w, mb b_84 x_81 m_76, rC x_81.a0 x_81.c0 m_76.s, rS x_81.a1 x_81.c1 m_76.r, rS x_81.a2 x_81.c2 m_76.w, mb b_78 x_75 m_76, rC x_75.a0 x_75.c0 m_76.s, rS x_75.a1 x_75.c1 m_76.r, rS x_75.a2 x_75.c2 m_76.w]) (F := [rC x1.a0 x1.c0 mm.s, rS x1.a1 x1.c1 mm.r, rS x1.a2 x1.c2 mm.w]) (by kernel_rfl) ?_
      refine JQ.again (5 - (i_ + 1)) (by omega) ⟨(i_ + 1), x_148, m_149, (full_ + n_150), (k_147.mono (by omega) (by omega)), (by omega), (by omega), (by rw [show 4 - i_ = (4 - (i_ + 1)) + 1 by omega, putsI] at hR; simp only [e_11, e_32, e_55, e_73, e_85, e_105, e_106, e_136, e_146] at hR; exact hR), he_116, he_117, he_118, he_119, he_120, he_121, he_122, he_123, he_124, he_125, he_126, he_127, rfl, rfl, rfl, rfl⟩
    · skip
      rw [show 4 - i_ = 0 by omega] at hR
      obtain ⟨hp1, hp2, hp3, hp4, hp5⟩ := pl_pipes e_105 e_106 f_100 hR
      refine JC.condF (congrArg Value.bool (decide_eq_false h_130)) ?_
      refine JC.exit ?_
      refine JQ.thenExit ?_
      refine JQ.thenExit ?_
      refine JQ.blockE ?_
      refine JQ.seq ?_
      refine JC.seq ?_
      refine JC.region ?_
      refine JL.ld rfl (LO.loadK 0 (vs := [.slice x1.a0 mm.s.length x1.c0, .slice x1.a1 mm.r.length x1.c1, .slice x1.a2 mm.w.length x1.c2]) rfl he_126 Tryz.isAgg32 Tryz.sizeOf32 rfl rfl) ?_
      refine JL.pure rfl (PO.move (v := .int .i64 n_110) he_127) ?_
      refine JL.op rfl (JO.call [] Tryz.call53 rfl (P_putPipe x1 mm hkmm (by omega) (by omega) n_110 [120] (by omega) (by decide)) rfl (fun w hw => ⟨hw.see (i := 1) rfl, hw.see (i := 2) rfl, hw.see (i := 3) rfl⟩)) ?_
      rintro _ _ ⟨_, ⟨x_154, m_155, n_156, e_152, k_153, f_157, rfl, rfl⟩, rfl⟩
      refine JL.pure rfl (PO.move (v := .tuple #[mv x_154 m_155, .int .i64 n_156]) rfl) ?_
      refine JL.pure rfl (PO.extract (v := mv x_154 m_155) rfl rfl) ?_
      refine JL.pure rfl (PO.extract (v := .int .i64 n_156) rfl rfl) ?_
      refine JL.op rfl (JO.alloc (z := .agg #[.slice none 0 0, .slice none 0 0, .slice none 0 0]) (cs := [.slice none 0 0, .slice none 0 0, .slice none 0 0]) Tryz.zeroValue32 rfl) ?_
      rintro _ _ ⟨b_158, rfl, rfl⟩
      refine JL.op rfl (JO.store 0 (vs := [.slice x_154.a0 m_155.s.length x_154.c0, .slice x_154.a1 m_155.r.length x_154.c1, .slice x_154.a2 m_155.w.length x_154.c2]) (cs' := [.slice x_154.a0 m_155.s.length x_154.c0, .slice x_154.a1 m_155.r.length x_154.c1, .slice x_154.a2 m_155.w.length x_154.c2]) rfl rfl rfl rfl Tryz.sizeOf32 rfl rfl (Nat.le_of_ble_eq_true rfl) rfl) ?_
      rintro _ _ rfl
      refine JL.pure rfl (PO.assign (v := .int .i64 n_156) rfl) ?_
      refine JL.nil ?_
      refine JQ.seq ?_
      refine JC.seq ?_
      refine JC.seq ?_
      refine JC.region ?_
      refine JL.pure rfl (PO.assign (v := .int .i64 0) rfl) ?_
      refine JL.nil ?_
      refine JQ.seq ?_
      refine JC.block ?_
      refine JC.loop (fun k_ e_ L_ => ∃ q_ : Nat, ∃ x2 : MA, ∃ mm2 : MS, (mm2.ok (12 + q_) (40 + 6 * q_)) ∧ (q_ ≤ 4) ∧ (mm2 = takesM n_110 q_ mm) ∧ e_ 25 = .pointer (some ⟨b_78, 0, none⟩) ∧ e_ 26 = .bool b_77 ∧ e_ 27 = .pointer (some ⟨b_84, 0, none⟩) ∧ e_ 28 = .bool b_77 ∧ e_ 29 = .pointer (some ⟨b_91, 0, none⟩) ∧ e_ 30 = .int .i64 n_89 ∧ e_ 31 = .pointer (some ⟨b_98, 0, none⟩) ∧ e_ 32 = .int .i64 n_89 ∧ e_ 33 = .slice l_99a l_99.length l_99c ∧ e_ 34 = .pointer (some ⟨b_114, 0, none⟩) ∧ e_ 35 = .int .i64 n_110 ∧ e_ 37 = .int .i64 full_ ∧ e_ 41 = .int .i64 n_156 ∧ e_ 42 = .int .i64 ((q_ : Nat) : Int) ∧ L_ = [mb b_158 x_154 m_155, rC x_154.a0 x_154.c0 m_155.s, rS x_154.a1 x_154.c1 m_155.r, rS x_154.a2 x_154.c2 m_155.w, mb b_114 x2 mm2, rC x2.a0 x2.c0 mm2.s, rS x2.a1 x2.c1 mm2.r, rS x2.a2 x2.c2 mm2.w, rI l_99a l_99c l_99, mb b_98 x_94 m_88, rC x_94.a0 x_94.c0 m_88.s, rS x_94.a1 x_94.c1 m_88.r, rS x_94.a2 x_94.c2 m_88.w, mb b_91 x_87 m_88, rC x_87.a0 x_87.c0 m_88.s, rS x_87.a1 x_87.c1 m_88.r, rS x_87.a2 x_87.c2 m_88.w, mb b_84 x_81 m_76, rC x_81.a0 x_81.c0 m_76.s, rS x_81.a1 x_81.c1 m_76.r, rS x_81.a2 x_81.c2 m_76.w, mb b_78 x_75 m_76, rC x_75.a0 x_75.c0 m_76.s, rS x_75.a1 x_75.c1 m_76.r, rS x_75.a2 x_75.c2 m_76.w] ∧ k_ = 5 - q_) _ ⟨0, x1, mm, (hkmm.mono (by omega) (by omega)), (by omega), rfl, he_117, he_118, he_119, he_120, he_121, he_122, he_123, he_124, he_125, he_126, he_127, he_128, rfl, rfl, rfl, rfl⟩ ?_
      rintro _ e_159 _ ⟨q_, x2, mm2, hkmm2, hi2, hT, he_160, he_161, he_162, he_163, he_164, he_165, he_166, he_167, he_168, he_169, he_170, he_171, he_172, he_173, rfl, rfl⟩
      refine JC.seq ?_
      refine JC.seq ?_
      refine JC.region ?_
      refine JL.pure rfl (PO.move (v := .int .i64 ((q_ : Nat) : Int)) he_173) ?_
      refine JL.pure rfl (PO.lss rfl rfl) ?_
      refine JL.nil ?_
      refine JQ.seq ?_
      by_cases h_174 : ((q_ : Nat) : Int) < 4
      · skip
        have hpi := f_100.2 _ (getD_mem (d := 0) (show q_ < l_99.length by omega))
        have hpq := hp5 q_ (by omega)
        rw [← hT] at hpq
        refine JC.condT (congrArg Value.bool (decide_eq_true h_174)) ?_
        refine JC.skip ?_
        refine JQ.seq ?_
        refine JC.seq ?_
        refine JC.block ?_
        refine JC.seq ?_
        refine JC.region ?_
        refine JL.pure rfl (PO.assign (v := str []) rfl) ?_
        refine JL.nil ?_
        refine JQ.seq ?_
        refine JC.seq ?_
        refine JC.region ?_
        refine JL.ld rfl (LO.loadK 4 (vs := [.slice x2.a0 mm2.s.length x2.c0, .slice x2.a1 mm2.r.length x2.c1, .slice x2.a2 mm2.w.length x2.c2]) rfl he_169 Tryz.isAgg32 Tryz.sizeOf32 rfl rfl) ?_
        refine JL.pure rfl (PO.move (v := .int .i64 n_110) he_170) ?_
        refine JL.op rfl (JO.call [] Tryz.call18 rfl (P_takePipe x2 mm2 hkmm2 (by omega) (by omega) n_110 (by omega)) rfl (fun w hw => ⟨⟨hw.see (i := 5) rfl, hw.see (i := 6) rfl, hw.see (i := 7) rfl⟩, hw.hex hlow hpre.2⟩)) ?_
        rintro _ _ ⟨_, ⟨x_177, m_178, u_179, n_181, e_175, k_176, f_180, f_182, rfl, rfl⟩, rfl⟩
        refine JL.pure rfl (PO.move (v := .tuple #[mv x_177 m_178, str u_179, .int .i64 n_181]) rfl) ?_
        refine JL.pure rfl (PO.extract (v := mv x_177 m_178) rfl rfl) ?_
        refine JL.pure rfl (PO.extract (v := str u_179) rfl rfl) ?_
        refine JL.pure rfl (PO.extract (v := .int .i64 n_181) rfl rfl) ?_
        refine JL.op rfl (JO.store 7 (vs := [.slice x_177.a0 m_178.s.length x_177.c0, .slice x_177.a1 m_178.r.length x_177.c1, .slice x_177.a2 m_178.w.length x_177.c2]) (cs' := [.slice x_177.a0 m_178.s.length x_177.c0, .slice x_177.a1 m_178.r.length x_177.c1, .slice x_177.a2 m_178.w.length x_177.c2]) rfl he_169 rfl rfl Tryz.sizeOf32 rfl rfl (Nat.le_of_ble_eq_true rfl) rfl) ?_
        rintro _ _ rfl
        refine JL.pure rfl (PO.assign (v := str u_179) rfl) ?_
        refine JL.nil ?_
        refine JQ.seq ?_
        refine JC.seq ?_
        refine JC.region ?_
        refine JL.pure rfl (PO.move (v := str u_179) rfl) ?_
        refine JL.pure rfl (PO.move (v := .slice l_99a l_99.length l_99c) he_168) ?_
        refine JL.pure rfl (PO.move (v := .int .i64 ((q_ : Nat) : Int)) he_173) ?_
        refine JL.facts fun hst => ?_
        obtain ⟨hr_183, hr_183b, -⟩ := row_some 11 rfl (by omega) hst
        refine JL.pure rfl (PO.indexAddrV (i := q_) Tryz.underlying70 Tryz.sizeOf3 hr_183 hr_183b rfl rfl (by omega)) ?_
        refine JL.ld rfl (LO.loadR1 11 (v := .int .i64 (l_99.getD q_ 0)) rfl rfl Tryz.isAgg3 (atI (by omega))) ?_
        refine JL.op rfl (JO.call [] Tryz.call64 rfl (N_dec (l_99.getD q_ 0) (by omega)) rfl (fun _ _ => trivial)) ?_
        rintro _ _ ⟨_, ⟨u_186, e_184, f_187, rfl, rfl⟩, rfl⟩
        refine JL.pure rfl (PO.neqS rfl rfl) ?_
        refine JL.nil ?_
        refine JQ.seq ?_
        by_cases h_188 : u_179 = u_186
        · skip
          refine JC.condF (congrArg Value.bool (congrArg Bool.not (decide_eq_true h_188))) ?_
          refine JC.skip ?_
          refine JQ.blockN ?_
          refine JQ.seq ?_
          refine JC.region ?_
          refine JL.pure rfl (PO.move (v := .int .i64 ((q_ : Nat) : Int)) he_173) ?_
          refine JL.pure rfl (PO.add (c := ((q_ + 1 : Nat) : Int)) rfl rfl (wr (by omega))) ?_
          refine JL.pure rfl (PO.assign (v := .int .i64 ((q_ + 1 : Nat) : Int)) rfl) ?_
          refine JL.nil ?_
          refine JQ.pick [3, 3, 3, 3, 3, 0, 0, 0, 3, 3, 3, 3, 3, 3, 3, 3, 3, 3, 3, 3, 3, 3, 3, 3, 3] (A := [mb b_158 x_154 m_155, rC x_154.a0 x_154.c0 m_155.s, rS x_154.a1 x_154.c1 m_155.r, rS x_154.a2 x_154.c2 m_155.w, mb b_114 x_177 m_178, rC x_177.a0 x_177.c0 m_178.s, rS x_177.a1 x_177.c1 m_178.r, rS x_177.a2 x_177.c2 m_178.w, rI l_99a l_99c l_99, mb b_98 x_94 m_88, rC x_94.a0 x_94.c0 m_88.s, rS x_94.a1 x_94.c1 m_88.r, rS x_94.a2 x_94.c2 m_88.w, mb b_91 x_87 m_88, rC x_87.a0 x_87.c0 m_88.s, rS x_87.a1 x_87.c1 m_88.r, rS x_87.a2 x_87.c2 m_88.w, mb b_84 x_81 m_76, rC x_81.a0 x_81.c0 m_76.s, rS x_81.a1 x_81.c1 m_76.r, rS x_81.a2 x_81.c2 m_76.w, mb b_78 x_75 m_76, rC x_75.a0 x_75.c0 m_76.s, rS x_75.a1 x_75.c1 m_76.r, rS x_75.a2 x_75.c2 m_76.w]) (F := [rC x2.a0 x2.c0 mm2.s, rS x2.a1 x2.c1 mm2.r, rS x2.a2 x2.c2 mm2.w]) (by kernel_rfl) ?_
          refine JQ.again (5 - (q_ + 1)) (by omega) ⟨(q_ + 1), x_177, m_178, (k_176.mono (by omega) (by omega)), (by omega), (by rw [takesM, ← hT, e_175]), he_160, he_161, he_162, he_163, he_164, he_165, he_166, he_167, he_168, he_169, he_170, he_171, he_172, rfl, rfl, rfl⟩
        · skip
          refine JC.condT (congrArg Value.bool (congrArg Bool.not (decide_eq_false h_188))) ?_
          refine JC.seq ?_
          refine JC.region ?_
          refine JL.pure rfl (PO.assign (v := .bool false) rfl) ?_
          refine JL.nil ?_
          refine JQ.seq ?_
          refine JC.ret ?_
          refine JQ.blockRet ?_
          refine JQ.thenRet ?_
          refine JQ.thenRet ?_
          refine JQ.blockRet ?_
          refine JQ.thenRet ?_
          refine Done.one (.inl rfl) rfl (RV.tmp (v := .bool false) rfl) (List.nil_sublist _) ?_
          try rw [e_175] at hpq
          try rw [e_175] at hp4
          try rw [e_152] at hp3
          try rw [e_184] at hpq
          try simp only at hpq
          try simp only at hp4
          try simp only at hp3
          exfalso
          first | omega | contradiction | simp_all
      · skip
        rw [show q_ = 4 by omega] at hT
        rw [← hT] at hp4
        refine JC.condF (congrArg Value.bool (decide_eq_false h_174)) ?_
        refine JC.exit ?_
        refine JQ.thenExit ?_
        refine JQ.thenExit ?_
        refine JQ.blockE ?_
        refine JQ.seq ?_
        refine JC.seq ?_
        refine JC.region ?_
        refine JL.ld rfl (LO.loadK 4 (vs := [.slice x2.a0 mm2.s.length x2.c0, .slice x2.a1 mm2.r.length x2.c1, .slice x2.a2 mm2.w.length x2.c2]) rfl he_169 Tryz.isAgg32 Tryz.sizeOf32 rfl rfl) ?_
        refine JL.pure rfl (PO.move (v := .int .i64 n_110) he_170) ?_
        refine JL.op rfl (JO.call [] Tryz.call18 rfl (P_takePipe x2 mm2 hkmm2 (by omega) (by omega) n_110 (by omega)) rfl (fun w hw => ⟨⟨hw.see (i := 5) rfl, hw.see (i := 6) rfl, hw.see (i := 7) rfl⟩, hw.hex hlow hpre.2⟩)) ?_
        rintro _ _ ⟨_, ⟨x_191, m_192, u_193, n_195, e_189, k_190, f_194, f_196, rfl, rfl⟩, rfl⟩
        refine JL.pure rfl (PO.move (v := .tuple #[mv x_191 m_192, str u_193, .int .i64 n_195]) rfl) ?_
        refine JL.pure rfl (PO.extract (v := mv x_191 m_192) rfl rfl) ?_
        refine JL.pure rfl (PO.extract (v := str u_193) rfl rfl) ?_
        refine JL.pure rfl (PO.extract (v := .int .i64 n_195) rfl rfl) ?_
        refine JL.op rfl (JO.alloc (z := .agg #[.slice none 0 0, .slice none 0 0, .slice none 0 0]) (cs := [.slice none 0 0, .slice none 0 0, .slice none 0 0]) Tryz.zeroValue32 rfl) ?_
        rintro _ _ ⟨b_197, rfl, rfl⟩
        refine JL.op rfl (JO.store 0 (vs := [.slice x_191.a0 m_192.s.length x_191.c0, .slice x_191.a1 m_192.r.length x_191.c1, .slice x_191.a2 m_192.w.length x_191.c2]) (cs' := [.slice x_191.a0 m_192.s.length x_191.c0, .slice x_191.a1 m_192.r.length x_191.c1, .slice x_191.a2 m_192.w.length x_191.c2]) rfl rfl rfl rfl Tryz.sizeOf32 rfl rfl (Nat.le_of_ble_eq_true rfl) rfl) ?_
        rintro _ _ rfl
        refine JL.pure rfl (PO.assign (v := str u_193) rfl) ?_
        refine JL.pure rfl (PO.assign (v := .int .i64 n_195) rfl) ?_
        refine JL.nil ?_
        refine JQ.sub (L' := [mb b_98 x_94 m_88, rC x_94.a0 x_94.c0 m_88.s, rS x_94.a1 x_94.c1 m_88.r, rS x_94.a2 x_94.c2 m_88.w, mb b_91 x_87 m_88, rC x_87.a0 x_87.c0 m_88.s, rS x_87.a1 x_87.c1 m_88.r, rS x_87.a2 x_87.c2 m_88.w, mb b_84 x_81 m_76, rC x_81.a0 x_81.c0 m_76.s, rS x_81.a1 x_81.c1 m_76.r, rS x_81.a2 x_81.c2 m_76.w, mb b_78 x_75 m_76, rC x_75.a0 x_75.c0 m_76.s, rS x_75.a1 x_75.c1 m_76.r, rS x_75.a2 x_75.c2 m_76.w]) (.cons _ (.cons _ (.cons _ (.cons _ (.cons _ (.cons _ (.cons _ (.cons _ (.cons _ (.cons _ (.cons _ (.cons _ (.cons _ (.cons_cons _ (.cons_cons _ (.cons_cons _ (.cons_cons _ (.cons_cons _ (.cons_cons _ (.cons_cons _ (.cons_cons _ (.cons_cons _ (.cons_cons _ (.cons_cons _ (.cons_cons _ (.cons_cons _ (.cons_cons _ (.cons_cons _ (.cons_cons _ (.slnil)))))))))))))))))))))))))))))) ?_
        refine JQ.seq ?_
        refine JC.seq ?_
        refine JC.region ?_
        refine JL.pure rfl (PO.move (v := .bool b_77) he_161) ?_
        refine JL.pure rfl (PO.move (v := .bool b_77) he_163) ?_
        refine JL.pure rfl (PO.eqlB Tryz.underlying4 rfl rfl) ?_
        refine JL.pure rfl (PO.move (v := .bool (decide (b_77 = b_77))) rfl) ?_
        refine JL.guardOn rfl rfl rfl (congrArg Value.bool (decide_eq_true rfl)) (JO.ofLO (LO.loadK 12 (vs := [.slice x_75.a0 m_76.s.length x_75.c0, .slice x_75.a1 m_76.r.length x_75.c1, .slice x_75.a2 m_76.w.length x_75.c2]) rfl he_160 Tryz.isAgg32 Tryz.sizeOf32 rfl rfl)) ?_
        rintro _ _ ⟨rfl, rfl⟩
        refine JL.guardOn rfl rfl rfl (congrArg Value.bool (decide_eq_true rfl)) (JO.ofLO (LO.loadK 8 (vs := [.slice x_81.a0 m_76.s.length x_81.c0, .slice x_81.a1 m_76.r.length x_81.c1, .slice x_81.a2 m_76.w.length x_81.c2]) rfl he_162 Tryz.isAgg32 Tryz.sizeOf32 rfl rfl)) ?_
        rintro _ _ ⟨rfl, rfl⟩
        refine JL.guardOn rfl rfl rfl (congrArg Value.bool (decide_eq_true rfl)) (JO.call [] Tryz.call30 rfl (N_sameMach x_75 x_81 m_76 k_74 (by omega) (by omega)) rfl (fun w hw => ⟨⟨hw.see (i := 13) rfl, hw.see (i := 14) rfl, hw.see (i := 15) rfl⟩, ⟨hw.see (i := 9) rfl, hw.see (i := 10) rfl, hw.see (i := 11) rfl⟩⟩)) ?_
        rintro _ _ ⟨_, ⟨rfl, rfl⟩, rfl⟩
        refine JL.pure rfl (PO.pickT (v := .bool true) (congrArg Value.bool (decide_eq_true rfl)) rfl) ?_
        refine JL.pure rfl (PO.move (v := .bool true) rfl) ?_
        refine JL.guardOn rfl rfl rfl (congrArg Value.bool rfl) (JO.ofLO (LO.pure (PO.move (v := .int .i64 n_89) he_165))) ?_
        rintro _ _ ⟨rfl, rfl⟩
        refine JL.guardOn rfl rfl rfl (congrArg Value.bool rfl) (JO.ofLO (LO.pure (PO.move (v := .int .i64 n_89) he_167))) ?_
        rintro _ _ ⟨rfl, rfl⟩
        refine JL.guardOn rfl rfl rfl (congrArg Value.bool rfl) (JO.ofLO (LO.pure (PO.eqlI rfl rfl))) ?_
        rintro _ _ ⟨rfl, rfl⟩
        refine JL.pure rfl (PO.pickT (v := .bool (decide (n_89 = n_89))) (congrArg Value.bool rfl) rfl) ?_
        refine JL.pure rfl (PO.move (v := .bool (decide (n_89 = n_89))) rfl) ?_
        refine JL.guardOn rfl rfl rfl (congrArg Value.bool (decide_eq_true rfl)) (JO.ofLO (LO.loadK 4 (vs := [.slice x_87.a0 m_88.s.length x_87.c0, .slice x_87.a1 m_88.r.length x_87.c1, .slice x_87.a2 m_88.w.length x_87.c2]) rfl he_164 Tryz.isAgg32 Tryz.sizeOf32 rfl rfl)) ?_
        rintro _ _ ⟨rfl, rfl⟩
        refine JL.guardOn rfl rfl rfl (congrArg Value.bool (decide_eq_true rfl)) (JO.ofLO (LO.loadK 0 (vs := [.slice x_94.a0 m_88.s.length x_94.c0, .slice x_94.a1 m_88.r.length x_94.c1, .slice x_94.a2 m_88.w.length x_94.c2]) rfl he_166 Tryz.isAgg32 Tryz.sizeOf32 rfl rfl)) ?_
        rintro _ _ ⟨rfl, rfl⟩
        refine JL.guardOn rfl rfl rfl (congrArg Value.bool (decide_eq_true rfl)) (JO.call [] Tryz.call30 rfl (N_sameMach x_87 x_94 m_88 k_86 (by omega) (by omega)) rfl (fun w hw => ⟨⟨hw.see (i := 5) rfl, hw.see (i := 6) rfl, hw.see (i := 7) rfl⟩, ⟨hw.see (i := 1) rfl, hw.see (i := 2) rfl, hw.see (i := 3) rfl⟩⟩)) ?_
        rintro _ _ ⟨_, ⟨rfl, rfl⟩, rfl⟩
        refine JL.pure rfl (PO.pickT (v := .bool true) (congrArg Value.bool (decide_eq_true rfl)) rfl) ?_
        refine JL.pure rfl (PO.move (v := .bool true) rfl) ?_
        refine JL.guardOn rfl rfl rfl (congrArg Value.bool rfl) (JO.ofLO (LO.pure (PO.move (v := .int .i64 full_) he_171))) ?_
        rintro _ _ ⟨rfl, rfl⟩
        refine JL.guardOn rfl rfl rfl (congrArg Value.bool rfl) (JO.ofLO (LO.pure (PO.eqlI rfl rfl))) ?_
        rintro _ _ ⟨rfl, rfl⟩
        refine JL.pure rfl (PO.pickT (v := .bool (decide (full_ = 0))) (congrArg Value.bool rfl) rfl) ?_
        refine JL.pure rfl (PO.move (v := .bool (decide (full_ = 0))) rfl) ?_
        by_cases h_198 : full_ = 0
        · skip
          refine JL.guardOn rfl rfl rfl (congrArg Value.bool (decide_eq_true h_198)) (JO.ofLO (LO.pure (PO.move (v := .int .i64 n_156) he_172))) ?_
          rintro _ _ ⟨rfl, rfl⟩
          refine JL.guardOn rfl rfl rfl (congrArg Value.bool (decide_eq_true h_198)) (JO.ofLO (LO.pure (PO.eqlI rfl rfl))) ?_
          rintro _ _ ⟨rfl, rfl⟩
          refine JL.pure rfl (PO.pickT (v := .bool (decide (n_156 = 5))) (congrArg Value.bool (decide_eq_true h_198)) rfl) ?_
          refine JL.pure rfl (PO.move (v := .bool (decide (n_156 = 5))) rfl) ?_
          by_cases h_199 : n_156 = 5
          · skip
            refine JL.guardOn rfl rfl rfl (congrArg Value.bool (decide_eq_true h_199)) (JO.ofLO (LO.pure (PO.move (v := .int .i64 n_195) rfl))) ?_
            rintro _ _ ⟨rfl, rfl⟩
            refine JL.guardOn rfl rfl rfl (congrArg Value.bool (decide_eq_true h_199)) (JO.ofLO (LO.pure (PO.eqlI rfl rfl))) ?_
            rintro _ _ ⟨rfl, rfl⟩
            refine JL.pure rfl (PO.pickT (v := .bool (decide (n_195 = 5))) (congrArg Value.bool (decide_eq_true h_199)) rfl) ?_
            refine JL.pure rfl (PO.move (v := .bool (decide (n_195 = 5))) rfl) ?_
            by_cases h_200 : n_195 = 5
            · skip
              refine JL.guardOn rfl rfl rfl (congrArg Value.bool (decide_eq_true h_200)) (JO.ofLO (LO.pure (PO.move (v := .int .i64 n_110) he_170))) ?_
              rintro _ _ ⟨rfl, rfl⟩
              refine JL.guardOn rfl rfl rfl (congrArg Value.bool (decide_eq_true h_200)) (JO.ofLO (LO.pure (PO.eqlI rfl rfl))) ?_
              rintro _ _ ⟨rfl, rfl⟩
              refine JL.pure rfl (PO.pickT (v := .bool (decide (n_110 = 1))) (congrArg Value.bool (decide_eq_true h_200)) rfl) ?_
              refine JL.pure rfl (PO.assign (v := .bool (decide (n_110 = 1))) rfl) ?_
              refine JL.nil ?_
              refine JQ.sub (L' := []) (.cons _ (.cons _ (.cons _ (.cons _ (.cons _ (.cons _ (.cons _ (.cons _ (.cons _ (.cons _ (.cons _ (.cons _ (.cons _ (.cons _ (.cons _ (.cons _ (.slnil))))))))))))))))) ?_
              refine JQ.seq ?_
              refine JC.ret ?_
              refine Done.one (.inl rfl) rfl (RV.tmp (v := .bool (decide (n_110 = 1))) rfl) (List.nil_sublist _) ?_
              try rw [e_189] at hpq
              try rw [e_189] at hp4
              try rw [e_152] at hp3
              try simp only at hpq
              try simp only at hp4
              try simp only at hp3
              refine ⟨congrArg Value.bool ?_, rfl⟩
              simp only [decide_eq_true_eq]
              first | omega | assumption | simp_all
            · skip
              refine JL.guardOff (b := false) rfl rfl rfl (congrArg Value.bool (decide_eq_false h_200)) ?_
              refine JL.guardOff (b := false) rfl rfl rfl (congrArg Value.bool (decide_eq_false h_200)) ?_
              refine JL.pure rfl (PO.pickF (v := .bool false) (congrArg Value.bool (decide_eq_false h_200)) rfl) ?_
              refine JL.pure rfl (PO.assign (v := .bool false) rfl) ?_
              refine JL.nil ?_
              refine JQ.sub (L' := []) (.cons _ (.cons _ (.cons _ (.cons _ (.cons _ (.cons _ (.cons _ (.cons _ (.cons _ (.cons _ (.cons _ (.cons _ (.cons _ (.cons _ (.cons _ (.cons _ (.slnil))))))))))))))))) ?_
              refine JQ.seq ?_
              refine JC.ret ?_
              refine Done.one (.inl rfl) rfl (RV.tmp (v := .bool false) rfl) (List.nil_sublist _) ?_
              try rw [e_189] at hpq
              try rw [e_189] at hp4
              try rw [e_152] at hp3
              try simp only at hpq
              try simp only at hp4
              try simp only at hp3
              exfalso
              first | omega | contradiction | simp_all
          · skip
            refine JL.guardOff (b := false) rfl rfl rfl (congrArg Value.bool (decide_eq_false h_199)) ?_
            refine JL.guardOff (b := false) rfl rfl rfl (congrArg Value.bool (decide_eq_false h_199)) ?_
            refine JL.pure rfl (PO.pickF (v := .bool false) (congrArg Value.bool (decide_eq_false h_199)) rfl) ?_
            refine JL.pure rfl (PO.move (v := .bool false) rfl) ?_
            refine JL.guardOff (b := false) rfl rfl rfl (congrArg Value.bool rfl) ?_
            refine JL.guardOff (b := false) rfl rfl rfl (congrArg Value.bool rfl) ?_
            refine JL.pure rfl (PO.pickF (v := .bool false) (congrArg Value.bool rfl) rfl) ?_
            refine JL.pure rfl (PO.assign (v := .bool false) rfl) ?_
            refine JL.nil ?_
            refine JQ.sub (L' := []) (.cons _ (.cons _ (.cons _ (.cons _ (.cons _ (.cons _ (.cons _ (.cons _ (.cons _ (.cons _ (.cons _ (.cons _ (.cons _ (.cons _ (.cons _ (.cons _ (.slnil))))))))))))))))) ?_
            refine JQ.seq ?_
            refine JC.ret ?_
            refine Done.one (.inl rfl) rfl (RV.tmp (v := .bool false) rfl) (List.nil_sublist _) ?_
            try rw [e_189] at hpq
            try rw [e_189] at hp4
            try rw [e_152] at hp3
            try simp only at hpq
            try simp only at hp4
            try simp only at hp3
            exfalso
            first | omega | contradiction | simp_all
        · skip
          refine JL.guardOff (b := false) rfl rfl rfl (congrArg Value.bool (decide_eq_false h_198)) ?_
          refine JL.guardOff (b := false) rfl rfl rfl (congrArg Value.bool (decide_eq_false h_198)) ?_
          refine JL.pure rfl (PO.pickF (v := .bool false) (congrArg Value.bool (decide_eq_false h_198)) rfl) ?_
          refine JL.pure rfl (PO.move (v := .bool false) rfl) ?_
          refine JL.guardOff (b := false) rfl rfl rfl (congrArg Value.bool rfl) ?_
          refine JL.guardOff (b := false) rfl rfl rfl (congrArg Value.bool rfl) ?_
          refine JL.pure rfl (PO.pickF (v := .bool false) (congrArg Value.bool rfl) rfl) ?_
          refine JL.pure rfl (PO.move (v := .bool false) rfl) ?_
          refine JL.guardOff (b := false) rfl rfl rfl (congrArg Value.bool rfl) ?_
          refine JL.guardOff (b := false) rfl rfl rfl (congrArg Value.bool rfl) ?_
          refine JL.pure rfl (PO.pickF (v := .bool false) (congrArg Value.bool rfl) rfl) ?_
          refine JL.pure rfl (PO.assign (v := .bool false) rfl) ?_
          refine JL.nil ?_
          refine JQ.sub (L' := []) (.cons _ (.cons _ (.cons _ (.cons _ (.cons _ (.cons _ (.cons _ (.cons _ (.cons _ (.cons _ (.cons _ (.cons _ (.cons _ (.cons _ (.cons _ (.cons _ (.slnil))))))))))))))))) ?_
          refine JQ.seq ?_
          refine JC.ret ?_
          refine Done.one (.inl rfl) rfl (RV.tmp (v := .bool false) rfl) (List.nil_sublist _) ?_
          try rw [e_189] at hpq
          try rw [e_189] at hp4
          try rw [e_152] at hp3
          try simp only at hpq
          try simp only at hp4
          try simp only at hp3
          exfalso
          first | omega | contradiction | simp_all

end Go.Proofs.YtenfajgpdhgknaaGreatDoor
