/-
  A law that draws, walked: it says yes at every row of bytes.
-/
import Derived.Test.YtenfajgpdhgknaaGreatDoorS26DRAWNp1
import Derived.Test.YtenfajgpdhgknaaGreatDoorS26DRAWN
set_option linter.unusedSimpArgs false
set_option linter.unusedVariables false
set_option linter.unnecessarySimpa false
set_option maxRecDepth 8000
namespace Go.Proofs.YtenfajgpdhgknaaGreatDoor
open Go Go.RowKit
attribute [local irreducible] JL JC JQ JO LO PO JA JX Ct

set_option maxHeartbeats 1600000 in
theorem L_Procs (pa : Option Addr) (pc : Nat) (p : Str) :
    Ct Tryz.prog 10 [.slice pa p.length pc] [] (fun w => Sees w (.slice pa p.length pc) 1 p.length (p.map encB)) (fun v A' => v = .bool true ∧ A' = []) := by
  refine Ct.intro Tryz.func10 rfl Tryz.ntmps10 (Nat.le_of_ble_eq_true rfl) fun w0 hpre => ?_
  have hs_pa : Sees w0 _ _ _ _ := hpre
  refine JC.seq ?_
  refine JC.region ?_
  refine JL.pure rfl (PO.assign (v := .bool false) rfl) ?_
  refine JL.nil ?_
  refine JQ.seq ?_
  refine JC.seq ?_
  refine JC.seq ?_
  refine JC.region ?_
  refine JL.pure rfl (PO.move (v := .slice pa p.length pc) rfl) ?_
  refine JL.op rfl (JO.call [] Tryz.call26 rfl (N_big pa pc p) rfl (fun _ _ => trivial)) ?_
  rintro _ _ ⟨_, ⟨rfl, rfl⟩, rfl⟩
  refine JL.nil ?_
  refine JQ.seq ?_
  by_cases h_1 : 1048576 < ((p.length : Nat) : Int)
  · skip
    refine JC.condT (congrArg Value.bool (decide_eq_true h_1)) ?_
    refine JC.seq ?_
    refine JC.region ?_
    refine JL.pure rfl (PO.assign (v := .bool true) rfl) ?_
    refine JL.nil ?_
    refine JQ.seq ?_
    refine JC.ret ?_
    refine JQ.thenRet ?_
    refine Done.one (.inl rfl) rfl (RV.tmp (v := .bool true) rfl) (List.nil_sublist _) ?_
    exact ⟨rfl, rfl⟩
  · skip
    refine JC.condF (congrArg Value.bool (decide_eq_false h_1)) ?_
    refine JC.skip ?_
    refine JQ.seq ?_
    refine JC.seq ?_
    refine JC.region ?_
    refine JL.pure rfl (PO.move (v := .slice pa p.length pc) rfl) ?_
    refine JL.op rfl (JO.call [] Tryz.call65 rfl (D_dSpawnProc pa pc p (by omega)) rfl (fun w hw => hw.seeOut_ hs_pa (fun _ _ => List.not_mem_nil))) ?_
    rintro _ _ ⟨_, ⟨x_2, m_3, n_5, k_4, f_6, rfl, rfl⟩, rfl⟩
    refine JL.pure rfl (PO.move (v := .tuple #[mv x_2 m_3, .int .i64 n_5]) rfl) ?_
    refine JL.pure rfl (PO.extract (v := mv x_2 m_3) rfl rfl) ?_
    refine JL.pure rfl (PO.extract (v := .int .i64 n_5) rfl rfl) ?_
    refine JL.op rfl (JO.alloc (z := .agg #[.slice none 0 0, .slice none 0 0, .slice none 0 0]) (cs := [.slice none 0 0, .slice none 0 0, .slice none 0 0]) Tryz.zeroValue32 rfl) ?_
    rintro _ _ ⟨b_8, rfl, rfl⟩
    refine JL.op rfl (JO.store 0 (vs := [.slice x_2.a0 m_3.s.length x_2.c0, .slice x_2.a1 m_3.r.length x_2.c1, .slice x_2.a2 m_3.w.length x_2.c2]) (cs' := [.slice x_2.a0 m_3.s.length x_2.c0, .slice x_2.a1 m_3.r.length x_2.c1, .slice x_2.a2 m_3.w.length x_2.c2]) rfl rfl rfl rfl Tryz.sizeOf32 rfl rfl (Nat.le_of_ble_eq_true rfl) rfl) ?_
    rintro _ _ rfl
    refine JL.pure rfl (PO.assign (v := .int .i64 n_5) rfl) ?_
    refine JL.nil ?_
    refine JQ.seq ?_
    refine JC.seq ?_
    refine JC.region ?_
    refine JL.ld rfl (LO.loadK 0 (vs := [.slice x_2.a0 m_3.s.length x_2.c0, .slice x_2.a1 m_3.r.length x_2.c1, .slice x_2.a2 m_3.w.length x_2.c2]) rfl rfl Tryz.isAgg32 Tryz.sizeOf32 rfl rfl) ?_
    refine JL.pure rfl (PO.move (v := .int .i64 n_5) rfl) ?_
    refine JL.op rfl (JO.call [] Tryz.call66 rfl (P_spawn x_2 m_3 k_4 (by omega) (by omega) n_5 (by omega)) rfl (fun w hw => ⟨hw.see (i := 1) rfl, hw.see (i := 2) rfl, hw.see (i := 3) rfl⟩)) ?_
    rintro _ _ ⟨_, ⟨x_11, m_12, n_13, n_15, e_9, k_10, f_14, f_16, rfl, rfl⟩, rfl⟩
    refine JL.pure rfl (PO.move (v := .tuple #[mv x_11 m_12, .int .i64 n_13, .int .i64 n_15]) rfl) ?_
    refine JL.pure rfl (PO.extract (v := mv x_11 m_12) rfl rfl) ?_
    refine JL.pure rfl (PO.extract (v := .int .i64 n_13) rfl rfl) ?_
    refine JL.pure rfl (PO.extract (v := .int .i64 n_15) rfl rfl) ?_
    refine JL.op rfl (JO.alloc (z := .agg #[.slice none 0 0, .slice none 0 0, .slice none 0 0]) (cs := [.slice none 0 0, .slice none 0 0, .slice none 0 0]) Tryz.zeroValue32 rfl) ?_
    rintro _ _ ⟨b_17, rfl, rfl⟩
    refine JL.op rfl (JO.store 0 (vs := [.slice x_11.a0 m_12.s.length x_11.c0, .slice x_11.a1 m_12.r.length x_11.c1, .slice x_11.a2 m_12.w.length x_11.c2]) (cs' := [.slice x_11.a0 m_12.s.length x_11.c0, .slice x_11.a1 m_12.r.length x_11.c1, .slice x_11.a2 m_12.w.length x_11.c2]) rfl rfl rfl rfl Tryz.sizeOf32 rfl rfl (Nat.le_of_ble_eq_true rfl) rfl) ?_
    rintro _ _ rfl
    refine JL.pure rfl (PO.assign (v := .int .i64 n_13) rfl) ?_
    refine JL.pure rfl (PO.assign (v := .int .i64 n_15) rfl) ?_
    refine JL.nil ?_
    refine JQ.seq ?_
    refine JC.seq ?_
    refine JC.region ?_
    refine JL.ld rfl (LO.loadK 4 (vs := [.slice x_2.a0 m_3.s.length x_2.c0, .slice x_2.a1 m_3.r.length x_2.c1, .slice x_2.a2 m_3.w.length x_2.c2]) rfl rfl Tryz.isAgg32 Tryz.sizeOf32 rfl rfl) ?_
    refine JL.pure rfl (PO.move (v := .int .i64 n_5) rfl) ?_
    refine JL.op rfl (JO.call [] Tryz.call67 rfl (Q_spawn x_2 m_3 k_4 (by omega) (by omega) n_5 (by omega)) rfl (fun w hw => ⟨hw.see (i := 5) rfl, hw.see (i := 6) rfl, hw.see (i := 7) rfl⟩)) ?_
    rintro _ _ ⟨_, ⟨x_20, m_21, n_22, n_24, e_18, k_19, f_23, f_25, rfl, rfl⟩, rfl⟩
    have hqe_18 := e_9.symm.trans e_18
    simp only [Prod.mk.injEq] at hqe_18
    obtain ⟨rfl, rfl, rfl⟩ := hqe_18
    refine JL.pure rfl (PO.move (v := .tuple #[mv x_20 m_12, .int .i64 n_13, .int .i64 n_15]) rfl) ?_
    refine JL.pure rfl (PO.extract (v := mv x_20 m_12) rfl rfl) ?_
    refine JL.pure rfl (PO.extract (v := .int .i64 n_13) rfl rfl) ?_
    refine JL.pure rfl (PO.extract (v := .int .i64 n_15) rfl rfl) ?_
    refine JL.op rfl (JO.alloc (z := .agg #[.slice none 0 0, .slice none 0 0, .slice none 0 0]) (cs := [.slice none 0 0, .slice none 0 0, .slice none 0 0]) Tryz.zeroValue32 rfl) ?_
    rintro _ _ ⟨b_26, rfl, rfl⟩
    refine JL.op rfl (JO.store 0 (vs := [.slice x_20.a0 m_12.s.length x_20.c0, .slice x_20.a1 m_12.r.length x_20.c1, .slice x_20.a2 m_12.w.length x_20.c2]) (cs' := [.slice x_20.a0 m_12.s.length x_20.c0, .slice x_20.a1 m_12.r.length x_20.c1, .slice x_20.a2 m_12.w.length x_20.c2]) rfl rfl rfl rfl Tryz.sizeOf32 rfl rfl (Nat.le_of_ble_eq_true rfl) rfl) ?_
    rintro _ _ rfl
    refine JL.pure rfl (PO.assign (v := .int .i64 n_13) rfl) ?_
    refine JL.pure rfl (PO.assign (v := .int .i64 n_15) rfl) ?_
    refine JL.nil ?_
    refine JQ.seq ?_
    refine JC.seq ?_
    refine JC.region ?_
    refine JL.pure rfl (PO.move (v := .slice pa p.length pc) rfl) ?_
    refine JL.op rfl (JO.call [] Tryz.call68 rfl (D_dEndProc pa pc p (by omega)) rfl (fun w hw => hw.seeOut_ hs_pa (fun _ _ => List.not_mem_nil))) ?_
    rintro _ _ ⟨_, ⟨x_27, m_28, n_30, n_32, k_29, f_31, f_33, rfl, rfl⟩, rfl⟩
    refine JL.pure rfl (PO.move (v := .tuple #[mv x_27 m_28, .int .i64 n_30, .int .i64 n_32]) rfl) ?_
    refine JL.pure rfl (PO.extract (v := mv x_27 m_28) rfl rfl) ?_
    refine JL.pure rfl (PO.extract (v := .int .i64 n_30) rfl rfl) ?_
    refine JL.pure rfl (PO.extract (v := .int .i64 n_32) rfl rfl) ?_
    refine JL.op rfl (JO.alloc (z := .agg #[.slice none 0 0, .slice none 0 0, .slice none 0 0]) (cs := [.slice none 0 0, .slice none 0 0, .slice none 0 0]) Tryz.zeroValue32 rfl) ?_
    rintro _ _ ⟨b_35, rfl, rfl⟩
    refine JL.op rfl (JO.store 0 (vs := [.slice x_27.a0 m_28.s.length x_27.c0, .slice x_27.a1 m_28.r.length x_27.c1, .slice x_27.a2 m_28.w.length x_27.c2]) (cs' := [.slice x_27.a0 m_28.s.length x_27.c0, .slice x_27.a1 m_28.r.length x_27.c1, .slice x_27.a2 m_28.w.length x_27.c2]) rfl rfl rfl rfl Tryz.sizeOf32 rfl rfl (Nat.le_of_ble_eq_true rfl) rfl) ?_
    rintro _ _ rfl
    refine JL.pure rfl (PO.assign (v := .int .i64 n_30) rfl) ?_
    refine JL.pure rfl (PO.assign (v := .int .i64 n_32) rfl) ?_
    refine JL.nil ?_
    refine JQ.seq ?_
    refine JC.seq ?_
    refine JC.region ?_
    refine JL.ld rfl (LO.loadK 0 (vs := [.slice x_27.a0 m_28.s.length x_27.c0, .slice x_27.a1 m_28.r.length x_27.c1, .slice x_27.a2 m_28.w.length x_27.c2]) rfl rfl Tryz.isAgg32 Tryz.sizeOf32 rfl rfl) ?_
    refine JL.pure rfl (PO.move (v := .int .i64 n_30) rfl) ?_
    refine JL.pure rfl (PO.move (v := .int .i64 n_32) rfl) ?_
    refine JL.op rfl (JO.call [] Tryz.call69 rfl (P_end x_27 m_28 k_29 (by omega) (by omega) n_30 n_32 (by omega) (by omega)) rfl (fun w hw => ⟨hw.see (i := 1) rfl, hw.see (i := 2) rfl, hw.see (i := 3) rfl⟩)) ?_
    rintro _ _ ⟨_, ⟨x_38, m_39, n_40, e_36, k_37, f_41, rfl, rfl⟩, rfl⟩
    refine JL.pure rfl (PO.move (v := .tuple #[mv x_38 m_39, .int .i64 n_40]) rfl) ?_
    refine JL.pure rfl (PO.extract (v := mv x_38 m_39) rfl rfl) ?_
    refine JL.pure rfl (PO.extract (v := .int .i64 n_40) rfl rfl) ?_
    refine JL.op rfl (JO.alloc (z := .agg #[.slice none 0 0, .slice none 0 0, .slice none 0 0]) (cs := [.slice none 0 0, .slice none 0 0, .slice none 0 0]) Tryz.zeroValue32 rfl) ?_
    rintro _ _ ⟨b_42, rfl, rfl⟩
    refine JL.op rfl (JO.store 0 (vs := [.slice x_38.a0 m_39.s.length x_38.c0, .slice x_38.a1 m_39.r.length x_38.c1, .slice x_38.a2 m_39.w.length x_38.c2]) (cs' := [.slice x_38.a0 m_39.s.length x_38.c0, .slice x_38.a1 m_39.r.length x_38.c1, .slice x_38.a2 m_39.w.length x_38.c2]) rfl rfl rfl rfl Tryz.sizeOf32 rfl rfl (Nat.le_of_ble_eq_true rfl) rfl) ?_
    rintro _ _ rfl
    refine JL.pure rfl (PO.assign (v := .int .i64 n_40) rfl) ?_
    refine JL.nil ?_
    refine JQ.seq ?_
    refine JC.seq ?_
    refine JC.region ?_
    refine JL.ld rfl (LO.loadK 4 (vs := [.slice x_27.a0 m_28.s.length x_27.c0, .slice x_27.a1 m_28.r.length x_27.c1, .slice x_27.a2 m_28.w.length x_27.c2]) rfl rfl Tryz.isAgg32 Tryz.sizeOf32 rfl rfl) ?_
    refine JL.pure rfl (PO.move (v := .int .i64 n_30) rfl) ?_
    refine JL.pure rfl (PO.move (v := .int .i64 n_32) rfl) ?_
    refine JL.op rfl (JO.call [] Tryz.call70 rfl (Q_end x_27 m_28 k_29 (by omega) (by omega) n_30 n_32 (by omega) (by omega)) rfl (fun w hw => ⟨hw.see (i := 5) rfl, hw.see (i := 6) rfl, hw.see (i := 7) rfl⟩)) ?_
    rintro _ _ ⟨_, ⟨x_45, m_46, n_47, e_43, k_44, f_48, rfl, rfl⟩, rfl⟩
    have hqe_43 := e_36.symm.trans e_43
    simp only [Prod.mk.injEq] at hqe_43
    obtain ⟨rfl, rfl⟩ := hqe_43
    refine JL.pure rfl (PO.move (v := .tuple #[mv x_45 m_39, .int .i64 n_40]) rfl) ?_
    refine JL.pure rfl (PO.extract (v := mv x_45 m_39) rfl rfl) ?_
    refine JL.pure rfl (PO.extract (v := .int .i64 n_40) rfl rfl) ?_
    refine JL.op rfl (JO.alloc (z := .agg #[.slice none 0 0, .slice none 0 0, .slice none 0 0]) (cs := [.slice none 0 0, .slice none 0 0, .slice none 0 0]) Tryz.zeroValue32 rfl) ?_
    rintro _ _ ⟨b_49, rfl, rfl⟩
    refine JL.op rfl (JO.store 0 (vs := [.slice x_45.a0 m_39.s.length x_45.c0, .slice x_45.a1 m_39.r.length x_45.c1, .slice x_45.a2 m_39.w.length x_45.c2]) (cs' := [.slice x_45.a0 m_39.s.length x_45.c0, .slice x_45.a1 m_39.r.length x_45.c1, .slice x_45.a2 m_39.w.length x_45.c2]) rfl rfl rfl rfl Tryz.sizeOf32 rfl rfl (Nat.le_of_ble_eq_true rfl) rfl) ?_
    rintro _ _ rfl
    refine JL.pure rfl (PO.assign (v := .int .i64 n_40) rfl) ?_
    refine JL.nil ?_
    refine JQ.sub (L' := [mb b_49 x_45 m_39, rC x_45.a0 x_45.c0 m_39.s, rS x_45.a1 x_45.c1 m_39.r, rS x_45.a2 x_45.c2 m_39.w, mb b_42 x_38 m_39, rC x_38.a0 x_38.c0 m_39.s, rS x_38.a1 x_38.c1 m_39.r, rS x_38.a2 x_38.c2 m_39.w, mb b_26 x_20 m_12, rC x_20.a0 x_20.c0 m_12.s, rS x_20.a1 x_20.c1 m_12.r, rS x_20.a2 x_20.c2 m_12.w, mb b_17 x_11 m_12, rC x_11.a0 x_11.c0 m_12.s, rS x_11.a1 x_11.c1 m_12.r, rS x_11.a2 x_11.c2 m_12.w]) (.cons_cons _ (.cons_cons _ (.cons_cons _ (.cons_cons _ (.cons_cons _ (.cons_cons _ (.cons_cons _ (.cons_cons _ (.cons _ (.cons _ (.cons _ (.cons _ (.cons_cons _ (.cons_cons _ (.cons_cons _ (.cons_cons _ (.cons_cons _ (.cons_cons _ (.cons_cons _ (.cons_cons _ (.cons _ (.cons _ (.cons _ (.cons _ (.slnil))))))))))))))))))))))))) ?_
    refine JQ.seq ?_
    refine JC.seq ?_
    refine JC.region ?_
    refine JL.pure rfl (PO.move (v := .slice pa p.length pc) rfl) ?_
    refine JL.op rfl (JO.call [] Tryz.call71 rfl (D_dReapProc pa pc p (by omega)) rfl (fun w hw => hw.seeOut_ hs_pa (fun _ _ => List.not_mem_nil))) ?_
    rintro _ _ ⟨_, ⟨x_50, m_51, n_53, n_55, k_52, f_54, f_56, rfl, rfl⟩, rfl⟩
    refine JL.pure rfl (PO.move (v := .tuple #[mv x_50 m_51, .int .i64 n_53, .int .i64 n_55]) rfl) ?_
    refine JL.pure rfl (PO.extract (v := mv x_50 m_51) rfl rfl) ?_
    refine JL.pure rfl (PO.extract (v := .int .i64 n_53) rfl rfl) ?_
    refine JL.pure rfl (PO.extract (v := .int .i64 n_55) rfl rfl) ?_
    refine JL.op rfl (JO.alloc (z := .agg #[.slice none 0 0, .slice none 0 0, .slice none 0 0]) (cs := [.slice none 0 0, .slice none 0 0, .slice none 0 0]) Tryz.zeroValue32 rfl) ?_
    rintro _ _ ⟨b_58, rfl, rfl⟩
    refine JL.op rfl (JO.store 0 (vs := [.slice x_50.a0 m_51.s.length x_50.c0, .slice x_50.a1 m_51.r.length x_50.c1, .slice x_50.a2 m_51.w.length x_50.c2]) (cs' := [.slice x_50.a0 m_51.s.length x_50.c0, .slice x_50.a1 m_51.r.length x_50.c1, .slice x_50.a2 m_51.w.length x_50.c2]) rfl rfl rfl rfl Tryz.sizeOf32 rfl rfl (Nat.le_of_ble_eq_true rfl) rfl) ?_
    rintro _ _ rfl
    refine JL.pure rfl (PO.assign (v := .int .i64 n_53) rfl) ?_
    refine JL.pure rfl (PO.assign (v := .int .i64 n_55) rfl) ?_
    refine JL.nil ?_
    refine JQ.seq ?_
    refine JC.seq ?_
    refine JC.region ?_
    refine JL.ld rfl (LO.loadK 0 (vs := [.slice x_50.a0 m_51.s.length x_50.c0, .slice x_50.a1 m_51.r.length x_50.c1, .slice x_50.a2 m_51.w.length x_50.c2]) rfl rfl Tryz.isAgg32 Tryz.sizeOf32 rfl rfl) ?_
    refine JL.pure rfl (PO.move (v := .int .i64 n_53) rfl) ?_
    refine JL.pure rfl (PO.move (v := .int .i64 n_55) rfl) ?_
    refine JL.op rfl (JO.call [] Tryz.call72 rfl (P_reap x_50 m_51 k_52 (by omega) (by omega) n_53 n_55 (by omega) (by omega)) rfl (fun w hw => ⟨hw.see (i := 1) rfl, hw.see (i := 2) rfl, hw.see (i := 3) rfl⟩)) ?_
    rintro _ _ ⟨_, ⟨x_61, m_62, n_63, n_65, e_59, k_60, f_64, f_66, rfl, rfl⟩, rfl⟩
    refine JL.pure rfl (PO.move (v := .tuple #[mv x_61 m_62, .int .i64 n_63, .int .i64 n_65]) rfl) ?_
    refine JL.pure rfl (PO.extract (v := mv x_61 m_62) rfl rfl) ?_
    refine JL.pure rfl (PO.extract (v := .int .i64 n_63) rfl rfl) ?_
    refine JL.pure rfl (PO.extract (v := .int .i64 n_65) rfl rfl) ?_
    refine JL.op rfl (JO.alloc (z := .agg #[.slice none 0 0, .slice none 0 0, .slice none 0 0]) (cs := [.slice none 0 0, .slice none 0 0, .slice none 0 0]) Tryz.zeroValue32 rfl) ?_
    rintro _ _ ⟨b_67, rfl, rfl⟩
    refine JL.op rfl (JO.store 0 (vs := [.slice x_61.a0 m_62.s.length x_61.c0, .slice x_61.a1 m_62.r.length x_61.c1, .slice x_61.a2 m_62.w.length x_61.c2]) (cs' := [.slice x_61.a0 m_62.s.length x_61.c0, .slice x_61.a1 m_62.r.length x_61.c1, .slice x_61.a2 m_62.w.length x_61.c2]) rfl rfl rfl rfl Tryz.sizeOf32 rfl rfl (Nat.le_of_ble_eq_true rfl) rfl) ?_
    rintro _ _ rfl
    refine JL.pure rfl (PO.assign (v := .int .i64 n_63) rfl) ?_
    refine JL.pure rfl (PO.assign (v := .int .i64 n_65) rfl) ?_
    refine JL.nil ?_
    refine JQ.seq ?_
    refine JC.seq ?_
    refine JC.region ?_
    refine JL.ld rfl (LO.loadK 4 (vs := [.slice x_50.a0 m_51.s.length x_50.c0, .slice x_50.a1 m_51.r.length x_50.c1, .slice x_50.a2 m_51.w.length x_50.c2]) rfl rfl Tryz.isAgg32 Tryz.sizeOf32 rfl rfl) ?_
    refine JL.pure rfl (PO.move (v := .int .i64 n_53) rfl) ?_
    refine JL.pure rfl (PO.move (v := .int .i64 n_55) rfl) ?_
    refine JL.op rfl (JO.call [] Tryz.call73 rfl (Q_reap x_50 m_51 k_52 (by omega) (by omega) n_53 n_55 (by omega) (by omega)) rfl (fun w hw => ⟨hw.see (i := 5) rfl, hw.see (i := 6) rfl, hw.see (i := 7) rfl⟩)) ?_
    rintro _ _ ⟨_, ⟨x_70, m_71, n_72, n_74, e_68, k_69, f_73, f_75, rfl, rfl⟩, rfl⟩
    have hqe_68 := e_59.symm.trans e_68
    simp only [Prod.mk.injEq] at hqe_68
    obtain ⟨rfl, rfl, rfl⟩ := hqe_68
    refine JL.pure rfl (PO.move (v := .tuple #[mv x_70 m_62, .int .i64 n_63, .int .i64 n_65]) rfl) ?_
    refine JL.pure rfl (PO.extract (v := mv x_70 m_62) rfl rfl) ?_
    refine JL.pure rfl (PO.extract (v := .int .i64 n_63) rfl rfl) ?_
    refine JL.pure rfl (PO.extract (v := .int .i64 n_65) rfl rfl) ?_
    refine JL.op rfl (JO.alloc (z := .agg #[.slice none 0 0, .slice none 0 0, .slice none 0 0]) (cs := [.slice none 0 0, .slice none 0 0, .slice none 0 0]) Tryz.zeroValue32 rfl) ?_
    rintro _ _ ⟨b_76, rfl, rfl⟩
    refine JL.op rfl (JO.store 0 (vs := [.slice x_70.a0 m_62.s.length x_70.c0, .slice x_70.a1 m_62.r.length x_70.c1, .slice x_70.a2 m_62.w.length x_70.c2]) (cs' := [.slice x_70.a0 m_62.s.length x_70.c0, .slice x_70.a1 m_62.r.length x_70.c1, .slice x_70.a2 m_62.w.length x_70.c2]) rfl rfl rfl rfl Tryz.sizeOf32 rfl rfl (Nat.le_of_ble_eq_true rfl) rfl) ?_
    rintro _ _ rfl
    refine JL.pure rfl (PO.assign (v := .int .i64 n_63) rfl) ?_
    refine JL.pure rfl (PO.assign (v := .int .i64 n_65) rfl) ?_
    refine JL.nil ?_
    refine JQ.seq ?_
    refine JC.seq ?_
    refine JC.region ?_
    refine JL.pure rfl (PO.move (v := .slice pa p.length pc) rfl) ?_
    refine JL.op rfl (JO.call [] Tryz.call74 rfl (D_dKidsOf pa pc p (by omega)) rfl (fun w hw => hw.seeOut_ hs_pa (fun _ _ => List.not_mem_nil))) ?_
    rintro _ _ ⟨_, ⟨x_77, m_78, n_80, k_79, f_81, rfl, rfl⟩, rfl⟩
    refine JL.pure rfl (PO.move (v := .tuple #[mv x_77 m_78, .int .i64 n_80]) rfl) ?_
    refine JL.pure rfl (PO.extract (v := mv x_77 m_78) rfl rfl) ?_
    refine JL.pure rfl (PO.extract (v := .int .i64 n_80) rfl rfl) ?_
    refine JL.op rfl (JO.alloc (z := .agg #[.slice none 0 0, .slice none 0 0, .slice none 0 0]) (cs := [.slice none 0 0, .slice none 0 0, .slice none 0 0]) Tryz.zeroValue32 rfl) ?_
    rintro _ _ ⟨b_83, rfl, rfl⟩
    refine JL.op rfl (JO.store 0 (vs := [.slice x_77.a0 m_78.s.length x_77.c0, .slice x_77.a1 m_78.r.length x_77.c1, .slice x_77.a2 m_78.w.length x_77.c2]) (cs' := [.slice x_77.a0 m_78.s.length x_77.c0, .slice x_77.a1 m_78.r.length x_77.c1, .slice x_77.a2 m_78.w.length x_77.c2]) rfl rfl rfl rfl Tryz.sizeOf32 rfl rfl (Nat.le_of_ble_eq_true rfl) rfl) ?_
    rintro _ _ rfl
    refine JL.pure rfl (PO.assign (v := .int .i64 n_80) rfl) ?_
    refine JL.nil ?_
    refine JQ.seq ?_
    refine JC.seq ?_
    refine JC.region ?_
    refine JL.ld rfl (LO.loadK 0 (vs := [.slice x_77.a0 m_78.s.length x_77.c0, .slice x_77.a1 m_78.r.length x_77.c1, .slice x_77.a2 m_78.w.length x_77.c2]) rfl rfl Tryz.isAgg32 Tryz.sizeOf32 rfl rfl) ?_
    refine JL.pure rfl (PO.move (v := .int .i64 n_80) rfl) ?_
    refine JL.op rfl (JO.call [] Tryz.call75 rfl (P_kids x_77 m_78 k_79 (by omega) (by omega) n_80 (by omega)) rfl (fun w hw => ⟨hw.see (i := 1) rfl, hw.see (i := 2) rfl, hw.see (i := 3) rfl⟩)) ?_
    rintro _ _ ⟨_, ⟨x_86, m_87, l_88a, l_88c, l_88, e_84, k_85, f_89, rfl, rfl⟩, rfl⟩
    refine JL.pure rfl (PO.move (v := .tuple #[mv x_86 m_87, .slice l_88a l_88.length l_88c]) rfl) ?_
    refine JL.pure rfl (PO.extract (v := mv x_86 m_87) rfl rfl) ?_
    refine JL.pure rfl (PO.extract (v := .slice l_88a l_88.length l_88c) rfl rfl) ?_
    refine JL.op rfl (JO.alloc (z := .agg #[.slice none 0 0, .slice none 0 0, .slice none 0 0]) (cs := [.slice none 0 0, .slice none 0 0, .slice none 0 0]) Tryz.zeroValue32 rfl) ?_
    rintro _ _ ⟨b_90, rfl, rfl⟩
    refine JL.op rfl (JO.store 0 (vs := [.slice x_86.a0 m_87.s.length x_86.c0, .slice x_86.a1 m_87.r.length x_86.c1, .slice x_86.a2 m_87.w.length x_86.c2]) (cs' := [.slice x_86.a0 m_87.s.length x_86.c0, .slice x_86.a1 m_87.r.length x_86.c1, .slice x_86.a2 m_87.w.length x_86.c2]) rfl rfl rfl rfl Tryz.sizeOf32 rfl rfl (Nat.le_of_ble_eq_true rfl) rfl) ?_
    rintro _ _ rfl
    refine JL.pure rfl (PO.assign (v := .slice l_88a l_88.length l_88c) rfl) ?_
    refine JL.nil ?_
    refine JQ.seq ?_
    refine JC.seq ?_
    refine JC.region ?_
    refine JL.ld rfl (LO.loadK 5 (vs := [.slice x_77.a0 m_78.s.length x_77.c0, .slice x_77.a1 m_78.r.length x_77.c1, .slice x_77.a2 m_78.w.length x_77.c2]) rfl rfl Tryz.isAgg32 Tryz.sizeOf32 rfl rfl) ?_
    refine JL.pure rfl (PO.move (v := .int .i64 n_80) rfl) ?_
    refine JL.op rfl (JO.call [] Tryz.call76 rfl (Q_kids x_77 m_78 k_79 (by omega) (by omega) n_80 (by omega)) rfl (fun w hw => ⟨hw.see (i := 6) rfl, hw.see (i := 7) rfl, hw.see (i := 8) rfl⟩)) ?_
    rintro _ _ ⟨_, ⟨x_93, m_94, l_95a, l_95c, l_95, e_91, k_92, f_96, rfl, rfl⟩, rfl⟩
    have hqe_91 := e_84.symm.trans e_91
    simp only [Prod.mk.injEq] at hqe_91
    obtain ⟨rfl, rfl⟩ := hqe_91
    refine JL.pure rfl (PO.move (v := .tuple #[mv x_93 m_87, .slice l_95a l_88.length l_95c]) rfl) ?_
    refine JL.pure rfl (PO.extract (v := mv x_93 m_87) rfl rfl) ?_
    refine JL.pure rfl (PO.extract (v := .slice l_95a l_88.length l_95c) rfl rfl) ?_
    refine JL.op rfl (JO.alloc (z := .agg #[.slice none 0 0, .slice none 0 0, .slice none 0 0]) (cs := [.slice none 0 0, .slice none 0 0, .slice none 0 0]) Tryz.zeroValue32 rfl) ?_
    rintro _ _ ⟨b_97, rfl, rfl⟩
    refine JL.op rfl (JO.store 0 (vs := [.slice x_93.a0 m_87.s.length x_93.c0, .slice x_93.a1 m_87.r.length x_93.c1, .slice x_93.a2 m_87.w.length x_93.c2]) (cs' := [.slice x_93.a0 m_87.s.length x_93.c0, .slice x_93.a1 m_87.r.length x_93.c1, .slice x_93.a2 m_87.w.length x_93.c2]) rfl rfl rfl rfl Tryz.sizeOf32 rfl rfl (Nat.le_of_ble_eq_true rfl) rfl) ?_
    rintro _ _ rfl
    refine JL.pure rfl (PO.assign (v := .slice l_95a l_88.length l_95c) rfl) ?_
    refine JL.nil ?_
    refine JQ.seq ?_
    refine JC.seq ?_
    refine JC.region ?_
    refine JL.ld rfl (LO.loadK 10 (vs := [.slice x_77.a0 m_78.s.length x_77.c0, .slice x_77.a1 m_78.r.length x_77.c1, .slice x_77.a2 m_78.w.length x_77.c2]) rfl rfl Tryz.isAgg32 Tryz.sizeOf32 rfl rfl) ?_
    refine JL.pure rfl (PO.move (v := .int .i64 n_80) rfl) ?_
    refine JL.op rfl (JO.call [] Tryz.call77 rfl (P_state x_77 m_78 k_79 (by omega) (by omega) n_80 (by omega)) rfl (fun w hw => ⟨hw.see (i := 11) rfl, hw.see (i := 12) rfl, hw.see (i := 13) rfl⟩)) ?_
    rintro _ _ ⟨_, ⟨x_100, m_101, n_102, e_98, k_99, f_103, rfl, rfl⟩, rfl⟩
    refine JL.pure rfl (PO.move (v := .tuple #[mv x_100 m_101, .int .i64 n_102]) rfl) ?_
    refine JL.pure rfl (PO.extract (v := mv x_100 m_101) rfl rfl) ?_
    refine JL.pure rfl (PO.extract (v := .int .i64 n_102) rfl rfl) ?_
    refine JL.op rfl (JO.alloc (z := .agg #[.slice none 0 0, .slice none 0 0, .slice none 0 0]) (cs := [.slice none 0 0, .slice none 0 0, .slice none 0 0]) Tryz.zeroValue32 rfl) ?_
    rintro _ _ ⟨b_104, rfl, rfl⟩
    refine JL.op rfl (JO.store 0 (vs := [.slice x_100.a0 m_101.s.length x_100.c0, .slice x_100.a1 m_101.r.length x_100.c1, .slice x_100.a2 m_101.w.length x_100.c2]) (cs' := [.slice x_100.a0 m_101.s.length x_100.c0, .slice x_100.a1 m_101.r.length x_100.c1, .slice x_100.a2 m_101.w.length x_100.c2]) rfl rfl rfl rfl Tryz.sizeOf32 rfl rfl (Nat.le_of_ble_eq_true rfl) rfl) ?_
    rintro _ _ rfl
    refine JL.pure rfl (PO.assign (v := .int .i64 n_102) rfl) ?_
    refine JL.nil ?_
    refine JQ.seq ?_
    refine JC.seq ?_
    refine JC.region ?_
    refine JL.ld rfl (LO.loadK 14 (vs := [.slice x_77.a0 m_78.s.length x_77.c0, .slice x_77.a1 m_78.r.length x_77.c1, .slice x_77.a2 m_78.w.length x_77.c2]) rfl rfl Tryz.isAgg32 Tryz.sizeOf32 rfl rfl) ?_
    refine JL.pure rfl (PO.move (v := .int .i64 n_80) rfl) ?_
    refine JL.op rfl (JO.call [] Tryz.call78 rfl (Q_state x_77 m_78 k_79 (by omega) (by omega) n_80 (by omega)) rfl (fun w hw => ⟨hw.see (i := 15) rfl, hw.see (i := 16) rfl, hw.see (i := 17) rfl⟩)) ?_
    rintro _ _ ⟨_, ⟨x_107, m_108, n_109, e_105, k_106, f_110, rfl, rfl⟩, rfl⟩
    have hqe_105 := e_98.symm.trans e_105
    simp only [Prod.mk.injEq] at hqe_105
    obtain ⟨rfl, rfl⟩ := hqe_105
    refine JL.pure rfl (PO.move (v := .tuple #[mv x_107 m_101, .int .i64 n_102]) rfl) ?_
    refine JL.pure rfl (PO.extract (v := mv x_107 m_101) rfl rfl) ?_
    refine JL.pure rfl (PO.extract (v := .int .i64 n_102) rfl rfl) ?_
    refine JL.op rfl (JO.alloc (z := .agg #[.slice none 0 0, .slice none 0 0, .slice none 0 0]) (cs := [.slice none 0 0, .slice none 0 0, .slice none 0 0]) Tryz.zeroValue32 rfl) ?_
    rintro _ _ ⟨b_111, rfl, rfl⟩
    refine JL.op rfl (JO.store 0 (vs := [.slice x_107.a0 m_101.s.length x_107.c0, .slice x_107.a1 m_101.r.length x_107.c1, .slice x_107.a2 m_101.w.length x_107.c2]) (cs' := [.slice x_107.a0 m_101.s.length x_107.c0, .slice x_107.a1 m_101.r.length x_107.c1, .slice x_107.a2 m_101.w.length x_107.c2]) rfl rfl rfl rfl Tryz.sizeOf32 rfl rfl (Nat.le_of_ble_eq_true rfl) rfl) ?_
    rintro _ _ rfl
    refine JL.pure rfl (PO.assign (v := .int .i64 n_102) rfl) ?_
    refine JL.nil ?_
    refine JQ.sub (L' := [mb b_111 x_107 m_101, rC x_107.a0 x_107.c0 m_101.s, rS x_107.a1 x_107.c1 m_101.r, rS x_107.a2 x_107.c2 m_101.w, mb b_104 x_100 m_101, rC x_100.a0 x_100.c0 m_101.s, rS x_100.a1 x_100.c1 m_101.r, rS x_100.a2 x_100.c2 m_101.w, mb b_97 x_93 m_87, rC x_93.a0 x_93.c0 m_87.s, rS x_93.a1 x_93.c1 m_87.r, rS x_93.a2 x_93.c2 m_87.w, rI l_95a l_95c l_88, mb b_90 x_86 m_87, rC x_86.a0 x_86.c0 m_87.s, rS x_86.a1 x_86.c1 m_87.r, rS x_86.a2 x_86.c2 m_87.w, rI l_88a l_88c l_88, mb b_76 x_70 m_62, rC x_70.a0 x_70.c0 m_62.s, rS x_70.a1 x_70.c1 m_62.r, rS x_70.a2 x_70.c2 m_62.w, mb b_67 x_61 m_62, rC x_61.a0 x_61.c0 m_62.s, rS x_61.a1 x_61.c1 m_62.r, rS x_61.a2 x_61.c2 m_62.w, mb b_49 x_45 m_39, rC x_45.a0 x_45.c0 m_39.s, rS x_45.a1 x_45.c1 m_39.r, rS x_45.a2 x_45.c2 m_39.w, mb b_42 x_38 m_39, rC x_38.a0 x_38.c0 m_39.s, rS x_38.a1 x_38.c1 m_39.r, rS x_38.a2 x_38.c2 m_39.w, mb b_26 x_20 m_12, rC x_20.a0 x_20.c0 m_12.s, rS x_20.a1 x_20.c1 m_12.r, rS x_20.a2 x_20.c2 m_12.w, mb b_17 x_11 m_12, rC x_11.a0 x_11.c0 m_12.s, rS x_11.a1 x_11.c1 m_12.r, rS x_11.a2 x_11.c2 m_12.w]) (.cons_cons _ (.cons_cons _ (.cons_cons _ (.cons_cons _ (.cons_cons _ (.cons_cons _ (.cons_cons _ (.cons_cons _ (.cons_cons _ (.cons_cons _ (.cons_cons _ (.cons_cons _ (.cons_cons _ (.cons_cons _ (.cons_cons _ (.cons_cons _ (.cons_cons _ (.cons_cons _ (.cons _ (.cons _ (.cons _ (.cons _ (.cons_cons _ (.cons_cons _ (.cons_cons _ (.cons_cons _ (.cons_cons _ (.cons_cons _ (.cons_cons _ (.cons_cons _ (.cons _ (.cons _ (.cons _ (.cons _ (.cons_cons _ (.cons_cons _ (.cons_cons _ (.cons_cons _ (.cons_cons _ (.cons_cons _ (.cons_cons _ (.cons_cons _ (.cons_cons _ (.cons_cons _ (.cons_cons _ (.cons_cons _ (.cons_cons _ (.cons_cons _ (.cons_cons _ (.cons_cons _ (.slnil))))))))))))))))))))))))))))))))))))))))))))))))))) ?_
    refine JQ.seq ?_
    refine JC.seq ?_
    refine JC.seq ?_
    refine JC.region ?_
    refine JL.pure rfl (PO.move (v := .int .i64 n_13) rfl) ?_
    refine JL.pure rfl (PO.move (v := .int .i64 n_13) rfl) ?_
    refine JL.pure rfl (PO.neqI rfl rfl) ?_
    refine JL.pure rfl (PO.move (v := .bool (!(decide (n_13 = n_13)))) rfl) ?_
    refine JL.guardOn rfl rfl rfl (congrArg Value.bool (congrArg Bool.not (decide_eq_true rfl))) (JO.ofLO (LO.pure (PO.move (v := .int .i64 n_15) rfl))) ?_
    rintro _ _ ⟨rfl, rfl⟩
    refine JL.guardOn rfl rfl rfl (congrArg Value.bool (congrArg Bool.not (decide_eq_true rfl))) (JO.ofLO (LO.pure (PO.move (v := .int .i64 n_15) rfl))) ?_
    rintro _ _ ⟨rfl, rfl⟩
    refine JL.guardOn rfl rfl rfl (congrArg Value.bool (congrArg Bool.not (decide_eq_true rfl))) (JO.ofLO (LO.pure (PO.neqI rfl rfl))) ?_
    rintro _ _ ⟨rfl, rfl⟩
    refine JL.pure rfl (PO.pickF (v := .bool (!(decide (n_15 = n_15)))) (congrArg Value.bool (congrArg Bool.not (decide_eq_true rfl))) rfl) ?_
    refine JL.pure rfl (PO.move (v := .bool (!(decide (n_15 = n_15)))) rfl) ?_
    refine JL.guardOn rfl rfl rfl (congrArg Value.bool (congrArg Bool.not (decide_eq_true rfl))) (JO.ofLO (LO.loadK 38 (vs := [.slice x_11.a0 m_12.s.length x_11.c0, .slice x_11.a1 m_12.r.length x_11.c1, .slice x_11.a2 m_12.w.length x_11.c2]) rfl rfl Tryz.isAgg32 Tryz.sizeOf32 rfl rfl)) ?_
    rintro _ _ ⟨rfl, rfl⟩
    refine JL.guardOn rfl rfl rfl (congrArg Value.bool (congrArg Bool.not (decide_eq_true rfl))) (JO.ofLO (LO.loadK 34 (vs := [.slice x_20.a0 m_12.s.length x_20.c0, .slice x_20.a1 m_12.r.length x_20.c1, .slice x_20.a2 m_12.w.length x_20.c2]) rfl rfl Tryz.isAgg32 Tryz.sizeOf32 rfl rfl)) ?_
    rintro _ _ ⟨rfl, rfl⟩
    refine JL.guardOn rfl rfl rfl (congrArg Value.bool (congrArg Bool.not (decide_eq_true rfl))) (JO.call [] Tryz.call30 rfl (N_sameMach x_11 x_20 m_12 k_10 (by omega) (by omega)) rfl (fun w hw => ⟨⟨hw.see (i := 39) rfl, hw.see (i := 40) rfl, hw.see (i := 41) rfl⟩, ⟨hw.see (i := 35) rfl, hw.see (i := 36) rfl, hw.see (i := 37) rfl⟩⟩)) ?_
    rintro _ _ ⟨_, ⟨rfl, rfl⟩, rfl⟩
    refine JL.guardOn rfl rfl rfl (congrArg Value.bool (congrArg Bool.not (decide_eq_true rfl))) (JO.ofLO (LO.pure (PO.not rfl))) ?_
    rintro _ _ ⟨rfl, rfl⟩
    refine JL.pure rfl (PO.pickF (v := .bool false) (congrArg Value.bool (congrArg Bool.not (decide_eq_true rfl))) rfl) ?_
    refine JL.pure rfl (PO.move (v := .bool false) rfl) ?_
    refine JL.guardOn rfl rfl rfl (congrArg Value.bool rfl) (JO.ofLO (LO.pure (PO.move (v := .int .i64 n_40) rfl))) ?_
    rintro _ _ ⟨rfl, rfl⟩
    refine JL.guardOn rfl rfl rfl (congrArg Value.bool rfl) (JO.ofLO (LO.pure (PO.move (v := .int .i64 n_40) rfl))) ?_
    rintro _ _ ⟨rfl, rfl⟩
    refine JL.guardOn rfl rfl rfl (congrArg Value.bool rfl) (JO.ofLO (LO.pure (PO.neqI rfl rfl))) ?_
    rintro _ _ ⟨rfl, rfl⟩
    refine JL.pure rfl (PO.pickF (v := .bool (!(decide (n_40 = n_40)))) (congrArg Value.bool rfl) rfl) ?_
    refine JL.pure rfl (PO.move (v := .bool (!(decide (n_40 = n_40)))) rfl) ?_
    refine JL.guardOn rfl rfl rfl (congrArg Value.bool (congrArg Bool.not (decide_eq_true rfl))) (JO.ofLO (LO.loadK 30 (vs := [.slice x_38.a0 m_39.s.length x_38.c0, .slice x_38.a1 m_39.r.length x_38.c1, .slice x_38.a2 m_39.w.length x_38.c2]) rfl rfl Tryz.isAgg32 Tryz.sizeOf32 rfl rfl)) ?_
    rintro _ _ ⟨rfl, rfl⟩
    refine JL.guardOn rfl rfl rfl (congrArg Value.bool (congrArg Bool.not (decide_eq_true rfl))) (JO.ofLO (LO.loadK 26 (vs := [.slice x_45.a0 m_39.s.length x_45.c0, .slice x_45.a1 m_39.r.length x_45.c1, .slice x_45.a2 m_39.w.length x_45.c2]) rfl rfl Tryz.isAgg32 Tryz.sizeOf32 rfl rfl)) ?_
    rintro _ _ ⟨rfl, rfl⟩
    refine JL.guardOn rfl rfl rfl (congrArg Value.bool (congrArg Bool.not (decide_eq_true rfl))) (JO.call [] Tryz.call30 rfl (N_sameMach x_38 x_45 m_39 k_37 (by omega) (by omega)) rfl (fun w hw => ⟨⟨hw.see (i := 31) rfl, hw.see (i := 32) rfl, hw.see (i := 33) rfl⟩, ⟨hw.see (i := 27) rfl, hw.see (i := 28) rfl, hw.see (i := 29) rfl⟩⟩)) ?_
    rintro _ _ ⟨_, ⟨rfl, rfl⟩, rfl⟩
    refine JL.guardOn rfl rfl rfl (congrArg Value.bool (congrArg Bool.not (decide_eq_true rfl))) (JO.ofLO (LO.pure (PO.not rfl))) ?_
    rintro _ _ ⟨rfl, rfl⟩
    refine JL.pure rfl (PO.pickF (v := .bool false) (congrArg Value.bool (congrArg Bool.not (decide_eq_true rfl))) rfl) ?_
    refine JL.pure rfl (PO.move (v := .bool false) rfl) ?_
    refine JL.guardOn rfl rfl rfl (congrArg Value.bool rfl) (JO.ofLO (LO.pure (PO.move (v := .int .i64 n_63) rfl))) ?_
    rintro _ _ ⟨rfl, rfl⟩
    refine JL.guardOn rfl rfl rfl (congrArg Value.bool rfl) (JO.ofLO (LO.pure (PO.move (v := .int .i64 n_63) rfl))) ?_
    rintro _ _ ⟨rfl, rfl⟩
    refine JL.guardOn rfl rfl rfl (congrArg Value.bool rfl) (JO.ofLO (LO.pure (PO.neqI rfl rfl))) ?_
    rintro _ _ ⟨rfl, rfl⟩
    refine JL.pure rfl (PO.pickF (v := .bool (!(decide (n_63 = n_63)))) (congrArg Value.bool rfl) rfl) ?_
    refine JL.pure rfl (PO.move (v := .bool (!(decide (n_63 = n_63)))) rfl) ?_
    refine JL.guardOn rfl rfl rfl (congrArg Value.bool (congrArg Bool.not (decide_eq_true rfl))) (JO.ofLO (LO.pure (PO.move (v := .int .i64 n_65) rfl))) ?_
    rintro _ _ ⟨rfl, rfl⟩
    refine JL.guardOn rfl rfl rfl (congrArg Value.bool (congrArg Bool.not (decide_eq_true rfl))) (JO.ofLO (LO.pure (PO.move (v := .int .i64 n_65) rfl))) ?_
    rintro _ _ ⟨rfl, rfl⟩
    refine JL.guardOn rfl rfl rfl (congrArg Value.bool (congrArg Bool.not (decide_eq_true rfl))) (JO.ofLO (LO.pure (PO.neqI rfl rfl))) ?_
    rintro _ _ ⟨rfl, rfl⟩
    refine JL.pure rfl (PO.pickF (v := .bool (!(decide (n_65 = n_65)))) (congrArg Value.bool (congrArg Bool.not (decide_eq_true rfl))) rfl) ?_
    refine JL.pure rfl (PO.move (v := .bool (!(decide (n_65 = n_65)))) rfl) ?_
    refine JL.guardOn rfl rfl rfl (congrArg Value.bool (congrArg Bool.not (decide_eq_true rfl))) (JO.ofLO (LO.loadK 22 (vs := [.slice x_61.a0 m_62.s.length x_61.c0, .slice x_61.a1 m_62.r.length x_61.c1, .slice x_61.a2 m_62.w.length x_61.c2]) rfl rfl Tryz.isAgg32 Tryz.sizeOf32 rfl rfl)) ?_
    rintro _ _ ⟨rfl, rfl⟩
    refine JL.guardOn rfl rfl rfl (congrArg Value.bool (congrArg Bool.not (decide_eq_true rfl))) (JO.ofLO (LO.loadK 18 (vs := [.slice x_70.a0 m_62.s.length x_70.c0, .slice x_70.a1 m_62.r.length x_70.c1, .slice x_70.a2 m_62.w.length x_70.c2]) rfl rfl Tryz.isAgg32 Tryz.sizeOf32 rfl rfl)) ?_
    rintro _ _ ⟨rfl, rfl⟩
    refine JL.guardOn rfl rfl rfl (congrArg Value.bool (congrArg Bool.not (decide_eq_true rfl))) (JO.call [] Tryz.call30 rfl (N_sameMach x_61 x_70 m_62 k_60 (by omega) (by omega)) rfl (fun w hw => ⟨⟨hw.see (i := 23) rfl, hw.see (i := 24) rfl, hw.see (i := 25) rfl⟩, ⟨hw.see (i := 19) rfl, hw.see (i := 20) rfl, hw.see (i := 21) rfl⟩⟩)) ?_
    rintro _ _ ⟨_, ⟨rfl, rfl⟩, rfl⟩
    refine JL.guardOn rfl rfl rfl (congrArg Value.bool (congrArg Bool.not (decide_eq_true rfl))) (JO.ofLO (LO.pure (PO.not rfl))) ?_
    rintro _ _ ⟨rfl, rfl⟩
    refine JL.pure rfl (PO.pickF (v := .bool false) (congrArg Value.bool (congrArg Bool.not (decide_eq_true rfl))) rfl) ?_
    refine JL.pure rfl (PO.move (v := .bool false) rfl) ?_
    refine JL.guardOn rfl rfl rfl (congrArg Value.bool rfl) (JO.ofLO (LO.pure (PO.move (v := .slice l_88a l_88.length l_88c) rfl))) ?_
    rintro _ _ ⟨rfl, rfl⟩
    refine JL.guardOn rfl rfl rfl (congrArg Value.bool rfl) (JO.ofLO (LO.pure (PO.move (v := .slice l_95a l_88.length l_95c) rfl))) ?_
    rintro _ _ ⟨rfl, rfl⟩
    refine JL.guardOn rfl rfl rfl (congrArg Value.bool rfl) (JO.call [] Tryz.call79 rfl (C_sameInts l_88a l_95a l_88c l_95c l_88 l_88 (by omega)) rfl (fun w hw => ⟨hw.see (i := 17) rfl, hw.see (i := 12) rfl⟩)) ?_
    rintro _ _ ⟨_, ⟨rfl, rfl⟩, rfl⟩
    refine JL.guardOn rfl rfl rfl (congrArg Value.bool rfl) (JO.ofLO (LO.pure (PO.not rfl))) ?_
    rintro _ _ ⟨rfl, rfl⟩
    refine JL.pure rfl (PO.pickF (v := .bool (!(decide (l_88 = l_88)))) (congrArg Value.bool rfl) rfl) ?_
    refine JL.pure rfl (PO.move (v := .bool (!(decide (l_88 = l_88)))) rfl) ?_
    refine JL.guardOn rfl rfl rfl (congrArg Value.bool (congrArg Bool.not (decide_eq_true rfl))) (JO.ofLO (LO.loadK 13 (vs := [.slice x_86.a0 m_87.s.length x_86.c0, .slice x_86.a1 m_87.r.length x_86.c1, .slice x_86.a2 m_87.w.length x_86.c2]) rfl rfl Tryz.isAgg32 Tryz.sizeOf32 rfl rfl)) ?_
    rintro _ _ ⟨rfl, rfl⟩
    refine JL.guardOn rfl rfl rfl (congrArg Value.bool (congrArg Bool.not (decide_eq_true rfl))) (JO.ofLO (LO.loadK 8 (vs := [.slice x_93.a0 m_87.s.length x_93.c0, .slice x_93.a1 m_87.r.length x_93.c1, .slice x_93.a2 m_87.w.length x_93.c2]) rfl rfl Tryz.isAgg32 Tryz.sizeOf32 rfl rfl)) ?_
    rintro _ _ ⟨rfl, rfl⟩
    refine JL.guardOn rfl rfl rfl (congrArg Value.bool (congrArg Bool.not (decide_eq_true rfl))) (JO.call [] Tryz.call30 rfl (N_sameMach x_86 x_93 m_87 k_85 (by omega) (by omega)) rfl (fun w hw => ⟨⟨hw.see (i := 14) rfl, hw.see (i := 15) rfl, hw.see (i := 16) rfl⟩, ⟨hw.see (i := 9) rfl, hw.see (i := 10) rfl, hw.see (i := 11) rfl⟩⟩)) ?_
    rintro _ _ ⟨_, ⟨rfl, rfl⟩, rfl⟩
    refine JL.guardOn rfl rfl rfl (congrArg Value.bool (congrArg Bool.not (decide_eq_true rfl))) (JO.ofLO (LO.pure (PO.not rfl))) ?_
    rintro _ _ ⟨rfl, rfl⟩
    refine JL.pure rfl (PO.pickF (v := .bool false) (congrArg Value.bool (congrArg Bool.not (decide_eq_true rfl))) rfl) ?_
    refine JL.pure rfl (PO.move (v := .bool false) rfl) ?_
    refine JL.guardOn rfl rfl rfl (congrArg Value.bool rfl) (JO.ofLO (LO.pure (PO.move (v := .int .i64 n_102) rfl))) ?_
    rintro _ _ ⟨rfl, rfl⟩
    refine JL.guardOn rfl rfl rfl (congrArg Value.bool rfl) (JO.ofLO (LO.pure (PO.move (v := .int .i64 n_102) rfl))) ?_
    rintro _ _ ⟨rfl, rfl⟩
    refine JL.guardOn rfl rfl rfl (congrArg Value.bool rfl) (JO.ofLO (LO.pure (PO.neqI rfl rfl))) ?_
    rintro _ _ ⟨rfl, rfl⟩
    refine JL.pure rfl (PO.pickF (v := .bool (!(decide (n_102 = n_102)))) (congrArg Value.bool rfl) rfl) ?_
    refine JL.pure rfl (PO.move (v := .bool (!(decide (n_102 = n_102)))) rfl) ?_
    refine JL.guardOn rfl rfl rfl (congrArg Value.bool (congrArg Bool.not (decide_eq_true rfl))) (JO.ofLO (LO.loadK 4 (vs := [.slice x_100.a0 m_101.s.length x_100.c0, .slice x_100.a1 m_101.r.length x_100.c1, .slice x_100.a2 m_101.w.length x_100.c2]) rfl rfl Tryz.isAgg32 Tryz.sizeOf32 rfl rfl)) ?_
    rintro _ _ ⟨rfl, rfl⟩
    refine JL.guardOn rfl rfl rfl (congrArg Value.bool (congrArg Bool.not (decide_eq_true rfl))) (JO.ofLO (LO.loadK 0 (vs := [.slice x_107.a0 m_101.s.length x_107.c0, .slice x_107.a1 m_101.r.length x_107.c1, .slice x_107.a2 m_101.w.length x_107.c2]) rfl rfl Tryz.isAgg32 Tryz.sizeOf32 rfl rfl)) ?_
    rintro _ _ ⟨rfl, rfl⟩
    refine JL.guardOn rfl rfl rfl (congrArg Value.bool (congrArg Bool.not (decide_eq_true rfl))) (JO.call [] Tryz.call30 rfl (N_sameMach x_100 x_107 m_101 k_99 (by omega) (by omega)) rfl (fun w hw => ⟨⟨hw.see (i := 5) rfl, hw.see (i := 6) rfl, hw.see (i := 7) rfl⟩, ⟨hw.see (i := 1) rfl, hw.see (i := 2) rfl, hw.see (i := 3) rfl⟩⟩)) ?_
    rintro _ _ ⟨_, ⟨rfl, rfl⟩, rfl⟩
    refine JL.guardOn rfl rfl rfl (congrArg Value.bool (congrArg Bool.not (decide_eq_true rfl))) (JO.ofLO (LO.pure (PO.not rfl))) ?_
    rintro _ _ ⟨rfl, rfl⟩
    refine JL.pure rfl (PO.pickF (v := .bool false) (congrArg Value.bool (congrArg Bool.not (decide_eq_true rfl))) rfl) ?_
    refine JL.nil ?_
    refine JQ.sub (L' := []) (.cons _ (.cons _ (.cons _ (.cons _ (.cons _ (.cons _ (.cons _ (.cons _ (.cons _ (.cons _ (.cons _ (.cons _ (.cons _ (.cons _ (.cons _ (.cons _ (.cons _ (.cons _ (.cons _ (.cons _ (.cons _ (.cons _ (.cons _ (.cons _ (.cons _ (.cons _ (.cons _ (.cons _ (.cons _ (.cons _ (.cons _ (.cons _ (.cons _ (.cons _ (.cons _ (.cons _ (.cons _ (.cons _ (.cons _ (.cons _ (.cons _ (.cons _ (.slnil))))))))))))))))))))))))))))))))))))))))))) ?_
    refine JQ.seq ?_
    refine JC.condF (congrArg Value.bool rfl) ?_
    refine JC.skip ?_
    refine JQ.seq ?_
    refine JC.seq ?_
    refine JC.region ?_
    refine JL.pure rfl (PO.move (v := .slice pa p.length pc) rfl) ?_
    refine JL.op rfl (JO.call [] Tryz.call63 rfl (D_dPlaces pa pc p (by omega)) rfl (fun w hw => hw.seeOut_ hs_pa (fun _ _ => List.not_mem_nil))) ?_
    rintro _ _ ⟨_, ⟨l_112a, l_112c, l_112, f_113, rfl, rfl⟩, rfl⟩
    refine JL.pure rfl (PO.assign (v := .slice l_112a l_112.length l_112c) rfl) ?_
    refine JL.nil ?_
    refine JQ.seq ?_
    refine JC.seq ?_
    refine JC.region ?_
    refine JL.op rfl (JO.call [] Tryz.call36 rfl (D_base) rfl (fun _ _ => trivial)) ?_
    rintro _ _ ⟨_, ⟨x_115, m_116, e_118, k_117, rfl, rfl⟩, rfl⟩
    refine JL.op rfl (JO.call [] Tryz.call66 rfl (P_spawn x_115 m_116 k_117 (by omega) (by omega) 0 (by omega)) rfl (fun w hw => ⟨hw.see (i := 0) rfl, hw.see (i := 1) rfl, hw.see (i := 2) rfl⟩)) ?_
    rintro _ _ ⟨_, ⟨x_121, m_122, n_123, n_125, e_119, k_120, f_124, f_126, rfl, rfl⟩, rfl⟩
    refine JL.pure rfl (PO.move (v := .tuple #[mv x_121 m_122, .int .i64 n_123, .int .i64 n_125]) rfl) ?_
    refine JL.pure rfl (PO.extract (v := mv x_121 m_122) rfl rfl) ?_
    refine JL.pure rfl (PO.extract (v := .int .i64 n_123) rfl rfl) ?_
    refine JL.pure rfl (PO.extract (v := .int .i64 n_125) rfl rfl) ?_
    refine JL.op rfl (JO.alloc (z := .agg #[.slice none 0 0, .slice none 0 0, .slice none 0 0]) (cs := [.slice none 0 0, .slice none 0 0, .slice none 0 0]) Tryz.zeroValue32 rfl) ?_
    rintro _ _ ⟨b_127, rfl, rfl⟩
    refine JL.op rfl (JO.store 0 (vs := [.slice x_121.a0 m_122.s.length x_121.c0, .slice x_121.a1 m_122.r.length x_121.c1, .slice x_121.a2 m_122.w.length x_121.c2]) (cs' := [.slice x_121.a0 m_122.s.length x_121.c0, .slice x_121.a1 m_122.r.length x_121.c1, .slice x_121.a2 m_122.w.length x_121.c2]) rfl rfl rfl rfl Tryz.sizeOf32 rfl rfl (Nat.le_of_ble_eq_true rfl) rfl) ?_
    rintro _ _ rfl
    refine JL.pure rfl (PO.assign (v := .int .i64 n_123) rfl) ?_
    refine JL.pure rfl (PO.assign (v := .int .i64 n_125) rfl) ?_
    refine JL.nil ?_
    refine JQ.seq ?_
    refine JC.seq ?_
    refine JC.region ?_
    refine JL.ld rfl (LO.loadK 0 (vs := [.slice x_121.a0 m_122.s.length x_121.c0, .slice x_121.a1 m_122.r.length x_121.c1, .slice x_121.a2 m_122.w.length x_121.c2]) rfl rfl Tryz.isAgg32 Tryz.sizeOf32 rfl rfl) ?_
    refine JL.pure rfl (PO.move (v := .int .i64 n_123) rfl) ?_
    refine JL.op rfl (JO.call [] Tryz.call66 rfl (P_spawn x_121 m_122 k_120 (by omega) (by omega) n_123 (by omega)) rfl (fun w hw => ⟨hw.see (i := 1) rfl, hw.see (i := 2) rfl, hw.see (i := 3) rfl⟩)) ?_
    rintro _ _ ⟨_, ⟨x_130, m_131, n_132, n_134, e_128, k_129, f_133, f_135, rfl, rfl⟩, rfl⟩
    refine JL.pure rfl (PO.move (v := .tuple #[mv x_130 m_131, .int .i64 n_132, .int .i64 n_134]) rfl) ?_
    refine JL.pure rfl (PO.extract (v := mv x_130 m_131) rfl rfl) ?_
    refine JL.pure rfl (PO.extract (v := .int .i64 n_132) rfl rfl) ?_
    refine JL.pure rfl (PO.extract (v := .int .i64 n_134) rfl rfl) ?_
    refine JL.op rfl (JO.alloc (z := .agg #[.slice none 0 0, .slice none 0 0, .slice none 0 0]) (cs := [.slice none 0 0, .slice none 0 0, .slice none 0 0]) Tryz.zeroValue32 rfl) ?_
    rintro _ _ ⟨b_136, rfl, rfl⟩
    refine JL.op rfl (JO.store 0 (vs := [.slice x_130.a0 m_131.s.length x_130.c0, .slice x_130.a1 m_131.r.length x_130.c1, .slice x_130.a2 m_131.w.length x_130.c2]) (cs' := [.slice x_130.a0 m_131.s.length x_130.c0, .slice x_130.a1 m_131.r.length x_130.c1, .slice x_130.a2 m_131.w.length x_130.c2]) rfl rfl rfl rfl Tryz.sizeOf32 rfl rfl (Nat.le_of_ble_eq_true rfl) rfl) ?_
    rintro _ _ rfl
    refine JL.pure rfl (PO.assign (v := .int .i64 n_132) rfl) ?_
    refine JL.pure rfl (PO.assign (v := .int .i64 n_134) rfl) ?_
    refine JL.nil ?_
    refine JQ.sub (L' := [mb b_136 x_130 m_131, rC x_130.a0 x_130.c0 m_131.s, rS x_130.a1 x_130.c1 m_131.r, rS x_130.a2 x_130.c2 m_131.w, rI l_112a l_112c l_112]) (.cons_cons _ (.cons_cons _ (.cons_cons _ (.cons_cons _ (.cons _ (.cons _ (.cons _ (.cons _ (.cons _ (.cons _ (.cons _ (.cons_cons _ (.slnil))))))))))))) ?_
    refine JQ.seq ?_
    refine JC.seq ?_
    refine JC.region ?_
    refine JL.ld rfl (LO.loadK 0 (vs := [.slice x_130.a0 m_131.s.length x_130.c0, .slice x_130.a1 m_131.r.length x_130.c1, .slice x_130.a2 m_131.w.length x_130.c2]) rfl rfl Tryz.isAgg32 Tryz.sizeOf32 rfl rfl) ?_
    refine JL.pure rfl (PO.move (v := .int .i64 n_123) rfl) ?_
    refine JL.op rfl (JO.call [] Tryz.call75 rfl (P_kids x_130 m_131 k_129 (by omega) (by omega) n_123 (by omega)) rfl (fun w hw => ⟨hw.see (i := 1) rfl, hw.see (i := 2) rfl, hw.see (i := 3) rfl⟩)) ?_
    rintro _ _ ⟨_, ⟨x_139, m_140, l_141a, l_141c, l_141, e_137, k_138, f_142, rfl, rfl⟩, rfl⟩
    refine JL.pure rfl (PO.move (v := .tuple #[mv x_139 m_140, .slice l_141a l_141.length l_141c]) rfl) ?_
    refine JL.pure rfl (PO.extract (v := mv x_139 m_140) rfl rfl) ?_
    refine JL.pure rfl (PO.extract (v := .slice l_141a l_141.length l_141c) rfl rfl) ?_
    refine JL.op rfl (JO.alloc (z := .agg #[.slice none 0 0, .slice none 0 0, .slice none 0 0]) (cs := [.slice none 0 0, .slice none 0 0, .slice none 0 0]) Tryz.zeroValue32 rfl) ?_
    rintro _ _ ⟨b_143, rfl, rfl⟩
    refine JL.op rfl (JO.store 0 (vs := [.slice x_139.a0 m_140.s.length x_139.c0, .slice x_139.a1 m_140.r.length x_139.c1, .slice x_139.a2 m_140.w.length x_139.c2]) (cs' := [.slice x_139.a0 m_140.s.length x_139.c0, .slice x_139.a1 m_140.r.length x_139.c1, .slice x_139.a2 m_140.w.length x_139.c2]) rfl rfl rfl rfl Tryz.sizeOf32 rfl rfl (Nat.le_of_ble_eq_true rfl) rfl) ?_
    rintro _ _ rfl
    refine JL.pure rfl (PO.assign (v := .slice l_141a l_141.length l_141c) rfl) ?_
    refine JL.nil ?_
    refine JQ.seq ?_
    refine JC.seq ?_
    refine JC.regionA [mb b_136 x_130 m_131] 11 mixed (by simp) ?_
    refine JA.take 0 rfl (by kernel_rfl) (NP.th NP.body) (by kernel_rfl) (by kernel_rfl) (by kernel_rfl) rfl (LO.loadK 0 (vs := [.slice x_130.a0 m_131.s.length x_130.c0, .slice x_130.a1 m_131.r.length x_130.c1, .slice x_130.a2 m_131.w.length x_130.c2]) rfl rfl Tryz.isAgg32 Tryz.sizeOf32 rfl rfl) ?_
    refine JA.takeP 1 rfl (by kernel_rfl) (NP.th NP.body) (by kernel_rfl) (by kernel_rfl) rfl (PO.move (v := .int .i64 n_132) rfl) ?_
    refine JA.takeP 2 rfl (by kernel_rfl) (NP.th NP.body) (by kernel_rfl) (by kernel_rfl) rfl (PO.move (v := .slice l_112a l_112.length l_112c) rfl) ?_
    refine JA.facts fun hst => ?_
    obtain ⟨hr_144, hr_144b, -⟩ := row_some 9 rfl (by omega) hst
    refine JA.takeP 3 rfl (by kernel_rfl) (NP.th NP.body) (by kernel_rfl) (by kernel_rfl) rfl (PO.indexAddrV (i := 0) Tryz.underlying70 Tryz.sizeOf3 hr_144 hr_144b rfl rfl (by omega)) ?_
    refine JA.two (i := 4) (j := 10) (by kernel_rfl) ?_ ?_
    · skip
      refine JX.op rfl rfl (JO.ofLO (LO.loadR1 9 (v := .int .i64 (l_112.getD 0 0)) rfl rfl Tryz.isAgg3 (atI (by omega)))) ?_
      rintro _ _ ⟨rfl, rfl⟩
      refine ⟨(by simp), ?_⟩
      obtain ⟨kk_146, hkk_147⟩ : ∃ kk_146 : Nat, l_112.getD 0 0 = ((kk_146 : Nat) : Int) := ⟨(l_112.getD 0 0).toNat, by have hlo_ := f_113.2 _ (getD_mem (d := 0) (show 0 < l_112.length by omega)); omega⟩
      refine JA.takeP 5 rfl (by kernel_rfl) (NP.th NP.body) (by kernel_rfl) (by kernel_rfl) rfl (PO.remN (c := ((kk_146 % 101 : Nat) : Int)) (congrArg (Value.int .i64) hkk_147) rfl (by omega) (by omega) (by omega)) ?_
      refine JA.two (i := 6) (j := 10) (by kernel_rfl) ?_ ?_
      · skip
        refine JX.op rfl rfl (JO.call [] Tryz.call69 rfl (P_end x_130 m_131 k_129 (by omega) (by omega) n_132 ((kk_146 % 101 : Nat) : Int) (by omega) (by omega)) rfl (fun w hw => ⟨hw.see (i := 6) rfl, hw.see (i := 7) rfl, hw.see (i := 8) rfl⟩)) ?_
        rintro _ _ ⟨_, ⟨x_157, m_158, n_159, e_155, k_156, f_160, rfl, rfl⟩, rfl⟩
        refine ⟨(by simp), ?_⟩
        refine JA.takeP 7 rfl (by kernel_rfl) (NP.th NP.body) (by kernel_rfl) (by kernel_rfl) rfl (PO.move (v := .tuple #[mv x_157 m_158, .int .i64 n_159]) rfl) ?_
        refine JA.takeP 8 rfl (by kernel_rfl) (NP.th NP.body) (by kernel_rfl) (by kernel_rfl) rfl (PO.extract (v := mv x_157 m_158) rfl rfl) ?_
        refine JA.takeP 9 rfl (by kernel_rfl) (NP.th NP.body) (by kernel_rfl) (by kernel_rfl) rfl (PO.extract (v := .int .i64 n_159) rfl rfl) ?_
        refine JA.one (i := 10) (by kernel_rfl) ?_
        refine JX.op rfl rfl (JO.alloc (z := .agg #[.slice none 0 0, .slice none 0 0, .slice none 0 0]) (cs := [.slice none 0 0, .slice none 0 0, .slice none 0 0]) Tryz.zeroValue32 rfl) ?_
        rintro _ _ ⟨b_162, rfl, rfl⟩
        refine ⟨(by simp), ?_⟩
        refine JA.one (i := 11) (by kernel_rfl) ?_
        refine JX.late rfl rfl (by decide) (by kernel_rfl) (JO.store 0 (vs := [.slice x_157.a0 m_158.s.length x_157.c0, .slice x_157.a1 m_158.r.length x_157.c1, .slice x_157.a2 m_158.w.length x_157.c2]) (cs' := [.slice x_157.a0 m_158.s.length x_157.c0, .slice x_157.a1 m_158.r.length x_157.c1, .slice x_157.a2 m_158.w.length x_157.c2]) rfl rfl rfl rfl Tryz.sizeOf32 rfl rfl (Nat.le_of_ble_eq_true rfl) rfl) ?_
        rintro _ _ rfl
        refine JA.takeP 12 rfl (by kernel_rfl) (NP.th NP.body) (by kernel_rfl) (by kernel_rfl) rfl (PO.assign (v := .int .i64 n_159) rfl) ?_
        refine JA.done (by kernel_rfl) ?_
        refine JQ.sub (L' := [mb b_162 x_157 m_158, rC x_157.a0 x_157.c0 m_158.s, rS x_157.a1 x_157.c1 m_158.r, rS x_157.a2 x_157.c2 m_158.w, rI l_141a l_141c l_141, rI l_112a l_112c l_112]) (.cons_cons _ (.cons_cons _ (.cons_cons _ (.cons_cons _ (.cons _ (.cons _ (.cons _ (.cons _ (.cons_cons _ (.cons _ (.cons _ (.cons _ (.cons _ (.cons_cons _ (.slnil))))))))))))))) ?_
        refine JQ.seq ?_
        refine JC.seq ?_
        refine JC.region ?_
        refine JL.ld rfl (LO.loadK 0 (vs := [.slice x_157.a0 m_158.s.length x_157.c0, .slice x_157.a1 m_158.r.length x_157.c1, .slice x_157.a2 m_158.w.length x_157.c2]) rfl rfl Tryz.isAgg32 Tryz.sizeOf32 rfl rfl) ?_
        refine JL.pure rfl (PO.move (v := .int .i64 n_123) rfl) ?_
        refine JL.pure rfl (PO.move (v := .int .i64 n_132) rfl) ?_
        refine JL.op rfl (JO.call [] Tryz.call72 rfl (P_reap x_157 m_158 k_156 (by omega) (by omega) n_123 n_132 (by omega) (by omega)) rfl (fun w hw => ⟨hw.see (i := 1) rfl, hw.see (i := 2) rfl, hw.see (i := 3) rfl⟩)) ?_
        rintro _ _ ⟨_, ⟨x_165, m_166, n_167, n_169, e_163, k_164, f_168, f_170, rfl, rfl⟩, rfl⟩
        refine JL.pure rfl (PO.move (v := .tuple #[mv x_165 m_166, .int .i64 n_167, .int .i64 n_169]) rfl) ?_
        refine JL.pure rfl (PO.extract (v := mv x_165 m_166) rfl rfl) ?_
        refine JL.pure rfl (PO.extract (v := .int .i64 n_167) rfl rfl) ?_
        refine JL.pure rfl (PO.extract (v := .int .i64 n_169) rfl rfl) ?_
        refine JL.op rfl (JO.alloc (z := .agg #[.slice none 0 0, .slice none 0 0, .slice none 0 0]) (cs := [.slice none 0 0, .slice none 0 0, .slice none 0 0]) Tryz.zeroValue32 rfl) ?_
        rintro _ _ ⟨b_171, rfl, rfl⟩
        refine JL.op rfl (JO.store 0 (vs := [.slice x_165.a0 m_166.s.length x_165.c0, .slice x_165.a1 m_166.r.length x_165.c1, .slice x_165.a2 m_166.w.length x_165.c2]) (cs' := [.slice x_165.a0 m_166.s.length x_165.c0, .slice x_165.a1 m_166.r.length x_165.c1, .slice x_165.a2 m_166.w.length x_165.c2]) rfl rfl rfl rfl Tryz.sizeOf32 rfl rfl (Nat.le_of_ble_eq_true rfl) rfl) ?_
        rintro _ _ rfl
        refine JL.pure rfl (PO.assign (v := .int .i64 n_167) rfl) ?_
        refine JL.pure rfl (PO.assign (v := .int .i64 n_169) rfl) ?_
        refine JL.nil ?_
        refine JQ.seq ?_
        refine JC.seq ?_
        refine JC.region ?_
        refine JL.ld rfl (LO.loadK 0 (vs := [.slice x_165.a0 m_166.s.length x_165.c0, .slice x_165.a1 m_166.r.length x_165.c1, .slice x_165.a2 m_166.w.length x_165.c2]) rfl rfl Tryz.isAgg32 Tryz.sizeOf32 rfl rfl) ?_
        refine JL.pure rfl (PO.move (v := .int .i64 n_123) rfl) ?_
        refine JL.pure rfl (PO.move (v := .int .i64 n_132) rfl) ?_
        refine JL.op rfl (JO.call [] Tryz.call72 rfl (P_reap x_165 m_166 k_164 (by omega) (by omega) n_123 n_132 (by omega) (by omega)) rfl (fun w hw => ⟨hw.see (i := 1) rfl, hw.see (i := 2) rfl, hw.see (i := 3) rfl⟩)) ?_
        rintro _ _ ⟨_, ⟨x_174, m_175, n_176, n_178, e_172, k_173, f_177, f_179, rfl, rfl⟩, rfl⟩
        refine JL.pure rfl (PO.move (v := .tuple #[mv x_174 m_175, .int .i64 n_176, .int .i64 n_178]) rfl) ?_
        refine JL.pure rfl (PO.extract (v := mv x_174 m_175) rfl rfl) ?_
        refine JL.pure rfl (PO.extract (v := .int .i64 n_176) rfl rfl) ?_
        refine JL.pure rfl (PO.extract (v := .int .i64 n_178) rfl rfl) ?_
        refine JL.op rfl (JO.alloc (z := .agg #[.slice none 0 0, .slice none 0 0, .slice none 0 0]) (cs := [.slice none 0 0, .slice none 0 0, .slice none 0 0]) Tryz.zeroValue32 rfl) ?_
        rintro _ _ ⟨b_180, rfl, rfl⟩
        refine JL.op rfl (JO.store 0 (vs := [.slice x_174.a0 m_175.s.length x_174.c0, .slice x_174.a1 m_175.r.length x_174.c1, .slice x_174.a2 m_175.w.length x_174.c2]) (cs' := [.slice x_174.a0 m_175.s.length x_174.c0, .slice x_174.a1 m_175.r.length x_174.c1, .slice x_174.a2 m_175.w.length x_174.c2]) rfl rfl rfl rfl Tryz.sizeOf32 rfl rfl (Nat.le_of_ble_eq_true rfl) rfl) ?_
        rintro _ _ rfl
        refine JL.pure rfl (PO.assign (v := .int .i64 n_176) rfl) ?_
        refine JL.pure rfl (PO.assign (v := .int .i64 n_178) rfl) ?_
        refine JL.nil ?_
        refine JQ.sub (L' := [rI l_141a l_141c l_141, rI l_112a l_112c l_112]) (.cons _ (.cons _ (.cons _ (.cons _ (.cons _ (.cons _ (.cons _ (.cons _ (.cons _ (.cons _ (.cons _ (.cons _ (.cons_cons _ (.cons_cons _ (.slnil))))))))))))))) ?_
        refine JQ.seq ?_
        refine JC.seq ?_
        refine JC.region ?_
        refine JL.pure rfl (PO.move (v := .int .i64 n_123) rfl) ?_
        refine JL.pure rfl (PO.eqlI rfl rfl) ?_
        refine JL.pure rfl (PO.move (v := .bool (decide (n_123 = 1))) rfl) ?_
        by_cases h_181 : n_123 = 1
        · skip
          refine JL.guardOn rfl rfl rfl (congrArg Value.bool (decide_eq_true h_181)) (JO.ofLO (LO.pure (PO.move (v := .slice l_141a l_141.length l_141c) rfl))) ?_
          rintro _ _ ⟨rfl, rfl⟩
          refine JL.guardOn rfl rfl rfl (congrArg Value.bool (decide_eq_true h_181)) (JO.buildSlice (ps := [(0, .int .i64 2)]) (cur := #[.int .i64 2]) Tryz.underlying70 Tryz.sizeOf3 Tryz.zeroValue3 rfl (by kernel_rfl) (by decide) (by decide)) ?_
          rintro _ _ ⟨a_182, rfl, rfl⟩
          refine JL.guardOn rfl rfl rfl (congrArg Value.bool (decide_eq_true h_181)) (JO.call [] Tryz.call79 rfl (C_sameInts l_141a a_182 l_141c 1 l_141 ([2] : List Int) (by omega)) rfl (fun w hw => ⟨hw.see (i := 1) rfl, hw.see (i := 0) rfl⟩)) ?_
          rintro _ _ ⟨_, ⟨rfl, rfl⟩, rfl⟩
          refine JL.pure rfl (PO.pickT (v := .bool (decide (l_141 = ([2] : List Int)))) (congrArg Value.bool (decide_eq_true h_181)) rfl) ?_
          refine JL.pure rfl (PO.move (v := .bool (decide (l_141 = ([2] : List Int)))) rfl) ?_
          by_cases h_183 : l_141 = ([2] : List Int)
          · skip
            refine JL.guardOn rfl rfl rfl (congrArg Value.bool (decide_eq_true h_183)) (JO.ofLO (LO.pure (PO.move (v := .int .i64 n_167) rfl))) ?_
            rintro _ _ ⟨rfl, rfl⟩
            refine JL.guardOn rfl rfl rfl (congrArg Value.bool (decide_eq_true h_183)) (JO.ofLO (LO.pure (PO.move (v := .slice l_112a l_112.length l_112c) rfl))) ?_
            rintro _ _ ⟨rfl, rfl⟩
            refine JL.guardOn rfl rfl rfl (congrArg Value.bool (decide_eq_true h_183)) (JO.ofLO (LO.pure (PO.indexAddrV (i := 0) Tryz.underlying70 Tryz.sizeOf3 hr_144 hr_144b rfl rfl (by omega)))) ?_
            rintro _ _ ⟨rfl, rfl⟩
            refine JL.guardOn rfl rfl rfl (congrArg Value.bool (decide_eq_true h_183)) (JO.ofLO (LO.loadR1 2 (v := .int .i64 (l_112.getD 0 0)) rfl rfl Tryz.isAgg3 (atI (by omega)))) ?_
            rintro _ _ ⟨rfl, rfl⟩
            obtain ⟨kk_184, hkk_185⟩ : ∃ kk_184 : Nat, l_112.getD 0 0 = ((kk_184 : Nat) : Int) := ⟨(l_112.getD 0 0).toNat, by have hlo_ := f_113.2 _ (getD_mem (d := 0) (show 0 < l_112.length by omega)); omega⟩
            refine JL.guardOn rfl rfl rfl (congrArg Value.bool (decide_eq_true h_183)) (JO.ofLO (LO.pure (PO.remN (c := ((kk_184 % 101 : Nat) : Int)) (congrArg (Value.int .i64) hkk_185) rfl (by omega) (by omega) (by omega)))) ?_
            rintro _ _ ⟨rfl, rfl⟩
            refine JL.guardOn rfl rfl rfl (congrArg Value.bool (decide_eq_true h_183)) (JO.ofLO (LO.pure (PO.eqlI rfl rfl))) ?_
            rintro _ _ ⟨rfl, rfl⟩
            refine JL.pure rfl (PO.pickT (v := .bool (decide (n_167 = ((kk_184 % 101 : Nat) : Int)))) (congrArg Value.bool (decide_eq_true h_183)) rfl) ?_
            refine JL.pure rfl (PO.move (v := .bool (decide (n_167 = ((kk_184 % 101 : Nat) : Int)))) rfl) ?_
            by_cases h_186 : n_167 = ((kk_184 % 101 : Nat) : Int)
            · skip
              refine JL.guardOn rfl rfl rfl (congrArg Value.bool (decide_eq_true h_186)) (JO.ofLO (LO.pure (PO.move (v := .int .i64 n_169) rfl))) ?_
              rintro _ _ ⟨rfl, rfl⟩
              refine JL.guardOn rfl rfl rfl (congrArg Value.bool (decide_eq_true h_186)) (JO.ofLO (LO.pure (PO.eqlI rfl rfl))) ?_
              rintro _ _ ⟨rfl, rfl⟩
              refine JL.pure rfl (PO.pickT (v := .bool (decide (n_169 = 0))) (congrArg Value.bool (decide_eq_true h_186)) rfl) ?_
              refine JL.pure rfl (PO.move (v := .bool (decide (n_169 = 0))) rfl) ?_
              by_cases h_187 : n_169 = 0
              · skip
                refine JL.guardOn rfl rfl rfl (congrArg Value.bool (decide_eq_true h_187)) (JO.ofLO (LO.pure (PO.move (v := .int .i64 n_178) rfl))) ?_
                rintro _ _ ⟨rfl, rfl⟩
                refine JL.guardOn rfl rfl rfl (congrArg Value.bool (decide_eq_true h_187)) (JO.ofLO (LO.pure (PO.eqlI rfl rfl))) ?_
                rintro _ _ ⟨rfl, rfl⟩
                refine JL.pure rfl (PO.pickT (v := .bool (decide (n_178 = 2))) (congrArg Value.bool (decide_eq_true h_187)) rfl) ?_
                refine JL.pure rfl (PO.assign (v := .bool (decide (n_178 = 2))) rfl) ?_
                refine JL.nil ?_
                refine JQ.seq ?_
                refine JC.ret ?_
                refine Done.one (.inl rfl) rfl (RV.tmp (v := .bool (decide (n_178 = 2))) rfl) (List.nil_sublist _) ?_
                obtain ⟨hb1, hb2, hb3, hb4, hb5⟩ := pl_procs e_118 (by omega) (by omega) e_119 e_128 e_137 e_155 e_163 e_172
                refine ⟨congrArg Value.bool ?_, rfl⟩
                simp only [decide_eq_true_eq]
                first | omega | assumption | simp_all
              · skip
                refine JL.guardOff (b := false) rfl rfl rfl (congrArg Value.bool (decide_eq_false h_187)) ?_
                refine JL.guardOff (b := false) rfl rfl rfl (congrArg Value.bool (decide_eq_false h_187)) ?_
                refine JL.pure rfl (PO.pickF (v := .bool false) (congrArg Value.bool (decide_eq_false h_187)) rfl) ?_
                refine JL.pure rfl (PO.assign (v := .bool false) rfl) ?_
                refine JL.nil ?_
                refine JQ.seq ?_
                refine JC.ret ?_
                refine Done.one (.inl rfl) rfl (RV.tmp (v := .bool false) rfl) (List.nil_sublist _) ?_
                obtain ⟨hb1, hb2, hb3, hb4, hb5⟩ := pl_procs e_118 (by omega) (by omega) e_119 e_128 e_137 e_155 e_163 e_172
                exfalso
                first | omega | contradiction | simp_all
            · skip
              refine JL.guardOff (b := false) rfl rfl rfl (congrArg Value.bool (decide_eq_false h_186)) ?_
              refine JL.guardOff (b := false) rfl rfl rfl (congrArg Value.bool (decide_eq_false h_186)) ?_
              refine JL.pure rfl (PO.pickF (v := .bool false) (congrArg Value.bool (decide_eq_false h_186)) rfl) ?_
              refine JL.pure rfl (PO.move (v := .bool false) rfl) ?_
              refine JL.guardOff (b := false) rfl rfl rfl (congrArg Value.bool rfl) ?_
              refine JL.guardOff (b := false) rfl rfl rfl (congrArg Value.bool rfl) ?_
              refine JL.pure rfl (PO.pickF (v := .bool false) (congrArg Value.bool rfl) rfl) ?_
              refine JL.pure rfl (PO.assign (v := .bool false) rfl) ?_
              refine JL.nil ?_
              refine JQ.seq ?_
              refine JC.ret ?_
              refine Done.one (.inl rfl) rfl (RV.tmp (v := .bool false) rfl) (List.nil_sublist _) ?_
              obtain ⟨hb1, hb2, hb3, hb4, hb5⟩ := pl_procs e_118 (by omega) (by omega) e_119 e_128 e_137 e_155 e_163 e_172
              exfalso
              first | omega | contradiction | simp_all
          · skip
            refine JL.guardOff (b := false) rfl rfl rfl (congrArg Value.bool (decide_eq_false h_183)) ?_
            refine JL.guardOff (b := false) rfl rfl rfl (congrArg Value.bool (decide_eq_false h_183)) ?_
            refine JL.guardOff (b := false) rfl rfl rfl (congrArg Value.bool (decide_eq_false h_183)) ?_
            refine JL.guardOff (b := false) rfl rfl rfl (congrArg Value.bool (decide_eq_false h_183)) ?_
            refine JL.guardOff (b := false) rfl rfl rfl (congrArg Value.bool (decide_eq_false h_183)) ?_
            refine JL.guardOff (b := false) rfl rfl rfl (congrArg Value.bool (decide_eq_false h_183)) ?_
            refine JL.pure rfl (PO.pickF (v := .bool false) (congrArg Value.bool (decide_eq_false h_183)) rfl) ?_
            refine JL.pure rfl (PO.move (v := .bool false) rfl) ?_
            refine JL.guardOff (b := false) rfl rfl rfl (congrArg Value.bool rfl) ?_
            refine JL.guardOff (b := false) rfl rfl rfl (congrArg Value.bool rfl) ?_
            refine JL.pure rfl (PO.pickF (v := .bool false) (congrArg Value.bool rfl) rfl) ?_
            refine JL.pure rfl (PO.move (v := .bool false) rfl) ?_
            refine JL.guardOff (b := false) rfl rfl rfl (congrArg Value.bool rfl) ?_
            refine JL.guardOff (b := false) rfl rfl rfl (congrArg Value.bool rfl) ?_
            refine JL.pure rfl (PO.pickF (v := .bool false) (congrArg Value.bool rfl) rfl) ?_
            refine JL.pure rfl (PO.assign (v := .bool false) rfl) ?_
            refine JL.nil ?_
            refine JQ.seq ?_
            refine JC.ret ?_
            refine Done.one (.inl rfl) rfl (RV.tmp (v := .bool false) rfl) (List.nil_sublist _) ?_
            obtain ⟨hb1, hb2, hb3, hb4, hb5⟩ := pl_procs e_118 (by omega) (by omega) e_119 e_128 e_137 e_155 e_163 e_172
            exfalso
            first | omega | contradiction | simp_all
        · skip
          refine JL.guardOff (b := false) rfl rfl rfl (congrArg Value.bool (decide_eq_false h_181)) ?_
          refine JL.guardOff (b := false) rfl rfl rfl (congrArg Value.bool (decide_eq_false h_181)) ?_
          refine JL.guardOff (b := false) rfl rfl rfl (congrArg Value.bool (decide_eq_false h_181)) ?_
          refine JL.pure rfl (PO.pickF (v := .bool false) (congrArg Value.bool (decide_eq_false h_181)) rfl) ?_
          refine JL.pure rfl (PO.move (v := .bool false) rfl) ?_
          refine JL.guardOff (b := false) rfl rfl rfl (congrArg Value.bool rfl) ?_
          refine JL.guardOff (b := false) rfl rfl rfl (congrArg Value.bool rfl) ?_
          refine JL.guardOff (b := false) rfl rfl rfl (congrArg Value.bool rfl) ?_
          refine JL.guardOff (b := false) rfl rfl rfl (congrArg Value.bool rfl) ?_
          refine JL.guardOff (b := false) rfl rfl rfl (congrArg Value.bool rfl) ?_
          refine JL.guardOff (b := false) rfl rfl rfl (congrArg Value.bool rfl) ?_
          refine JL.pure rfl (PO.pickF (v := .bool false) (congrArg Value.bool rfl) rfl) ?_
          refine JL.pure rfl (PO.move (v := .bool false) rfl) ?_
          refine JL.guardOff (b := false) rfl rfl rfl (congrArg Value.bool rfl) ?_
          refine JL.guardOff (b := false) rfl rfl rfl (congrArg Value.bool rfl) ?_
          refine JL.pure rfl (PO.pickF (v := .bool false) (congrArg Value.bool rfl) rfl) ?_
          refine JL.pure rfl (PO.move (v := .bool false) rfl) ?_
          refine JL.guardOff (b := false) rfl rfl rfl (congrArg Value.bool rfl) ?_
          refine JL.guardOff (b := false) rfl rfl rfl (congrArg Value.bool rfl) ?_
          refine JL.pure rfl (PO.pickF (v := .bool false) (congrArg Value.bool rfl) rfl) ?_
          refine JL.pure rfl (PO.assign (v := .bool false) rfl) ?_
          refine JL.nil ?_
          refine JQ.seq ?_
          refine JC.ret ?_
          refine Done.one (.inl rfl) rfl (RV.tmp (v := .bool false) rfl) (List.nil_sublist _) ?_
          obtain ⟨hb1, hb2, hb3, hb4, hb5⟩ := pl_procs e_118 (by omega) (by omega) e_119 e_128 e_137 e_155 e_163 e_172
          exfalso
          first | omega | contradiction | simp_all
      · skip
        refine JX.op rfl rfl (JO.alloc (z := .agg #[.slice none 0 0, .slice none 0 0, .slice none 0 0]) (cs := [.slice none 0 0, .slice none 0 0, .slice none 0 0]) Tryz.zeroValue32 rfl) ?_
        rintro _ _ ⟨b_188, rfl, rfl⟩
        refine ⟨(by simp), ?_⟩
        refine JA.one (i := 6) (by kernel_rfl) ?_
        refine JX.op rfl rfl (JO.call [] Tryz.call69 rfl (P_end x_130 m_131 k_129 (by omega) (by omega) n_132 ((kk_146 % 101 : Nat) : Int) (by omega) (by omega)) rfl (fun w hw => ⟨hw.see (i := 7) rfl, hw.see (i := 8) rfl, hw.see (i := 9) rfl⟩)) ?_
        rintro _ _ ⟨_, ⟨x_197, m_198, n_199, e_195, k_196, f_200, rfl, rfl⟩, rfl⟩
        refine ⟨(by simp), ?_⟩
        refine JA.takeP 7 rfl (by kernel_rfl) (NP.th NP.body) (by kernel_rfl) (by kernel_rfl) rfl (PO.move (v := .tuple #[mv x_197 m_198, .int .i64 n_199]) rfl) ?_
        refine JA.takeP 8 rfl (by kernel_rfl) (NP.th NP.body) (by kernel_rfl) (by kernel_rfl) rfl (PO.extract (v := mv x_197 m_198) rfl rfl) ?_
        refine JA.takeP 9 rfl (by kernel_rfl) (NP.th NP.body) (by kernel_rfl) (by kernel_rfl) rfl (PO.extract (v := .int .i64 n_199) rfl rfl) ?_
        refine JA.one (i := 11) (by kernel_rfl) ?_
        refine JX.late rfl rfl (by decide) (by kernel_rfl) (JO.store 3 (vs := [.slice x_197.a0 m_198.s.length x_197.c0, .slice x_197.a1 m_198.r.length x_197.c1, .slice x_197.a2 m_198.w.length x_197.c2]) (cs' := [.slice x_197.a0 m_198.s.length x_197.c0, .slice x_197.a1 m_198.r.length x_197.c1, .slice x_197.a2 m_198.w.length x_197.c2]) rfl rfl rfl rfl Tryz.sizeOf32 rfl rfl (Nat.le_of_ble_eq_true rfl) rfl) ?_
        rintro _ _ rfl
        refine JA.takeP 12 rfl (by kernel_rfl) (NP.th NP.body) (by kernel_rfl) (by kernel_rfl) rfl (PO.assign (v := .int .i64 n_199) rfl) ?_
        refine JA.done (by kernel_rfl) ?_
        refine JQ.sub (L' := [rC x_197.a0 x_197.c0 m_198.s, rS x_197.a1 x_197.c1 m_198.r, rS x_197.a2 x_197.c2 m_198.w, mb b_188 x_197 m_198, rI l_141a l_141c l_141, rI l_112a l_112c l_112]) (.cons_cons _ (.cons_cons _ (.cons_cons _ (.cons_cons _ (.cons _ (.cons _ (.cons _ (.cons _ (.cons_cons _ (.cons _ (.cons _ (.cons _ (.cons _ (.cons_cons _ (.slnil))))))))))))))) ?_
        refine JQ.seq ?_
        refine JC.seq ?_
        refine JC.region ?_
        refine JL.ld rfl (LO.loadK 3 (vs := [.slice x_197.a0 m_198.s.length x_197.c0, .slice x_197.a1 m_198.r.length x_197.c1, .slice x_197.a2 m_198.w.length x_197.c2]) rfl rfl Tryz.isAgg32 Tryz.sizeOf32 rfl rfl) ?_
        refine JL.pure rfl (PO.move (v := .int .i64 n_123) rfl) ?_
        refine JL.pure rfl (PO.move (v := .int .i64 n_132) rfl) ?_
        refine JL.op rfl (JO.call [] Tryz.call72 rfl (P_reap x_197 m_198 k_196 (by omega) (by omega) n_123 n_132 (by omega) (by omega)) rfl (fun w hw => ⟨hw.see (i := 0) rfl, hw.see (i := 1) rfl, hw.see (i := 2) rfl⟩)) ?_
        rintro _ _ ⟨_, ⟨x_203, m_204, n_205, n_207, e_201, k_202, f_206, f_208, rfl, rfl⟩, rfl⟩
        refine JL.pure rfl (PO.move (v := .tuple #[mv x_203 m_204, .int .i64 n_205, .int .i64 n_207]) rfl) ?_
        refine JL.pure rfl (PO.extract (v := mv x_203 m_204) rfl rfl) ?_
        refine JL.pure rfl (PO.extract (v := .int .i64 n_205) rfl rfl) ?_
        refine JL.pure rfl (PO.extract (v := .int .i64 n_207) rfl rfl) ?_
        refine JL.op rfl (JO.alloc (z := .agg #[.slice none 0 0, .slice none 0 0, .slice none 0 0]) (cs := [.slice none 0 0, .slice none 0 0, .slice none 0 0]) Tryz.zeroValue32 rfl) ?_
        rintro _ _ ⟨b_209, rfl, rfl⟩
        refine JL.op rfl (JO.store 0 (vs := [.slice x_203.a0 m_204.s.length x_203.c0, .slice x_203.a1 m_204.r.length x_203.c1, .slice x_203.a2 m_204.w.length x_203.c2]) (cs' := [.slice x_203.a0 m_204.s.length x_203.c0, .slice x_203.a1 m_204.r.length x_203.c1, .slice x_203.a2 m_204.w.length x_203.c2]) rfl rfl rfl rfl Tryz.sizeOf32 rfl rfl (Nat.le_of_ble_eq_true rfl) rfl) ?_
        rintro _ _ rfl
        refine JL.pure rfl (PO.assign (v := .int .i64 n_205) rfl) ?_
        refine JL.pure rfl (PO.assign (v := .int .i64 n_207) rfl) ?_
        refine JL.nil ?_
        refine JQ.seq ?_
        refine JC.seq ?_
        refine JC.region ?_
        refine JL.ld rfl (LO.loadK 0 (vs := [.slice x_203.a0 m_204.s.length x_203.c0, .slice x_203.a1 m_204.r.length x_203.c1, .slice x_203.a2 m_204.w.length x_203.c2]) rfl rfl Tryz.isAgg32 Tryz.sizeOf32 rfl rfl) ?_
        refine JL.pure rfl (PO.move (v := .int .i64 n_123) rfl) ?_
        refine JL.pure rfl (PO.move (v := .int .i64 n_132) rfl) ?_
        refine JL.op rfl (JO.call [] Tryz.call72 rfl (P_reap x_203 m_204 k_202 (by omega) (by omega) n_123 n_132 (by omega) (by omega)) rfl (fun w hw => ⟨hw.see (i := 1) rfl, hw.see (i := 2) rfl, hw.see (i := 3) rfl⟩)) ?_
        rintro _ _ ⟨_, ⟨x_212, m_213, n_214, n_216, e_210, k_211, f_215, f_217, rfl, rfl⟩, rfl⟩
        refine JL.pure rfl (PO.move (v := .tuple #[mv x_212 m_213, .int .i64 n_214, .int .i64 n_216]) rfl) ?_
        refine JL.pure rfl (PO.extract (v := mv x_212 m_213) rfl rfl) ?_
        refine JL.pure rfl (PO.extract (v := .int .i64 n_214) rfl rfl) ?_
        refine JL.pure rfl (PO.extract (v := .int .i64 n_216) rfl rfl) ?_
        refine JL.op rfl (JO.alloc (z := .agg #[.slice none 0 0, .slice none 0 0, .slice none 0 0]) (cs := [.slice none 0 0, .slice none 0 0, .slice none 0 0]) Tryz.zeroValue32 rfl) ?_
        rintro _ _ ⟨b_218, rfl, rfl⟩
        refine JL.op rfl (JO.store 0 (vs := [.slice x_212.a0 m_213.s.length x_212.c0, .slice x_212.a1 m_213.r.length x_212.c1, .slice x_212.a2 m_213.w.length x_212.c2]) (cs' := [.slice x_212.a0 m_213.s.length x_212.c0, .slice x_212.a1 m_213.r.length x_212.c1, .slice x_212.a2 m_213.w.length x_212.c2]) rfl rfl rfl rfl Tryz.sizeOf32 rfl rfl (Nat.le_of_ble_eq_true rfl) rfl) ?_
        rintro _ _ rfl
        refine JL.pure rfl (PO.assign (v := .int .i64 n_214) rfl) ?_
        refine JL.pure rfl (PO.assign (v := .int .i64 n_216) rfl) ?_
        refine JL.nil ?_
        refine JQ.sub (L' := [rI l_141a l_141c l_141, rI l_112a l_112c l_112]) (.cons _ (.cons _ (.cons _ (.cons _ (.cons _ (.cons _ (.cons _ (.cons _ (.cons _ (.cons _ (.cons _ (.cons _ (.cons_cons _ (.cons_cons _ (.slnil))))))))))))))) ?_
        refine JQ.seq ?_
        refine JC.seq ?_
        refine JC.region ?_
        refine JL.pure rfl (PO.move (v := .int .i64 n_123) rfl) ?_
        refine JL.pure rfl (PO.eqlI rfl rfl) ?_
        refine JL.pure rfl (PO.move (v := .bool (decide (n_123 = 1))) rfl) ?_
        by_cases h_219 : n_123 = 1
        · skip
          refine JL.guardOn rfl rfl rfl (congrArg Value.bool (decide_eq_true h_219)) (JO.ofLO (LO.pure (PO.move (v := .slice l_141a l_141.length l_141c) rfl))) ?_
          rintro _ _ ⟨rfl, rfl⟩
          refine JL.guardOn rfl rfl rfl (congrArg Value.bool (decide_eq_true h_219)) (JO.buildSlice (ps := [(0, .int .i64 2)]) (cur := #[.int .i64 2]) Tryz.underlying70 Tryz.sizeOf3 Tryz.zeroValue3 rfl (by kernel_rfl) (by decide) (by decide)) ?_
          rintro _ _ ⟨a_220, rfl, rfl⟩
          refine JL.guardOn rfl rfl rfl (congrArg Value.bool (decide_eq_true h_219)) (JO.call [] Tryz.call79 rfl (C_sameInts l_141a a_220 l_141c 1 l_141 ([2] : List Int) (by omega)) rfl (fun w hw => ⟨hw.see (i := 1) rfl, hw.see (i := 0) rfl⟩)) ?_
          rintro _ _ ⟨_, ⟨rfl, rfl⟩, rfl⟩
          refine JL.pure rfl (PO.pickT (v := .bool (decide (l_141 = ([2] : List Int)))) (congrArg Value.bool (decide_eq_true h_219)) rfl) ?_
          refine JL.pure rfl (PO.move (v := .bool (decide (l_141 = ([2] : List Int)))) rfl) ?_
          by_cases h_221 : l_141 = ([2] : List Int)
          · skip
            refine JL.guardOn rfl rfl rfl (congrArg Value.bool (decide_eq_true h_221)) (JO.ofLO (LO.pure (PO.move (v := .int .i64 n_205) rfl))) ?_
            rintro _ _ ⟨rfl, rfl⟩
            refine JL.guardOn rfl rfl rfl (congrArg Value.bool (decide_eq_true h_221)) (JO.ofLO (LO.pure (PO.move (v := .slice l_112a l_112.length l_112c) rfl))) ?_
            rintro _ _ ⟨rfl, rfl⟩
            refine JL.guardOn rfl rfl rfl (congrArg Value.bool (decide_eq_true h_221)) (JO.ofLO (LO.pure (PO.indexAddrV (i := 0) Tryz.underlying70 Tryz.sizeOf3 hr_144 hr_144b rfl rfl (by omega)))) ?_
            rintro _ _ ⟨rfl, rfl⟩
            refine JL.guardOn rfl rfl rfl (congrArg Value.bool (decide_eq_true h_221)) (JO.ofLO (LO.loadR1 2 (v := .int .i64 (l_112.getD 0 0)) rfl rfl Tryz.isAgg3 (atI (by omega)))) ?_
            rintro _ _ ⟨rfl, rfl⟩
            obtain ⟨kk_222, hkk_223⟩ : ∃ kk_222 : Nat, l_112.getD 0 0 = ((kk_222 : Nat) : Int) := ⟨(l_112.getD 0 0).toNat, by have hlo_ := f_113.2 _ (getD_mem (d := 0) (show 0 < l_112.length by omega)); omega⟩
            refine JL.guardOn rfl rfl rfl (congrArg Value.bool (decide_eq_true h_221)) (JO.ofLO (LO.pure (PO.remN (c := ((kk_222 % 101 : Nat) : Int)) (congrArg (Value.int .i64) hkk_223) rfl (by omega) (by omega) (by omega)))) ?_
            rintro _ _ ⟨rfl, rfl⟩
            refine JL.guardOn rfl rfl rfl (congrArg Value.bool (decide_eq_true h_221)) (JO.ofLO (LO.pure (PO.eqlI rfl rfl))) ?_
            rintro _ _ ⟨rfl, rfl⟩
            refine JL.pure rfl (PO.pickT (v := .bool (decide (n_205 = ((kk_222 % 101 : Nat) : Int)))) (congrArg Value.bool (decide_eq_true h_221)) rfl) ?_
            refine JL.pure rfl (PO.move (v := .bool (decide (n_205 = ((kk_222 % 101 : Nat) : Int)))) rfl) ?_
            by_cases h_224 : n_205 = ((kk_222 % 101 : Nat) : Int)
            · skip
              refine JL.guardOn rfl rfl rfl (congrArg Value.bool (decide_eq_true h_224)) (JO.ofLO (LO.pure (PO.move (v := .int .i64 n_207) rfl))) ?_
              rintro _ _ ⟨rfl, rfl⟩
              refine JL.guardOn rfl rfl rfl (congrArg Value.bool (decide_eq_true h_224)) (JO.ofLO (LO.pure (PO.eqlI rfl rfl))) ?_
              rintro _ _ ⟨rfl, rfl⟩
              refine JL.pure rfl (PO.pickT (v := .bool (decide (n_207 = 0))) (congrArg Value.bool (decide_eq_true h_224)) rfl) ?_
              refine JL.pure rfl (PO.move (v := .bool (decide (n_207 = 0))) rfl) ?_
              by_cases h_225 : n_207 = 0
              · skip
                refine JL.guardOn rfl rfl rfl (congrArg Value.bool (decide_eq_true h_225)) (JO.ofLO (LO.pure (PO.move (v := .int .i64 n_216) rfl))) ?_
                rintro _ _ ⟨rfl, rfl⟩
                refine JL.guardOn rfl rfl rfl (congrArg Value.bool (decide_eq_true h_225)) (JO.ofLO (LO.pure (PO.eqlI rfl rfl))) ?_
                rintro _ _ ⟨rfl, rfl⟩
                refine JL.pure rfl (PO.pickT (v := .bool (decide (n_216 = 2))) (congrArg Value.bool (decide_eq_true h_225)) rfl) ?_
                refine JL.pure rfl (PO.assign (v := .bool (decide (n_216 = 2))) rfl) ?_
                refine JL.nil ?_
                refine JQ.seq ?_
                refine JC.ret ?_
                refine Done.one (.inl rfl) rfl (RV.tmp (v := .bool (decide (n_216 = 2))) rfl) (List.nil_sublist _) ?_
                obtain ⟨hb1, hb2, hb3, hb4, hb5⟩ := pl_procs e_118 (by omega) (by omega) e_119 e_128 e_137 e_195 e_201 e_210
                refine ⟨congrArg Value.bool ?_, rfl⟩
                simp only [decide_eq_true_eq]
                first | omega | assumption | simp_all
              · skip
                refine JL.guardOff (b := false) rfl rfl rfl (congrArg Value.bool (decide_eq_false h_225)) ?_
                refine JL.guardOff (b := false) rfl rfl rfl (congrArg Value.bool (decide_eq_false h_225)) ?_
                refine JL.pure rfl (PO.pickF (v := .bool false) (congrArg Value.bool (decide_eq_false h_225)) rfl) ?_
                refine JL.pure rfl (PO.assign (v := .bool false) rfl) ?_
                refine JL.nil ?_
                refine JQ.seq ?_
                refine JC.ret ?_
                refine Done.one (.inl rfl) rfl (RV.tmp (v := .bool false) rfl) (List.nil_sublist _) ?_
                obtain ⟨hb1, hb2, hb3, hb4, hb5⟩ := pl_procs e_118 (by omega) (by omega) e_119 e_128 e_137 e_195 e_201 e_210
                exfalso
                first | omega | contradiction | simp_all
            · skip
              refine JL.guardOff (b := false) rfl rfl rfl (congrArg Value.bool (decide_eq_false h_224)) ?_
              refine JL.guardOff (b := false) rfl rfl rfl (congrArg Value.bool (decide_eq_false h_224)) ?_
              refine JL.pure rfl (PO.pickF (v := .bool false) (congrArg Value.bool (decide_eq_false h_224)) rfl) ?_
              refine JL.pure rfl (PO.move (v := .bool false) rfl) ?_
              refine JL.guardOff (b := false) rfl rfl rfl (congrArg Value.bool rfl) ?_
              refine JL.guardOff (b := false) rfl rfl rfl (congrArg Value.bool rfl) ?_
              refine JL.pure rfl (PO.pickF (v := .bool false) (congrArg Value.bool rfl) rfl) ?_
              refine JL.pure rfl (PO.assign (v := .bool false) rfl) ?_
              refine JL.nil ?_
              refine JQ.seq ?_
              refine JC.ret ?_
              refine Done.one (.inl rfl) rfl (RV.tmp (v := .bool false) rfl) (List.nil_sublist _) ?_
              obtain ⟨hb1, hb2, hb3, hb4, hb5⟩ := pl_procs e_118 (by omega) (by omega) e_119 e_128 e_137 e_195 e_201 e_210
              exfalso
              first | omega | contradiction | simp_all
          · skip
            refine JL.guardOff (b := false) rfl rfl rfl (congrArg Value.bool (decide_eq_false h_221)) ?_
            refine JL.guardOff (b := false) rfl rfl rfl (congrArg Value.bool (decide_eq_false h_221)) ?_
            refine JL.guardOff (b := false) rfl rfl rfl (congrArg Value.bool (decide_eq_false h_221)) ?_
            refine JL.guardOff (b := false) rfl rfl rfl (congrArg Value.bool (decide_eq_false h_221)) ?_
            refine JL.guardOff (b := false) rfl rfl rfl (congrArg Value.bool (decide_eq_false h_221)) ?_
            refine JL.guardOff (b := false) rfl rfl rfl (congrArg Value.bool (decide_eq_false h_221)) ?_
            refine JL.pure rfl (PO.pickF (v := .bool false) (congrArg Value.bool (decide_eq_false h_221)) rfl) ?_
            refine JL.pure rfl (PO.move (v := .bool false) rfl) ?_
            refine JL.guardOff (b := false) rfl rfl rfl (congrArg Value.bool rfl) ?_
            refine JL.guardOff (b := false) rfl rfl rfl (congrArg Value.bool rfl) ?_
            refine JL.pure rfl (PO.pickF (v := .bool false) (congrArg Value.bool rfl) rfl) ?_
            refine JL.pure rfl (PO.move (v := .bool false) rfl) ?_
            refine JL.guardOff (b := false) rfl rfl rfl (congrArg Value.bool rfl) ?_
            refine JL.guardOff (b := false) rfl rfl rfl (congrArg Value.bool rfl) ?_
            refine JL.pure rfl (PO.pickF (v := .bool false) (congrArg Value.bool rfl) rfl) ?_
            refine JL.pure rfl (PO.assign (v := .bool false) rfl) ?_
            refine JL.nil ?_
            refine JQ.seq ?_
            refine JC.ret ?_
            refine Done.one (.inl rfl) rfl (RV.tmp (v := .bool false) rfl) (List.nil_sublist _) ?_
            obtain ⟨hb1, hb2, hb3, hb4, hb5⟩ := pl_procs e_118 (by omega) (by omega) e_119 e_128 e_137 e_195 e_201 e_210
            exfalso
            first | omega | contradiction | simp_all
        · skip
          refine JL.guardOff (b := false) rfl rfl rfl (congrArg Value.bool (decide_eq_false h_219)) ?_
          refine JL.guardOff (b := false) rfl rfl rfl (congrArg Value.bool (decide_eq_false h_219)) ?_
          refine JL.guardOff (b := false) rfl rfl rfl (congrArg Value.bool (decide_eq_false h_219)) ?_
          refine JL.pure rfl (PO.pickF (v := .bool false) (congrArg Value.bool (decide_eq_false h_219)) rfl) ?_
          refine JL.pure rfl (PO.move (v := .bool false) rfl) ?_
          refine JL.guardOff (b := false) rfl rfl rfl (congrArg Value.bool rfl) ?_
          refine JL.guardOff (b := false) rfl rfl rfl (congrArg Value.bool rfl) ?_
          refine JL.guardOff (b := false) rfl rfl rfl (congrArg Value.bool rfl) ?_
          refine JL.guardOff (b := false) rfl rfl rfl (congrArg Value.bool rfl) ?_
          refine JL.guardOff (b := false) rfl rfl rfl (congrArg Value.bool rfl) ?_
          refine JL.guardOff (b := false) rfl rfl rfl (congrArg Value.bool rfl) ?_
          refine JL.pure rfl (PO.pickF (v := .bool false) (congrArg Value.bool rfl) rfl) ?_
          refine JL.pure rfl (PO.move (v := .bool false) rfl) ?_
          refine JL.guardOff (b := false) rfl rfl rfl (congrArg Value.bool rfl) ?_
          refine JL.guardOff (b := false) rfl rfl rfl (congrArg Value.bool rfl) ?_
          refine JL.pure rfl (PO.pickF (v := .bool false) (congrArg Value.bool rfl) rfl) ?_
          refine JL.pure rfl (PO.move (v := .bool false) rfl) ?_
          refine JL.guardOff (b := false) rfl rfl rfl (congrArg Value.bool rfl) ?_
          refine JL.guardOff (b := false) rfl rfl rfl (congrArg Value.bool rfl) ?_
          refine JL.pure rfl (PO.pickF (v := .bool false) (congrArg Value.bool rfl) rfl) ?_
          refine JL.pure rfl (PO.assign (v := .bool false) rfl) ?_
          refine JL.nil ?_
          refine JQ.seq ?_
          refine JC.ret ?_
          refine Done.one (.inl rfl) rfl (RV.tmp (v := .bool false) rfl) (List.nil_sublist _) ?_
          obtain ⟨hb1, hb2, hb3, hb4, hb5⟩ := pl_procs e_118 (by omega) (by omega) e_119 e_128 e_137 e_195 e_201 e_210
          exfalso
          first | omega | contradiction | simp_all
    · skip
      refine JX.op rfl rfl (JO.alloc (z := .agg #[.slice none 0 0, .slice none 0 0, .slice none 0 0]) (cs := [.slice none 0 0, .slice none 0 0, .slice none 0 0]) Tryz.zeroValue32 rfl) ?_
      rintro _ _ ⟨b_226, rfl, rfl⟩
      refine ⟨(by simp), ?_⟩
      refine JA.one (i := 4) (by kernel_rfl) ?_
      refine JX.op rfl rfl (JO.ofLO (LO.loadR1 10 (v := .int .i64 (l_112.getD 0 0)) rfl rfl Tryz.isAgg3 (atI (by omega)))) ?_
      rintro _ _ ⟨rfl, rfl⟩
      refine ⟨(by simp), ?_⟩
      obtain ⟨kk_227, hkk_228⟩ : ∃ kk_227 : Nat, l_112.getD 0 0 = ((kk_227 : Nat) : Int) := ⟨(l_112.getD 0 0).toNat, by have hlo_ := f_113.2 _ (getD_mem (d := 0) (show 0 < l_112.length by omega)); omega⟩
      refine JA.takeP 5 rfl (by kernel_rfl) (NP.th NP.body) (by kernel_rfl) (by kernel_rfl) rfl (PO.remN (c := ((kk_227 % 101 : Nat) : Int)) (congrArg (Value.int .i64) hkk_228) rfl (by omega) (by omega) (by omega)) ?_
      refine JA.one (i := 6) (by kernel_rfl) ?_
      refine JX.op rfl rfl (JO.call [] Tryz.call69 rfl (P_end x_130 m_131 k_129 (by omega) (by omega) n_132 ((kk_227 % 101 : Nat) : Int) (by omega) (by omega)) rfl (fun w hw => ⟨hw.see (i := 7) rfl, hw.see (i := 8) rfl, hw.see (i := 9) rfl⟩)) ?_
      rintro _ _ ⟨_, ⟨x_237, m_238, n_239, e_235, k_236, f_240, rfl, rfl⟩, rfl⟩
      refine ⟨(by simp), ?_⟩
      refine JA.takeP 7 rfl (by kernel_rfl) (NP.th NP.body) (by kernel_rfl) (by kernel_rfl) rfl (PO.move (v := .tuple #[mv x_237 m_238, .int .i64 n_239]) rfl) ?_
      refine JA.takeP 8 rfl (by kernel_rfl) (NP.th NP.body) (by kernel_rfl) (by kernel_rfl) rfl (PO.extract (v := mv x_237 m_238) rfl rfl) ?_
      refine JA.takeP 9 rfl (by kernel_rfl) (NP.th NP.body) (by kernel_rfl) (by kernel_rfl) rfl (PO.extract (v := .int .i64 n_239) rfl rfl) ?_
      refine JA.one (i := 11) (by kernel_rfl) ?_
      refine JX.late rfl rfl (by decide) (by kernel_rfl) (JO.store 3 (vs := [.slice x_237.a0 m_238.s.length x_237.c0, .slice x_237.a1 m_238.r.length x_237.c1, .slice x_237.a2 m_238.w.length x_237.c2]) (cs' := [.slice x_237.a0 m_238.s.length x_237.c0, .slice x_237.a1 m_238.r.length x_237.c1, .slice x_237.a2 m_238.w.length x_237.c2]) rfl rfl rfl rfl Tryz.sizeOf32 rfl rfl (Nat.le_of_ble_eq_true rfl) rfl) ?_
      rintro _ _ rfl
      refine JA.takeP 12 rfl (by kernel_rfl) (NP.th NP.body) (by kernel_rfl) (by kernel_rfl) rfl (PO.assign (v := .int .i64 n_239) rfl) ?_
      refine JA.done (by kernel_rfl) ?_
      refine JQ.sub (L' := [rC x_237.a0 x_237.c0 m_238.s, rS x_237.a1 x_237.c1 m_238.r, rS x_237.a2 x_237.c2 m_238.w, mb b_226 x_237 m_238, rI l_141a l_141c l_141, rI l_112a l_112c l_112]) (.cons_cons _ (.cons_cons _ (.cons_cons _ (.cons_cons _ (.cons _ (.cons _ (.cons _ (.cons _ (.cons_cons _ (.cons _ (.cons _ (.cons _ (.cons _ (.cons_cons _ (.slnil))))))))))))))) ?_
      refine JQ.seq ?_
      refine JC.seq ?_
      refine JC.region ?_
      refine JL.ld rfl (LO.loadK 3 (vs := [.slice x_237.a0 m_238.s.length x_237.c0, .slice x_237.a1 m_238.r.length x_237.c1, .slice x_237.a2 m_238.w.length x_237.c2]) rfl rfl Tryz.isAgg32 Tryz.sizeOf32 rfl rfl) ?_
      refine JL.pure rfl (PO.move (v := .int .i64 n_123) rfl) ?_
      refine JL.pure rfl (PO.move (v := .int .i64 n_132) rfl) ?_
      refine JL.op rfl (JO.call [] Tryz.call72 rfl (P_reap x_237 m_238 k_236 (by omega) (by omega) n_123 n_132 (by omega) (by omega)) rfl (fun w hw => ⟨hw.see (i := 0) rfl, hw.see (i := 1) rfl, hw.see (i := 2) rfl⟩)) ?_
      rintro _ _ ⟨_, ⟨x_243, m_244, n_245, n_247, e_241, k_242, f_246, f_248, rfl, rfl⟩, rfl⟩
      refine JL.pure rfl (PO.move (v := .tuple #[mv x_243 m_244, .int .i64 n_245, .int .i64 n_247]) rfl) ?_
      refine JL.pure rfl (PO.extract (v := mv x_243 m_244) rfl rfl) ?_
      refine JL.pure rfl (PO.extract (v := .int .i64 n_245) rfl rfl) ?_
      refine JL.pure rfl (PO.extract (v := .int .i64 n_247) rfl rfl) ?_
      refine JL.op rfl (JO.alloc (z := .agg #[.slice none 0 0, .slice none 0 0, .slice none 0 0]) (cs := [.slice none 0 0, .slice none 0 0, .slice none 0 0]) Tryz.zeroValue32 rfl) ?_
      rintro _ _ ⟨b_249, rfl, rfl⟩
      refine JL.op rfl (JO.store 0 (vs := [.slice x_243.a0 m_244.s.length x_243.c0, .slice x_243.a1 m_244.r.length x_243.c1, .slice x_243.a2 m_244.w.length x_243.c2]) (cs' := [.slice x_243.a0 m_244.s.length x_243.c0, .slice x_243.a1 m_244.r.length x_243.c1, .slice x_243.a2 m_244.w.length x_243.c2]) rfl rfl rfl rfl Tryz.sizeOf32 rfl rfl (Nat.le_of_ble_eq_true rfl) rfl) ?_
      rintro _ _ rfl
      refine JL.pure rfl (PO.assign (v := .int .i64 n_245) rfl) ?_
      refine JL.pure rfl (PO.assign (v := .int .i64 n_247) rfl) ?_
      refine JL.nil ?_
      refine JQ.seq ?_
      refine JC.seq ?_
      refine JC.region ?_
      refine JL.ld rfl (LO.loadK 0 (vs := [.slice x_243.a0 m_244.s.length x_243.c0, .slice x_243.a1 m_244.r.length x_243.c1, .slice x_243.a2 m_244.w.length x_243.c2]) rfl rfl Tryz.isAgg32 Tryz.sizeOf32 rfl rfl) ?_
      refine JL.pure rfl (PO.move (v := .int .i64 n_123) rfl) ?_
      refine JL.pure rfl (PO.move (v := .int .i64 n_132) rfl) ?_
      refine JL.op rfl (JO.call [] Tryz.call72 rfl (P_reap x_243 m_244 k_242 (by omega) (by omega) n_123 n_132 (by omega) (by omega)) rfl (fun w hw => ⟨hw.see (i := 1) rfl, hw.see (i := 2) rfl, hw.see (i := 3) rfl⟩)) ?_
      rintro _ _ ⟨_, ⟨x_252, m_253, n_254, n_256, e_250, k_251, f_255, f_257, rfl, rfl⟩, rfl⟩
      refine JL.pure rfl (PO.move (v := .tuple #[mv x_252 m_253, .int .i64 n_254, .int .i64 n_256]) rfl) ?_
      refine JL.pure rfl (PO.extract (v := mv x_252 m_253) rfl rfl) ?_
      refine JL.pure rfl (PO.extract (v := .int .i64 n_254) rfl rfl) ?_
      refine JL.pure rfl (PO.extract (v := .int .i64 n_256) rfl rfl) ?_
      refine JL.op rfl (JO.alloc (z := .agg #[.slice none 0 0, .slice none 0 0, .slice none 0 0]) (cs := [.slice none 0 0, .slice none 0 0, .slice none 0 0]) Tryz.zeroValue32 rfl) ?_
      rintro _ _ ⟨b_258, rfl, rfl⟩
      refine JL.op rfl (JO.store 0 (vs := [.slice x_252.a0 m_253.s.length x_252.c0, .slice x_252.a1 m_253.r.length x_252.c1, .slice x_252.a2 m_253.w.length x_252.c2]) (cs' := [.slice x_252.a0 m_253.s.length x_252.c0, .slice x_252.a1 m_253.r.length x_252.c1, .slice x_252.a2 m_253.w.length x_252.c2]) rfl rfl rfl rfl Tryz.sizeOf32 rfl rfl (Nat.le_of_ble_eq_true rfl) rfl) ?_
      rintro _ _ rfl
      refine JL.pure rfl (PO.assign (v := .int .i64 n_254) rfl) ?_
      refine JL.pure rfl (PO.assign (v := .int .i64 n_256) rfl) ?_
      refine JL.nil ?_
      refine JQ.sub (L' := [rI l_141a l_141c l_141, rI l_112a l_112c l_112]) (.cons _ (.cons _ (.cons _ (.cons _ (.cons _ (.cons _ (.cons _ (.cons _ (.cons _ (.cons _ (.cons _ (.cons _ (.cons_cons _ (.cons_cons _ (.slnil))))))))))))))) ?_
      refine JQ.seq ?_
      refine JC.seq ?_
      refine JC.region ?_
      refine JL.pure rfl (PO.move (v := .int .i64 n_123) rfl) ?_
      refine JL.pure rfl (PO.eqlI rfl rfl) ?_
      refine JL.pure rfl (PO.move (v := .bool (decide (n_123 = 1))) rfl) ?_
      by_cases h_259 : n_123 = 1
      · skip
        refine JL.guardOn rfl rfl rfl (congrArg Value.bool (decide_eq_true h_259)) (JO.ofLO (LO.pure (PO.move (v := .slice l_141a l_141.length l_141c) rfl))) ?_
        rintro _ _ ⟨rfl, rfl⟩
        refine JL.guardOn rfl rfl rfl (congrArg Value.bool (decide_eq_true h_259)) (JO.buildSlice (ps := [(0, .int .i64 2)]) (cur := #[.int .i64 2]) Tryz.underlying70 Tryz.sizeOf3 Tryz.zeroValue3 rfl (by kernel_rfl) (by decide) (by decide)) ?_
        rintro _ _ ⟨a_260, rfl, rfl⟩
        refine JL.guardOn rfl rfl rfl (congrArg Value.bool (decide_eq_true h_259)) (JO.call [] Tryz.call79 rfl (C_sameInts l_141a a_260 l_141c 1 l_141 ([2] : List Int) (by omega)) rfl (fun w hw => ⟨hw.see (i := 1) rfl, hw.see (i := 0) rfl⟩)) ?_
        rintro _ _ ⟨_, ⟨rfl, rfl⟩, rfl⟩
        refine JL.pure rfl (PO.pickT (v := .bool (decide (l_141 = ([2] : List Int)))) (congrArg Value.bool (decide_eq_true h_259)) rfl) ?_
        refine JL.pure rfl (PO.move (v := .bool (decide (l_141 = ([2] : List Int)))) rfl) ?_
        by_cases h_261 : l_141 = ([2] : List Int)
        · skip
          refine JL.guardOn rfl rfl rfl (congrArg Value.bool (decide_eq_true h_261)) (JO.ofLO (LO.pure (PO.move (v := .int .i64 n_245) rfl))) ?_
          rintro _ _ ⟨rfl, rfl⟩
          refine JL.guardOn rfl rfl rfl (congrArg Value.bool (decide_eq_true h_261)) (JO.ofLO (LO.pure (PO.move (v := .slice l_112a l_112.length l_112c) rfl))) ?_
          rintro _ _ ⟨rfl, rfl⟩
          refine JL.guardOn rfl rfl rfl (congrArg Value.bool (decide_eq_true h_261)) (JO.ofLO (LO.pure (PO.indexAddrV (i := 0) Tryz.underlying70 Tryz.sizeOf3 hr_144 hr_144b rfl rfl (by omega)))) ?_
          rintro _ _ ⟨rfl, rfl⟩
          refine JL.guardOn rfl rfl rfl (congrArg Value.bool (decide_eq_true h_261)) (JO.ofLO (LO.loadR1 2 (v := .int .i64 (l_112.getD 0 0)) rfl rfl Tryz.isAgg3 (atI (by omega)))) ?_
          rintro _ _ ⟨rfl, rfl⟩
          obtain ⟨kk_262, hkk_263⟩ : ∃ kk_262 : Nat, l_112.getD 0 0 = ((kk_262 : Nat) : Int) := ⟨(l_112.getD 0 0).toNat, by have hlo_ := f_113.2 _ (getD_mem (d := 0) (show 0 < l_112.length by omega)); omega⟩
          refine JL.guardOn rfl rfl rfl (congrArg Value.bool (decide_eq_true h_261)) (JO.ofLO (LO.pure (PO.remN (c := ((kk_262 % 101 : Nat) : Int)) (congrArg (Value.int .i64) hkk_263) rfl (by omega) (by omega) (by omega)))) ?_
          rintro _ _ ⟨rfl, rfl⟩
          refine JL.guardOn rfl rfl rfl (congrArg Value.bool (decide_eq_true h_261)) (JO.ofLO (LO.pure (PO.eqlI rfl rfl))) ?_
          rintro _ _ ⟨rfl, rfl⟩
          refine JL.pure rfl (PO.pickT (v := .bool (decide (n_245 = ((kk_262 % 101 : Nat) : Int)))) (congrArg Value.bool (decide_eq_true h_261)) rfl) ?_
          refine JL.pure rfl (PO.move (v := .bool (decide (n_245 = ((kk_262 % 101 : Nat) : Int)))) rfl) ?_
          by_cases h_264 : n_245 = ((kk_262 % 101 : Nat) : Int)
          · skip
            refine JL.guardOn rfl rfl rfl (congrArg Value.bool (decide_eq_true h_264)) (JO.ofLO (LO.pure (PO.move (v := .int .i64 n_247) rfl))) ?_
            rintro _ _ ⟨rfl, rfl⟩
            refine JL.guardOn rfl rfl rfl (congrArg Value.bool (decide_eq_true h_264)) (JO.ofLO (LO.pure (PO.eqlI rfl rfl))) ?_
            rintro _ _ ⟨rfl, rfl⟩
            refine JL.pure rfl (PO.pickT (v := .bool (decide (n_247 = 0))) (congrArg Value.bool (decide_eq_true h_264)) rfl) ?_
            refine JL.pure rfl (PO.move (v := .bool (decide (n_247 = 0))) rfl) ?_
            by_cases h_265 : n_247 = 0
            · skip
              refine JL.guardOn rfl rfl rfl (congrArg Value.bool (decide_eq_true h_265)) (JO.ofLO (LO.pure (PO.move (v := .int .i64 n_256) rfl))) ?_
              rintro _ _ ⟨rfl, rfl⟩
              refine JL.guardOn rfl rfl rfl (congrArg Value.bool (decide_eq_true h_265)) (JO.ofLO (LO.pure (PO.eqlI rfl rfl))) ?_
              rintro _ _ ⟨rfl, rfl⟩
              refine JL.pure rfl (PO.pickT (v := .bool (decide (n_256 = 2))) (congrArg Value.bool (decide_eq_true h_265)) rfl) ?_
              refine JL.pure rfl (PO.assign (v := .bool (decide (n_256 = 2))) rfl) ?_
              refine JL.nil ?_
              refine JQ.seq ?_
              refine JC.ret ?_
              refine Done.one (.inl rfl) rfl (RV.tmp (v := .bool (decide (n_256 = 2))) rfl) (List.nil_sublist _) ?_
              obtain ⟨hb1, hb2, hb3, hb4, hb5⟩ := pl_procs e_118 (by omega) (by omega) e_119 e_128 e_137 e_235 e_241 e_250
              refine ⟨congrArg Value.bool ?_, rfl⟩
              simp only [decide_eq_true_eq]
              first | omega | assumption | simp_all
            · skip
              refine JL.guardOff (b := false) rfl rfl rfl (congrArg Value.bool (decide_eq_false h_265)) ?_
              refine JL.guardOff (b := false) rfl rfl rfl (congrArg Value.bool (decide_eq_false h_265)) ?_
              refine JL.pure rfl (PO.pickF (v := .bool false) (congrArg Value.bool (decide_eq_false h_265)) rfl) ?_
              refine JL.pure rfl (PO.assign (v := .bool false) rfl) ?_
              refine JL.nil ?_
              refine JQ.seq ?_
              refine JC.ret ?_
              refine Done.one (.inl rfl) rfl (RV.tmp (v := .bool false) rfl) (List.nil_sublist _) ?_
              obtain ⟨hb1, hb2, hb3, hb4, hb5⟩ := pl_procs e_118 (by omega) (by omega) e_119 e_128 e_137 e_235 e_241 e_250
              exfalso
              first | omega | contradiction | simp_all
          · skip
            refine JL.guardOff (b := false) rfl rfl rfl (congrArg Value.bool (decide_eq_false h_264)) ?_
            refine JL.guardOff (b := false) rfl rfl rfl (congrArg Value.bool (decide_eq_false h_264)) ?_
            refine JL.pure rfl (PO.pickF (v := .bool false) (congrArg Value.bool (decide_eq_false h_264)) rfl) ?_
            refine JL.pure rfl (PO.move (v := .bool false) rfl) ?_
            refine JL.guardOff (b := false) rfl rfl rfl (congrArg Value.bool rfl) ?_
            refine JL.guardOff (b := false) rfl rfl rfl (congrArg Value.bool rfl) ?_
            refine JL.pure rfl (PO.pickF (v := .bool false) (congrArg Value.bool rfl) rfl) ?_
            refine JL.pure rfl (PO.assign (v := .bool false) rfl) ?_
            refine JL.nil ?_
            refine JQ.seq ?_
            refine JC.ret ?_
            refine Done.one (.inl rfl) rfl (RV.tmp (v := .bool false) rfl) (List.nil_sublist _) ?_
            obtain ⟨hb1, hb2, hb3, hb4, hb5⟩ := pl_procs e_118 (by omega) (by omega) e_119 e_128 e_137 e_235 e_241 e_250
            exfalso
            first | omega | contradiction | simp_all
        · skip
          refine JL.guardOff (b := false) rfl rfl rfl (congrArg Value.bool (decide_eq_false h_261)) ?_
          refine JL.guardOff (b := false) rfl rfl rfl (congrArg Value.bool (decide_eq_false h_261)) ?_
          refine JL.guardOff (b := false) rfl rfl rfl (congrArg Value.bool (decide_eq_false h_261)) ?_
          refine JL.guardOff (b := false) rfl rfl rfl (congrArg Value.bool (decide_eq_false h_261)) ?_
          refine JL.guardOff (b := false) rfl rfl rfl (congrArg Value.bool (decide_eq_false h_261)) ?_
          refine JL.guardOff (b := false) rfl rfl rfl (congrArg Value.bool (decide_eq_false h_261)) ?_
          refine JL.pure rfl (PO.pickF (v := .bool false) (congrArg Value.bool (decide_eq_false h_261)) rfl) ?_
          refine JL.pure rfl (PO.move (v := .bool false) rfl) ?_
          refine JL.guardOff (b := false) rfl rfl rfl (congrArg Value.bool rfl) ?_
          refine JL.guardOff (b := false) rfl rfl rfl (congrArg Value.bool rfl) ?_
          refine JL.pure rfl (PO.pickF (v := .bool false) (congrArg Value.bool rfl) rfl) ?_
          refine JL.pure rfl (PO.move (v := .bool false) rfl) ?_
          refine JL.guardOff (b := false) rfl rfl rfl (congrArg Value.bool rfl) ?_
          refine JL.guardOff (b := false) rfl rfl rfl (congrArg Value.bool rfl) ?_
          refine JL.pure rfl (PO.pickF (v := .bool false) (congrArg Value.bool rfl) rfl) ?_
          refine JL.pure rfl (PO.assign (v := .bool false) rfl) ?_
          refine JL.nil ?_
          refine JQ.seq ?_
          refine JC.ret ?_
          refine Done.one (.inl rfl) rfl (RV.tmp (v := .bool false) rfl) (List.nil_sublist _) ?_
          obtain ⟨hb1, hb2, hb3, hb4, hb5⟩ := pl_procs e_118 (by omega) (by omega) e_119 e_128 e_137 e_235 e_241 e_250
          exfalso
          first | omega | contradiction | simp_all
      · skip
        refine JL.guardOff (b := false) rfl rfl rfl (congrArg Value.bool (decide_eq_false h_259)) ?_
        refine JL.guardOff (b := false) rfl rfl rfl (congrArg Value.bool (decide_eq_false h_259)) ?_
        refine JL.guardOff (b := false) rfl rfl rfl (congrArg Value.bool (decide_eq_false h_259)) ?_
        refine JL.pure rfl (PO.pickF (v := .bool false) (congrArg Value.bool (decide_eq_false h_259)) rfl) ?_
        refine JL.pure rfl (PO.move (v := .bool false) rfl) ?_
        refine JL.guardOff (b := false) rfl rfl rfl (congrArg Value.bool rfl) ?_
        refine JL.guardOff (b := false) rfl rfl rfl (congrArg Value.bool rfl) ?_
        refine JL.guardOff (b := false) rfl rfl rfl (congrArg Value.bool rfl) ?_
        refine JL.guardOff (b := false) rfl rfl rfl (congrArg Value.bool rfl) ?_
        refine JL.guardOff (b := false) rfl rfl rfl (congrArg Value.bool rfl) ?_
        refine JL.guardOff (b := false) rfl rfl rfl (congrArg Value.bool rfl) ?_
        refine JL.pure rfl (PO.pickF (v := .bool false) (congrArg Value.bool rfl) rfl) ?_
        refine JL.pure rfl (PO.move (v := .bool false) rfl) ?_
        refine JL.guardOff (b := false) rfl rfl rfl (congrArg Value.bool rfl) ?_
        refine JL.guardOff (b := false) rfl rfl rfl (congrArg Value.bool rfl) ?_
        refine JL.pure rfl (PO.pickF (v := .bool false) (congrArg Value.bool rfl) rfl) ?_
        refine JL.pure rfl (PO.move (v := .bool false) rfl) ?_
        refine JL.guardOff (b := false) rfl rfl rfl (congrArg Value.bool rfl) ?_
        refine JL.guardOff (b := false) rfl rfl rfl (congrArg Value.bool rfl) ?_
        refine JL.pure rfl (PO.pickF (v := .bool false) (congrArg Value.bool rfl) rfl) ?_
        refine JL.pure rfl (PO.assign (v := .bool false) rfl) ?_
        refine JL.nil ?_
        refine JQ.seq ?_
        refine JC.ret ?_
        refine Done.one (.inl rfl) rfl (RV.tmp (v := .bool false) rfl) (List.nil_sublist _) ?_
        obtain ⟨hb1, hb2, hb3, hb4, hb5⟩ := pl_procs e_118 (by omega) (by omega) e_119 e_128 e_137 e_235 e_241 e_250
        exfalso
        first | omega | contradiction | simp_all

end Go.Proofs.YtenfajgpdhgknaaGreatDoor
