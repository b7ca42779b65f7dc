/-
  A law that draws, walked: it says yes at every row of bytes.
-/
import Derived.Test.YtenfajgpdhgknaaGreatDoorDatF
import Derived.Test.YtenfajgpdhgknaaGreatDoorS26DRAWNp1
import Derived.Test.YtenfajgpdhgknaaGreatDoorS26DRAWN
set_option linter.unusedSimpArgs false
set_option linter.unusedVariables false
set_option linter.unnecessarySimpa false
set_option maxRecDepth 8000
namespace Go.Proofs.YtenfajgpdhgknaaGreatDoor
open Go Go.RowKit
attribute [local irreducible] JL JC JQ JO LO PO JA JX Ct

set_option maxHeartbeats 1600000 in
theorem L_Signals (pa : Option Addr) (pc : Nat) (p : Str) :
    Ct Tryz.prog 11 [.slice pa p.length pc] [] (fun w => Sees w (.slice pa p.length pc) 1 p.length (p.map encB)) (fun v A' => v = .bool true ∧ A' = []) := by
  refine Ct.intro Tryz.func11 rfl Tryz.ntmps11 (Nat.le_of_ble_eq_true rfl) fun w0 hpre => ?_
  have hs_pa : Sees w0 _ _ _ _ := hpre
  refine JC.seq ?_
  refine JC.region ?_
  refine JL.pure rfl (PO.assign (v := .bool false) rfl) ?_
  refine JL.nil ?_
  refine JQ.seq ?_
  refine JC.seq ?_
  refine JC.seq ?_
  refine JC.region ?_
  refine JL.pure rfl (PO.move (v := .slice pa p.length pc) rfl) ?_
  refine JL.op rfl (JO.call [] Tryz.call26 rfl (N_big pa pc p) rfl (fun _ _ => trivial)) ?_
  rintro _ _ ⟨_, ⟨rfl, rfl⟩, rfl⟩
  refine JL.nil ?_
  refine JQ.seq ?_
  by_cases h_1 : 1048576 < ((p.length : Nat) : Int)
  · skip
    refine JC.condT (congrArg Value.bool (decide_eq_true h_1)) ?_
    refine JC.seq ?_
    refine JC.region ?_
    refine JL.pure rfl (PO.assign (v := .bool true) rfl) ?_
    refine JL.nil ?_
    refine JQ.seq ?_
    refine JC.ret ?_
    refine JQ.thenRet ?_
    refine Done.one (.inl rfl) rfl (RV.tmp (v := .bool true) rfl) (List.nil_sublist _) ?_
    exact ⟨rfl, rfl⟩
  · skip
    refine JC.condF (congrArg Value.bool (decide_eq_false h_1)) ?_
    refine JC.skip ?_
    refine JQ.seq ?_
    refine JC.seq ?_
    refine JC.region ?_
    refine JL.pure rfl (PO.move (v := .slice pa p.length pc) rfl) ?_
    refine JL.op rfl (JO.call [] Tryz.call80 rfl (D_dSendSignal pa pc p (by omega)) rfl (fun w hw => hw.seeOut_ hs_pa (fun _ _ => List.not_mem_nil))) ?_
    rintro _ _ ⟨_, ⟨x_2, m_3, n_5, n_7, k_4, f_6, f_8, rfl, rfl⟩, rfl⟩
    refine JL.pure rfl (PO.move (v := .tuple #[mv x_2 m_3, .int .i64 n_5, .int .i64 n_7]) rfl) ?_
    refine JL.pure rfl (PO.extract (v := mv x_2 m_3) rfl rfl) ?_
    refine JL.pure rfl (PO.extract (v := .int .i64 n_5) rfl rfl) ?_
    refine JL.pure rfl (PO.extract (v := .int .i64 n_7) rfl rfl) ?_
    refine JL.op rfl (JO.alloc (z := .agg #[.slice none 0 0, .slice none 0 0, .slice none 0 0]) (cs := [.slice none 0 0, .slice none 0 0, .slice none 0 0]) Tryz.zeroValue32 rfl) ?_
    rintro _ _ ⟨b_10, rfl, rfl⟩
    refine JL.op rfl (JO.store 0 (vs := [.slice x_2.a0 m_3.s.length x_2.c0, .slice x_2.a1 m_3.r.length x_2.c1, .slice x_2.a2 m_3.w.length x_2.c2]) (cs' := [.slice x_2.a0 m_3.s.length x_2.c0, .slice x_2.a1 m_3.r.length x_2.c1, .slice x_2.a2 m_3.w.length x_2.c2]) rfl rfl rfl rfl Tryz.sizeOf32 rfl rfl (Nat.le_of_ble_eq_true rfl) rfl) ?_
    rintro _ _ rfl
    refine JL.pure rfl (PO.assign (v := .int .i64 n_5) rfl) ?_
    refine JL.pure rfl (PO.assign (v := .int .i64 n_7) rfl) ?_
    refine JL.nil ?_
    refine JQ.seq ?_
    refine JC.seq ?_
    refine JC.region ?_
    refine JL.ld rfl (LO.loadK 0 (vs := [.slice x_2.a0 m_3.s.length x_2.c0, .slice x_2.a1 m_3.r.length x_2.c1, .slice x_2.a2 m_3.w.length x_2.c2]) rfl rfl Tryz.isAgg32 Tryz.sizeOf32 rfl rfl) ?_
    refine JL.pure rfl (PO.move (v := .int .i64 n_5) rfl) ?_
    refine JL.pure rfl (PO.move (v := .int .i64 n_7) rfl) ?_
    refine JL.op rfl (JO.call [] Tryz.call81 rfl (P_send x_2 m_3 k_4 (by omega) (by omega) n_5 n_7 (by omega) (by omega)) rfl (fun w hw => ⟨hw.see (i := 1) rfl, hw.see (i := 2) rfl, hw.see (i := 3) rfl⟩)) ?_
    rintro _ _ ⟨_, ⟨x_13, m_14, n_15, e_11, k_12, f_16, rfl, rfl⟩, rfl⟩
    refine JL.pure rfl (PO.move (v := .tuple #[mv x_13 m_14, .int .i64 n_15]) rfl) ?_
    refine JL.pure rfl (PO.extract (v := mv x_13 m_14) rfl rfl) ?_
    refine JL.pure rfl (PO.extract (v := .int .i64 n_15) rfl rfl) ?_
    refine JL.op rfl (JO.alloc (z := .agg #[.slice none 0 0, .slice none 0 0, .slice none 0 0]) (cs := [.slice none 0 0, .slice none 0 0, .slice none 0 0]) Tryz.zeroValue32 rfl) ?_
    rintro _ _ ⟨b_17, rfl, rfl⟩
    refine JL.op rfl (JO.store 0 (vs := [.slice x_13.a0 m_14.s.length x_13.c0, .slice x_13.a1 m_14.r.length x_13.c1, .slice x_13.a2 m_14.w.length x_13.c2]) (cs' := [.slice x_13.a0 m_14.s.length x_13.c0, .slice x_13.a1 m_14.r.length x_13.c1, .slice x_13.a2 m_14.w.length x_13.c2]) rfl rfl rfl rfl Tryz.sizeOf32 rfl rfl (Nat.le_of_ble_eq_true rfl) rfl) ?_
    rintro _ _ rfl
    refine JL.pure rfl (PO.assign (v := .int .i64 n_15) rfl) ?_
    refine JL.nil ?_
    refine JQ.seq ?_
    refine JC.seq ?_
    refine JC.region ?_
    refine JL.ld rfl (LO.loadK 4 (vs := [.slice x_2.a0 m_3.s.length x_2.c0, .slice x_2.a1 m_3.r.length x_2.c1, .slice x_2.a2 m_3.w.length x_2.c2]) rfl rfl Tryz.isAgg32 Tryz.sizeOf32 rfl rfl) ?_
    refine JL.pure rfl (PO.move (v := .int .i64 n_5) rfl) ?_
    refine JL.pure rfl (PO.move (v := .int .i64 n_7) rfl) ?_
    refine JL.op rfl (JO.call [] Tryz.call82 rfl (Q_send x_2 m_3 k_4 (by omega) (by omega) n_5 n_7 (by omega) (by omega)) rfl (fun w hw => ⟨hw.see (i := 5) rfl, hw.see (i := 6) rfl, hw.see (i := 7) rfl⟩)) ?_
    rintro _ _ ⟨_, ⟨x_20, m_21, n_22, e_18, k_19, f_23, rfl, rfl⟩, rfl⟩
    have hqe_18 := e_11.symm.trans e_18
    simp only [Prod.mk.injEq] at hqe_18
    obtain ⟨rfl, rfl⟩ := hqe_18
    refine JL.pure rfl (PO.move (v := .tuple #[mv x_20 m_14, .int .i64 n_15]) rfl) ?_
    refine JL.pure rfl (PO.extract (v := mv x_20 m_14) rfl rfl) ?_
    refine JL.pure rfl (PO.extract (v := .int .i64 n_15) rfl rfl) ?_
    refine JL.op rfl (JO.alloc (z := .agg #[.slice none 0 0, .slice none 0 0, .slice none 0 0]) (cs := [.slice none 0 0, .slice none 0 0, .slice none 0 0]) Tryz.zeroValue32 rfl) ?_
    rintro _ _ ⟨b_24, rfl, rfl⟩
    refine JL.op rfl (JO.store 0 (vs := [.slice x_20.a0 m_14.s.length x_20.c0, .slice x_20.a1 m_14.r.length x_20.c1, .slice x_20.a2 m_14.w.length x_20.c2]) (cs' := [.slice x_20.a0 m_14.s.length x_20.c0, .slice x_20.a1 m_14.r.length x_20.c1, .slice x_20.a2 m_14.w.length x_20.c2]) rfl rfl rfl rfl Tryz.sizeOf32 rfl rfl (Nat.le_of_ble_eq_true rfl) rfl) ?_
    rintro _ _ rfl
    refine JL.pure rfl (PO.assign (v := .int .i64 n_15) rfl) ?_
    refine JL.nil ?_
    refine JQ.seq ?_
    refine JC.seq ?_
    refine JC.region ?_
    refine JL.pure rfl (PO.move (v := .slice pa p.length pc) rfl) ?_
    refine JL.op rfl (JO.call [] Tryz.call83 rfl (D_dTakeSignal pa pc p (by omega)) rfl (fun w hw => hw.seeOut_ hs_pa (fun _ _ => List.not_mem_nil))) ?_
    rintro _ _ ⟨_, ⟨x_25, m_26, n_28, k_27, f_29, rfl, rfl⟩, rfl⟩
    refine JL.pure rfl (PO.move (v := .tuple #[mv x_25 m_26, .int .i64 n_28]) rfl) ?_
    refine JL.pure rfl (PO.extract (v := mv x_25 m_26) rfl rfl) ?_
    refine JL.pure rfl (PO.extract (v := .int .i64 n_28) rfl rfl) ?_
    refine JL.op rfl (JO.alloc (z := .agg #[.slice none 0 0, .slice none 0 0, .slice none 0 0]) (cs := [.slice none 0 0, .slice none 0 0, .slice none 0 0]) Tryz.zeroValue32 rfl) ?_
    rintro _ _ ⟨b_31, rfl, rfl⟩
    refine JL.op rfl (JO.store 0 (vs := [.slice x_25.a0 m_26.s.length x_25.c0, .slice x_25.a1 m_26.r.length x_25.c1, .slice x_25.a2 m_26.w.length x_25.c2]) (cs' := [.slice x_25.a0 m_26.s.length x_25.c0, .slice x_25.a1 m_26.r.length x_25.c1, .slice x_25.a2 m_26.w.length x_25.c2]) rfl rfl rfl rfl Tryz.sizeOf32 rfl rfl (Nat.le_of_ble_eq_true rfl) rfl) ?_
    rintro _ _ rfl
    refine JL.pure rfl (PO.assign (v := .int .i64 n_28) rfl) ?_
    refine JL.nil ?_
    refine JQ.seq ?_
    refine JC.seq ?_
    refine JC.region ?_
    refine JL.ld rfl (LO.loadK 0 (vs := [.slice x_25.a0 m_26.s.length x_25.c0, .slice x_25.a1 m_26.r.length x_25.c1, .slice x_25.a2 m_26.w.length x_25.c2]) rfl rfl Tryz.isAgg32 Tryz.sizeOf32 rfl rfl) ?_
    refine JL.pure rfl (PO.move (v := .int .i64 n_28) rfl) ?_
    refine JL.op rfl (JO.call [] Tryz.call84 rfl (P_takeSignal x_25 m_26 k_27 (by omega) (by omega) n_28 (by omega)) rfl (fun w hw => ⟨hw.see (i := 1) rfl, hw.see (i := 2) rfl, hw.see (i := 3) rfl⟩)) ?_
    rintro _ _ ⟨_, ⟨x_34, m_35, n_36, n_38, e_32, k_33, f_37, f_39, rfl, rfl⟩, rfl⟩
    refine JL.pure rfl (PO.move (v := .tuple #[mv x_34 m_35, .int .i64 n_36, .int .i64 n_38]) rfl) ?_
    refine JL.pure rfl (PO.extract (v := mv x_34 m_35) rfl rfl) ?_
    refine JL.pure rfl (PO.extract (v := .int .i64 n_36) rfl rfl) ?_
    refine JL.pure rfl (PO.extract (v := .int .i64 n_38) rfl rfl) ?_
    refine JL.op rfl (JO.alloc (z := .agg #[.slice none 0 0, .slice none 0 0, .slice none 0 0]) (cs := [.slice none 0 0, .slice none 0 0, .slice none 0 0]) Tryz.zeroValue32 rfl) ?_
    rintro _ _ ⟨b_40, rfl, rfl⟩
    refine JL.op rfl (JO.store 0 (vs := [.slice x_34.a0 m_35.s.length x_34.c0, .slice x_34.a1 m_35.r.length x_34.c1, .slice x_34.a2 m_35.w.length x_34.c2]) (cs' := [.slice x_34.a0 m_35.s.length x_34.c0, .slice x_34.a1 m_35.r.length x_34.c1, .slice x_34.a2 m_35.w.length x_34.c2]) rfl rfl rfl rfl Tryz.sizeOf32 rfl rfl (Nat.le_of_ble_eq_true rfl) rfl) ?_
    rintro _ _ rfl
    refine JL.pure rfl (PO.assign (v := .int .i64 n_36) rfl) ?_
    refine JL.pure rfl (PO.assign (v := .int .i64 n_38) rfl) ?_
    refine JL.nil ?_
    refine JQ.seq ?_
    refine JC.seq ?_
    refine JC.region ?_
    refine JL.ld rfl (LO.loadK 4 (vs := [.slice x_25.a0 m_26.s.length x_25.c0, .slice x_25.a1 m_26.r.length x_25.c1, .slice x_25.a2 m_26.w.length x_25.c2]) rfl rfl Tryz.isAgg32 Tryz.sizeOf32 rfl rfl) ?_
    refine JL.pure rfl (PO.move (v := .int .i64 n_28) rfl) ?_
    refine JL.op rfl (JO.call [] Tryz.call85 rfl (Q_takeSignal x_25 m_26 k_27 (by omega) (by omega) n_28 (by omega)) rfl (fun w hw => ⟨hw.see (i := 5) rfl, hw.see (i := 6) rfl, hw.see (i := 7) rfl⟩)) ?_
    rintro _ _ ⟨_, ⟨x_43, m_44, n_45, n_47, e_41, k_42, f_46, f_48, rfl, rfl⟩, rfl⟩
    have hqe_41 := e_32.symm.trans e_41
    simp only [Prod.mk.injEq] at hqe_41
    obtain ⟨rfl, rfl, rfl⟩ := hqe_41
    refine JL.pure rfl (PO.move (v := .tuple #[mv x_43 m_35, .int .i64 n_36, .int .i64 n_38]) rfl) ?_
    refine JL.pure rfl (PO.extract (v := mv x_43 m_35) rfl rfl) ?_
    refine JL.pure rfl (PO.extract (v := .int .i64 n_36) rfl rfl) ?_
    refine JL.pure rfl (PO.extract (v := .int .i64 n_38) rfl rfl) ?_
    refine JL.op rfl (JO.alloc (z := .agg #[.slice none 0 0, .slice none 0 0, .slice none 0 0]) (cs := [.slice none 0 0, .slice none 0 0, .slice none 0 0]) Tryz.zeroValue32 rfl) ?_
    rintro _ _ ⟨b_49, rfl, rfl⟩
    refine JL.op rfl (JO.store 0 (vs := [.slice x_43.a0 m_35.s.length x_43.c0, .slice x_43.a1 m_35.r.length x_43.c1, .slice x_43.a2 m_35.w.length x_43.c2]) (cs' := [.slice x_43.a0 m_35.s.length x_43.c0, .slice x_43.a1 m_35.r.length x_43.c1, .slice x_43.a2 m_35.w.length x_43.c2]) rfl rfl rfl rfl Tryz.sizeOf32 rfl rfl (Nat.le_of_ble_eq_true rfl) rfl) ?_
    rintro _ _ rfl
    refine JL.pure rfl (PO.assign (v := .int .i64 n_36) rfl) ?_
    refine JL.pure rfl (PO.assign (v := .int .i64 n_38) rfl) ?_
    refine JL.nil ?_
    refine JQ.sub (L' := [mb b_49 x_43 m_35, rC x_43.a0 x_43.c0 m_35.s, rS x_43.a1 x_43.c1 m_35.r, rS x_43.a2 x_43.c2 m_35.w, mb b_40 x_34 m_35, rC x_34.a0 x_34.c0 m_35.s, rS x_34.a1 x_34.c1 m_35.r, rS x_34.a2 x_34.c2 m_35.w, mb b_24 x_20 m_14, rC x_20.a0 x_20.c0 m_14.s, rS x_20.a1 x_20.c1 m_14.r, rS x_20.a2 x_20.c2 m_14.w, mb b_17 x_13 m_14, rC x_13.a0 x_13.c0 m_14.s, rS x_13.a1 x_13.c1 m_14.r, rS x_13.a2 x_13.c2 m_14.w]) (.cons_cons _ (.cons_cons _ (.cons_cons _ (.cons_cons _ (.cons_cons _ (.cons_cons _ (.cons_cons _ (.cons_cons _ (.cons _ (.cons _ (.cons _ (.cons _ (.cons_cons _ (.cons_cons _ (.cons_cons _ (.cons_cons _ (.cons_cons _ (.cons_cons _ (.cons_cons _ (.cons_cons _ (.cons _ (.cons _ (.cons _ (.cons _ (.slnil))))))))))))))))))))))))) ?_
    refine JQ.seq ?_
    refine JC.seq ?_
    refine JC.region ?_
    refine JL.pure rfl (PO.move (v := .slice pa p.length pc) rfl) ?_
    refine JL.op rfl (JO.call [] Tryz.call86 rfl (D_dSetTimer pa pc p (by omega)) rfl (fun w hw => hw.seeOut_ hs_pa (fun _ _ => List.not_mem_nil))) ?_
    rintro _ _ ⟨_, ⟨x_50, m_51, n_53, n_55, k_52, f_54, f_56, rfl, rfl⟩, rfl⟩
    refine JL.pure rfl (PO.move (v := .tuple #[mv x_50 m_51, .int .i64 n_53, .int .i64 n_55]) rfl) ?_
    refine JL.pure rfl (PO.extract (v := mv x_50 m_51) rfl rfl) ?_
    refine JL.pure rfl (PO.extract (v := .int .i64 n_53) rfl rfl) ?_
    refine JL.pure rfl (PO.extract (v := .int .i64 n_55) rfl rfl) ?_
    refine JL.op rfl (JO.alloc (z := .agg #[.slice none 0 0, .slice none 0 0, .slice none 0 0]) (cs := [.slice none 0 0, .slice none 0 0, .slice none 0 0]) Tryz.zeroValue32 rfl) ?_
    rintro _ _ ⟨b_58, rfl, rfl⟩
    refine JL.op rfl (JO.store 0 (vs := [.slice x_50.a0 m_51.s.length x_50.c0, .slice x_50.a1 m_51.r.length x_50.c1, .slice x_50.a2 m_51.w.length x_50.c2]) (cs' := [.slice x_50.a0 m_51.s.length x_50.c0, .slice x_50.a1 m_51.r.length x_50.c1, .slice x_50.a2 m_51.w.length x_50.c2]) rfl rfl rfl rfl Tryz.sizeOf32 rfl rfl (Nat.le_of_ble_eq_true rfl) rfl) ?_
    rintro _ _ rfl
    refine JL.pure rfl (PO.assign (v := .int .i64 n_53) rfl) ?_
    refine JL.pure rfl (PO.assign (v := .int .i64 n_55) rfl) ?_
    refine JL.nil ?_
    refine JQ.seq ?_
    refine JC.seq ?_
    refine JC.region ?_
    refine JL.ld rfl (LO.loadK 0 (vs := [.slice x_50.a0 m_51.s.length x_50.c0, .slice x_50.a1 m_51.r.length x_50.c1, .slice x_50.a2 m_51.w.length x_50.c2]) rfl rfl Tryz.isAgg32 Tryz.sizeOf32 rfl rfl) ?_
    refine JL.pure rfl (PO.move (v := .int .i64 n_53) rfl) ?_
    refine JL.pure rfl (PO.move (v := .int .i64 n_55) rfl) ?_
    refine JL.op rfl (JO.call [] Tryz.call87 rfl (P_setTimer x_50 m_51 k_52 (by omega) (by omega) n_53 n_55 (by omega) (by omega)) rfl (fun w hw => ⟨hw.see (i := 1) rfl, hw.see (i := 2) rfl, hw.see (i := 3) rfl⟩)) ?_
    rintro _ _ ⟨_, ⟨x_61, m_62, n_63, e_59, k_60, f_64, rfl, rfl⟩, rfl⟩
    refine JL.pure rfl (PO.move (v := .tuple #[mv x_61 m_62, .int .i64 n_63]) rfl) ?_
    refine JL.pure rfl (PO.extract (v := mv x_61 m_62) rfl rfl) ?_
    refine JL.pure rfl (PO.extract (v := .int .i64 n_63) rfl rfl) ?_
    refine JL.op rfl (JO.alloc (z := .agg #[.slice none 0 0, .slice none 0 0, .slice none 0 0]) (cs := [.slice none 0 0, .slice none 0 0, .slice none 0 0]) Tryz.zeroValue32 rfl) ?_
    rintro _ _ ⟨b_65, rfl, rfl⟩
    refine JL.op rfl (JO.store 0 (vs := [.slice x_61.a0 m_62.s.length x_61.c0, .slice x_61.a1 m_62.r.length x_61.c1, .slice x_61.a2 m_62.w.length x_61.c2]) (cs' := [.slice x_61.a0 m_62.s.length x_61.c0, .slice x_61.a1 m_62.r.length x_61.c1, .slice x_61.a2 m_62.w.length x_61.c2]) rfl rfl rfl rfl Tryz.sizeOf32 rfl rfl (Nat.le_of_ble_eq_true rfl) rfl) ?_
    rintro _ _ rfl
    refine JL.pure rfl (PO.assign (v := .int .i64 n_63) rfl) ?_
    refine JL.nil ?_
    refine JQ.seq ?_
    refine JC.seq ?_
    refine JC.region ?_
    refine JL.ld rfl (LO.loadK 4 (vs := [.slice x_50.a0 m_51.s.length x_50.c0, .slice x_50.a1 m_51.r.length x_50.c1, .slice x_50.a2 m_51.w.length x_50.c2]) rfl rfl Tryz.isAgg32 Tryz.sizeOf32 rfl rfl) ?_
    refine JL.pure rfl (PO.move (v := .int .i64 n_53) rfl) ?_
    refine JL.pure rfl (PO.move (v := .int .i64 n_55) rfl) ?_
    refine JL.op rfl (JO.call [] Tryz.call88 rfl (Q_setTimer x_50 m_51 k_52 (by omega) (by omega) n_53 n_55 (by omega) (by omega)) rfl (fun w hw => ⟨hw.see (i := 5) rfl, hw.see (i := 6) rfl, hw.see (i := 7) rfl⟩)) ?_
    rintro _ _ ⟨_, ⟨x_68, m_69, n_70, e_66, k_67, f_71, rfl, rfl⟩, rfl⟩
    have hqe_66 := e_59.symm.trans e_66
    simp only [Prod.mk.injEq] at hqe_66
    obtain ⟨rfl, rfl⟩ := hqe_66
    refine JL.pure rfl (PO.move (v := .tuple #[mv x_68 m_62, .int .i64 n_63]) rfl) ?_
    refine JL.pure rfl (PO.extract (v := mv x_68 m_62) rfl rfl) ?_
    refine JL.pure rfl (PO.extract (v := .int .i64 n_63) rfl rfl) ?_
    refine JL.op rfl (JO.alloc (z := .agg #[.slice none 0 0, .slice none 0 0, .slice none 0 0]) (cs := [.slice none 0 0, .slice none 0 0, .slice none 0 0]) Tryz.zeroValue32 rfl) ?_
    rintro _ _ ⟨b_72, rfl, rfl⟩
    refine JL.op rfl (JO.store 0 (vs := [.slice x_68.a0 m_62.s.length x_68.c0, .slice x_68.a1 m_62.r.length x_68.c1, .slice x_68.a2 m_62.w.length x_68.c2]) (cs' := [.slice x_68.a0 m_62.s.length x_68.c0, .slice x_68.a1 m_62.r.length x_68.c1, .slice x_68.a2 m_62.w.length x_68.c2]) rfl rfl rfl rfl Tryz.sizeOf32 rfl rfl (Nat.le_of_ble_eq_true rfl) rfl) ?_
    rintro _ _ rfl
    refine JL.pure rfl (PO.assign (v := .int .i64 n_63) rfl) ?_
    refine JL.nil ?_
    refine JQ.seq ?_
    refine JC.seq ?_
    refine JC.region ?_
    refine JL.pure rfl (PO.move (v := .slice pa p.length pc) rfl) ?_
    refine JL.op rfl (JO.call [] Tryz.call89 rfl (D_dTick pa pc p (by omega)) rfl (fun w hw => hw.seeOut_ hs_pa (fun _ _ => List.not_mem_nil))) ?_
    rintro _ _ ⟨_, ⟨x_73, m_74, n_76, k_75, f_77, rfl, rfl⟩, rfl⟩
    refine JL.pure rfl (PO.move (v := .tuple #[mv x_73 m_74, .int .i64 n_76]) rfl) ?_
    refine JL.pure rfl (PO.extract (v := mv x_73 m_74) rfl rfl) ?_
    refine JL.pure rfl (PO.extract (v := .int .i64 n_76) rfl rfl) ?_
    refine JL.op rfl (JO.alloc (z := .agg #[.slice none 0 0, .slice none 0 0, .slice none 0 0]) (cs := [.slice none 0 0, .slice none 0 0, .slice none 0 0]) Tryz.zeroValue32 rfl) ?_
    rintro _ _ ⟨b_79, rfl, rfl⟩
    refine JL.op rfl (JO.store 0 (vs := [.slice x_73.a0 m_74.s.length x_73.c0, .slice x_73.a1 m_74.r.length x_73.c1, .slice x_73.a2 m_74.w.length x_73.c2]) (cs' := [.slice x_73.a0 m_74.s.length x_73.c0, .slice x_73.a1 m_74.r.length x_73.c1, .slice x_73.a2 m_74.w.length x_73.c2]) rfl rfl rfl rfl Tryz.sizeOf32 rfl rfl (Nat.le_of_ble_eq_true rfl) rfl) ?_
    rintro _ _ rfl
    refine JL.pure rfl (PO.assign (v := .int .i64 n_76) rfl) ?_
    refine JL.nil ?_
    refine JQ.seq ?_
    refine JC.seq ?_
    refine JC.region ?_
    refine JL.ld rfl (LO.loadK 0 (vs := [.slice x_73.a0 m_74.s.length x_73.c0, .slice x_73.a1 m_74.r.length x_73.c1, .slice x_73.a2 m_74.w.length x_73.c2]) rfl rfl Tryz.isAgg32 Tryz.sizeOf32 rfl rfl) ?_
    refine JL.pure rfl (PO.move (v := .int .i64 n_76) rfl) ?_
    refine JL.op rfl (JO.call [] Tryz.call90 rfl (P_tick x_73 m_74 k_75 (by omega) (by omega) n_76 (by omega)) rfl (fun w hw => ⟨hw.see (i := 1) rfl, hw.see (i := 2) rfl, hw.see (i := 3) rfl⟩)) ?_
    rintro _ _ ⟨_, ⟨x_82, m_83, n_84, n_86, e_80, k_81, f_85, f_87, rfl, rfl⟩, rfl⟩
    refine JL.pure rfl (PO.move (v := .tuple #[mv x_82 m_83, .int .i64 n_84, .int .i64 n_86]) rfl) ?_
    refine JL.pure rfl (PO.extract (v := mv x_82 m_83) rfl rfl) ?_
    refine JL.pure rfl (PO.extract (v := .int .i64 n_84) rfl rfl) ?_
    refine JL.pure rfl (PO.extract (v := .int .i64 n_86) rfl rfl) ?_
    refine JL.op rfl (JO.alloc (z := .agg #[.slice none 0 0, .slice none 0 0, .slice none 0 0]) (cs := [.slice none 0 0, .slice none 0 0, .slice none 0 0]) Tryz.zeroValue32 rfl) ?_
    rintro _ _ ⟨b_88, rfl, rfl⟩
    refine JL.op rfl (JO.store 0 (vs := [.slice x_82.a0 m_83.s.length x_82.c0, .slice x_82.a1 m_83.r.length x_82.c1, .slice x_82.a2 m_83.w.length x_82.c2]) (cs' := [.slice x_82.a0 m_83.s.length x_82.c0, .slice x_82.a1 m_83.r.length x_82.c1, .slice x_82.a2 m_83.w.length x_82.c2]) rfl rfl rfl rfl Tryz.sizeOf32 rfl rfl (Nat.le_of_ble_eq_true rfl) rfl) ?_
    rintro _ _ rfl
    refine JL.pure rfl (PO.assign (v := .int .i64 n_84) rfl) ?_
    refine JL.pure rfl (PO.assign (v := .int .i64 n_86) rfl) ?_
    refine JL.nil ?_
    refine JQ.seq ?_
    refine JC.seq ?_
    refine JC.region ?_
    refine JL.ld rfl (LO.loadK 4 (vs := [.slice x_73.a0 m_74.s.length x_73.c0, .slice x_73.a1 m_74.r.length x_73.c1, .slice x_73.a2 m_74.w.length x_73.c2]) rfl rfl Tryz.isAgg32 Tryz.sizeOf32 rfl rfl) ?_
    refine JL.pure rfl (PO.move (v := .int .i64 n_76) rfl) ?_
    refine JL.op rfl (JO.call [] Tryz.call91 rfl (Q_tick x_73 m_74 k_75 (by omega) (by omega) n_76 (by omega)) rfl (fun w hw => ⟨hw.see (i := 5) rfl, hw.see (i := 6) rfl, hw.see (i := 7) rfl⟩)) ?_
    rintro _ _ ⟨_, ⟨x_91, m_92, n_93, n_95, e_89, k_90, f_94, f_96, rfl, rfl⟩, rfl⟩
    have hqe_89 := e_80.symm.trans e_89
    simp only [Prod.mk.injEq] at hqe_89
    obtain ⟨rfl, rfl, rfl⟩ := hqe_89
    refine JL.pure rfl (PO.move (v := .tuple #[mv x_91 m_83, .int .i64 n_84, .int .i64 n_86]) rfl) ?_
    refine JL.pure rfl (PO.extract (v := mv x_91 m_83) rfl rfl) ?_
    refine JL.pure rfl (PO.extract (v := .int .i64 n_84) rfl rfl) ?_
    refine JL.pure rfl (PO.extract (v := .int .i64 n_86) rfl rfl) ?_
    refine JL.op rfl (JO.alloc (z := .agg #[.slice none 0 0, .slice none 0 0, .slice none 0 0]) (cs := [.slice none 0 0, .slice none 0 0, .slice none 0 0]) Tryz.zeroValue32 rfl) ?_
    rintro _ _ ⟨b_97, rfl, rfl⟩
    refine JL.op rfl (JO.store 0 (vs := [.slice x_91.a0 m_83.s.length x_91.c0, .slice x_91.a1 m_83.r.length x_91.c1, .slice x_91.a2 m_83.w.length x_91.c2]) (cs' := [.slice x_91.a0 m_83.s.length x_91.c0, .slice x_91.a1 m_83.r.length x_91.c1, .slice x_91.a2 m_83.w.length x_91.c2]) rfl rfl rfl rfl Tryz.sizeOf32 rfl rfl (Nat.le_of_ble_eq_true rfl) rfl) ?_
    rintro _ _ rfl
    refine JL.pure rfl (PO.assign (v := .int .i64 n_84) rfl) ?_
    refine JL.pure rfl (PO.assign (v := .int .i64 n_86) rfl) ?_
    refine JL.nil ?_
    refine JQ.sub (L' := [mb b_97 x_91 m_83, rC x_91.a0 x_91.c0 m_83.s, rS x_91.a1 x_91.c1 m_83.r, rS x_91.a2 x_91.c2 m_83.w, mb b_88 x_82 m_83, rC x_82.a0 x_82.c0 m_83.s, rS x_82.a1 x_82.c1 m_83.r, rS x_82.a2 x_82.c2 m_83.w, mb b_72 x_68 m_62, rC x_68.a0 x_68.c0 m_62.s, rS x_68.a1 x_68.c1 m_62.r, rS x_68.a2 x_68.c2 m_62.w, mb b_65 x_61 m_62, rC x_61.a0 x_61.c0 m_62.s, rS x_61.a1 x_61.c1 m_62.r, rS x_61.a2 x_61.c2 m_62.w, mb b_49 x_43 m_35, rC x_43.a0 x_43.c0 m_35.s, rS x_43.a1 x_43.c1 m_35.r, rS x_43.a2 x_43.c2 m_35.w, mb b_40 x_34 m_35, rC x_34.a0 x_34.c0 m_35.s, rS x_34.a1 x_34.c1 m_35.r, rS x_34.a2 x_34.c2 m_35.w, mb b_24 x_20 m_14, rC x_20.a0 x_20.c0 m_14.s, rS x_20.a1 x_20.c1 m_14.r, rS x_20.a2 x_20.c2 m_14.w, mb b_17 x_13 m_14, rC x_13.a0 x_13.c0 m_14.s, rS x_13.a1 x_13.c1 m_14.r, rS x_13.a2 x_13.c2 m_14.w]) (.cons_cons _ (.cons_cons _ (.cons_cons _ (.cons_cons _ (.cons_cons _ (.cons_cons _ (.cons_cons _ (.cons_cons _ (.cons _ (.cons _ (.cons _ (.cons _ (.cons_cons _ (.cons_cons _ (.cons_cons _ (.cons_cons _ (.cons_cons _ (.cons_cons _ (.cons_cons _ (.cons_cons _ (.cons _ (.cons _ (.cons _ (.cons _ (.cons_cons _ (.cons_cons _ (.cons_cons _ (.cons_cons _ (.cons_cons _ (.cons_cons _ (.cons_cons _ (.cons_cons _ (.cons_cons _ (.cons_cons _ (.cons_cons _ (.cons_cons _ (.cons_cons _ (.cons_cons _ (.cons_cons _ (.cons_cons _ (.slnil))))))))))))))))))))))))))))))))))))))))) ?_
    refine JQ.seq ?_
    refine JC.seq ?_
    refine JC.region ?_
    refine JL.pure rfl (PO.move (v := .slice pa p.length pc) rfl) ?_
    refine JL.op rfl (JO.call [] Tryz.call92 rfl (D_dClockOf pa pc p (by omega)) rfl (fun w hw => hw.seeOut_ hs_pa (fun _ _ => List.not_mem_nil))) ?_
    rintro _ _ ⟨_, ⟨x_98, m_99, k_100, rfl, rfl⟩, rfl⟩
    refine JL.op rfl (JO.alloc (z := .agg #[.slice none 0 0, .slice none 0 0, .slice none 0 0]) (cs := [.slice none 0 0, .slice none 0 0, .slice none 0 0]) Tryz.zeroValue32 rfl) ?_
    rintro _ _ ⟨b_102, rfl, rfl⟩
    refine JL.op rfl (JO.store 0 (vs := [.slice x_98.a0 m_99.s.length x_98.c0, .slice x_98.a1 m_99.r.length x_98.c1, .slice x_98.a2 m_99.w.length x_98.c2]) (cs' := [.slice x_98.a0 m_99.s.length x_98.c0, .slice x_98.a1 m_99.r.length x_98.c1, .slice x_98.a2 m_99.w.length x_98.c2]) rfl rfl rfl rfl Tryz.sizeOf32 rfl rfl (Nat.le_of_ble_eq_true rfl) rfl) ?_
    rintro _ _ rfl
    refine JL.nil ?_
    refine JQ.seq ?_
    refine JC.seq ?_
    refine JC.region ?_
    refine JL.ld rfl (LO.loadK 0 (vs := [.slice x_98.a0 m_99.s.length x_98.c0, .slice x_98.a1 m_99.r.length x_98.c1, .slice x_98.a2 m_99.w.length x_98.c2]) rfl rfl Tryz.isAgg32 Tryz.sizeOf32 rfl rfl) ?_
    refine JL.op rfl (JO.call [] Tryz.call93 rfl (P_clock x_98 m_99 k_100 (by omega) (by omega)) rfl (fun w hw => ⟨hw.see (i := 1) rfl, hw.see (i := 2) rfl, hw.see (i := 3) rfl⟩)) ?_
    rintro _ _ ⟨_, ⟨x_105, m_106, n_107, e_103, k_104, f_108, rfl, rfl⟩, rfl⟩
    refine JL.pure rfl (PO.move (v := .tuple #[mv x_105 m_106, .int .i64 n_107]) rfl) ?_
    refine JL.pure rfl (PO.extract (v := mv x_105 m_106) rfl rfl) ?_
    refine JL.pure rfl (PO.extract (v := .int .i64 n_107) rfl rfl) ?_
    refine JL.op rfl (JO.alloc (z := .agg #[.slice none 0 0, .slice none 0 0, .slice none 0 0]) (cs := [.slice none 0 0, .slice none 0 0, .slice none 0 0]) Tryz.zeroValue32 rfl) ?_
    rintro _ _ ⟨b_109, rfl, rfl⟩
    refine JL.op rfl (JO.store 0 (vs := [.slice x_105.a0 m_106.s.length x_105.c0, .slice x_105.a1 m_106.r.length x_105.c1, .slice x_105.a2 m_106.w.length x_105.c2]) (cs' := [.slice x_105.a0 m_106.s.length x_105.c0, .slice x_105.a1 m_106.r.length x_105.c1, .slice x_105.a2 m_106.w.length x_105.c2]) rfl rfl rfl rfl Tryz.sizeOf32 rfl rfl (Nat.le_of_ble_eq_true rfl) rfl) ?_
    rintro _ _ rfl
    refine JL.pure rfl (PO.assign (v := .int .i64 n_107) rfl) ?_
    refine JL.nil ?_
    refine JQ.seq ?_
    refine JC.seq ?_
    refine JC.region ?_
    refine JL.ld rfl (LO.loadK 4 (vs := [.slice x_98.a0 m_99.s.length x_98.c0, .slice x_98.a1 m_99.r.length x_98.c1, .slice x_98.a2 m_99.w.length x_98.c2]) rfl rfl Tryz.isAgg32 Tryz.sizeOf32 rfl rfl) ?_
    refine JL.op rfl (JO.call [] Tryz.call94 rfl (Q_clock x_98 m_99 k_100 (by omega) (by omega)) rfl (fun w hw => ⟨hw.see (i := 5) rfl, hw.see (i := 6) rfl, hw.see (i := 7) rfl⟩)) ?_
    rintro _ _ ⟨_, ⟨x_112, m_113, n_114, e_110, k_111, f_115, rfl, rfl⟩, rfl⟩
    have hqe_110 := e_103.symm.trans e_110
    simp only [Prod.mk.injEq] at hqe_110
    obtain ⟨rfl, rfl⟩ := hqe_110
    refine JL.pure rfl (PO.move (v := .tuple #[mv x_112 m_106, .int .i64 n_107]) rfl) ?_
    refine JL.pure rfl (PO.extract (v := mv x_112 m_106) rfl rfl) ?_
    refine JL.pure rfl (PO.extract (v := .int .i64 n_107) rfl rfl) ?_
    refine JL.op rfl (JO.alloc (z := .agg #[.slice none 0 0, .slice none 0 0, .slice none 0 0]) (cs := [.slice none 0 0, .slice none 0 0, .slice none 0 0]) Tryz.zeroValue32 rfl) ?_
    rintro _ _ ⟨b_116, rfl, rfl⟩
    refine JL.op rfl (JO.store 0 (vs := [.slice x_112.a0 m_106.s.length x_112.c0, .slice x_112.a1 m_106.r.length x_112.c1, .slice x_112.a2 m_106.w.length x_112.c2]) (cs' := [.slice x_112.a0 m_106.s.length x_112.c0, .slice x_112.a1 m_106.r.length x_112.c1, .slice x_112.a2 m_106.w.length x_112.c2]) rfl rfl rfl rfl Tryz.sizeOf32 rfl rfl (Nat.le_of_ble_eq_true rfl) rfl) ?_
    rintro _ _ rfl
    refine JL.pure rfl (PO.assign (v := .int .i64 n_107) rfl) ?_
    refine JL.nil ?_
    refine JQ.seq ?_
    refine JC.seq ?_
    refine JC.seq ?_
    refine JC.region ?_
    refine JL.pure rfl (PO.move (v := .int .i64 n_15) rfl) ?_
    refine JL.pure rfl (PO.move (v := .int .i64 n_15) rfl) ?_
    refine JL.pure rfl (PO.neqI rfl rfl) ?_
    refine JL.pure rfl (PO.move (v := .bool (!(decide (n_15 = n_15)))) rfl) ?_
    refine JL.guardOn rfl rfl rfl (congrArg Value.bool (congrArg Bool.not (decide_eq_true rfl))) (JO.ofLO (LO.loadK 40 (vs := [.slice x_13.a0 m_14.s.length x_13.c0, .slice x_13.a1 m_14.r.length x_13.c1, .slice x_13.a2 m_14.w.length x_13.c2]) rfl rfl Tryz.isAgg32 Tryz.sizeOf32 rfl rfl)) ?_
    rintro _ _ ⟨rfl, rfl⟩
    refine JL.guardOn rfl rfl rfl (congrArg Value.bool (congrArg Bool.not (decide_eq_true rfl))) (JO.ofLO (LO.loadK 36 (vs := [.slice x_20.a0 m_14.s.length x_20.c0, .slice x_20.a1 m_14.r.length x_20.c1, .slice x_20.a2 m_14.w.length x_20.c2]) rfl rfl Tryz.isAgg32 Tryz.sizeOf32 rfl rfl)) ?_
    rintro _ _ ⟨rfl, rfl⟩
    refine JL.guardOn rfl rfl rfl (congrArg Value.bool (congrArg Bool.not (decide_eq_true rfl))) (JO.call [] Tryz.call30 rfl (N_sameMach x_13 x_20 m_14 k_12 (by omega) (by omega)) rfl (fun w hw => ⟨⟨hw.see (i := 41) rfl, hw.see (i := 42) rfl, hw.see (i := 43) rfl⟩, ⟨hw.see (i := 37) rfl, hw.see (i := 38) rfl, hw.see (i := 39) rfl⟩⟩)) ?_
    rintro _ _ ⟨_, ⟨rfl, rfl⟩, rfl⟩
    refine JL.guardOn rfl rfl rfl (congrArg Value.bool (congrArg Bool.not (decide_eq_true rfl))) (JO.ofLO (LO.pure (PO.not rfl))) ?_
    rintro _ _ ⟨rfl, rfl⟩
    refine JL.pure rfl (PO.pickF (v := .bool false) (congrArg Value.bool (congrArg Bool.not (decide_eq_true rfl))) rfl) ?_
    refine JL.pure rfl (PO.move (v := .bool false) rfl) ?_
    refine JL.guardOn rfl rfl rfl (congrArg Value.bool rfl) (JO.ofLO (LO.pure (PO.move (v := .int .i64 n_36) rfl))) ?_
    rintro _ _ ⟨rfl, rfl⟩
    refine JL.guardOn rfl rfl rfl (congrArg Value.bool rfl) (JO.ofLO (LO.pure (PO.move (v := .int .i64 n_36) rfl))) ?_
    rintro _ _ ⟨rfl, rfl⟩
    refine JL.guardOn rfl rfl rfl (congrArg Value.bool rfl) (JO.ofLO (LO.pure (PO.neqI rfl rfl))) ?_
    rintro _ _ ⟨rfl, rfl⟩
    refine JL.pure rfl (PO.pickF (v := .bool (!(decide (n_36 = n_36)))) (congrArg Value.bool rfl) rfl) ?_
    refine JL.pure rfl (PO.move (v := .bool (!(decide (n_36 = n_36)))) rfl) ?_
    refine JL.guardOn rfl rfl rfl (congrArg Value.bool (congrArg Bool.not (decide_eq_true rfl))) (JO.ofLO (LO.pure (PO.move (v := .int .i64 n_38) rfl))) ?_
    rintro _ _ ⟨rfl, rfl⟩
    refine JL.guardOn rfl rfl rfl (congrArg Value.bool (congrArg Bool.not (decide_eq_true rfl))) (JO.ofLO (LO.pure (PO.move (v := .int .i64 n_38) rfl))) ?_
    rintro _ _ ⟨rfl, rfl⟩
    refine JL.guardOn rfl rfl rfl (congrArg Value.bool (congrArg Bool.not (decide_eq_true rfl))) (JO.ofLO (LO.pure (PO.neqI rfl rfl))) ?_
    rintro _ _ ⟨rfl, rfl⟩
    refine JL.pure rfl (PO.pickF (v := .bool (!(decide (n_38 = n_38)))) (congrArg Value.bool (congrArg Bool.not (decide_eq_true rfl))) rfl) ?_
    refine JL.pure rfl (PO.move (v := .bool (!(decide (n_38 = n_38)))) rfl) ?_
    refine JL.guardOn rfl rfl rfl (congrArg Value.bool (congrArg Bool.not (decide_eq_true rfl))) (JO.ofLO (LO.loadK 32 (vs := [.slice x_34.a0 m_35.s.length x_34.c0, .slice x_34.a1 m_35.r.length x_34.c1, .slice x_34.a2 m_35.w.length x_34.c2]) rfl rfl Tryz.isAgg32 Tryz.sizeOf32 rfl rfl)) ?_
    rintro _ _ ⟨rfl, rfl⟩
    refine JL.guardOn rfl rfl rfl (congrArg Value.bool (congrArg Bool.not (decide_eq_true rfl))) (JO.ofLO (LO.loadK 28 (vs := [.slice x_43.a0 m_35.s.length x_43.c0, .slice x_43.a1 m_35.r.length x_43.c1, .slice x_43.a2 m_35.w.length x_43.c2]) rfl rfl Tryz.isAgg32 Tryz.sizeOf32 rfl rfl)) ?_
    rintro _ _ ⟨rfl, rfl⟩
    refine JL.guardOn rfl rfl rfl (congrArg Value.bool (congrArg Bool.not (decide_eq_true rfl))) (JO.call [] Tryz.call30 rfl (N_sameMach x_34 x_43 m_35 k_33 (by omega) (by omega)) rfl (fun w hw => ⟨⟨hw.see (i := 33) rfl, hw.see (i := 34) rfl, hw.see (i := 35) rfl⟩, ⟨hw.see (i := 29) rfl, hw.see (i := 30) rfl, hw.see (i := 31) rfl⟩⟩)) ?_
    rintro _ _ ⟨_, ⟨rfl, rfl⟩, rfl⟩
    refine JL.guardOn rfl rfl rfl (congrArg Value.bool (congrArg Bool.not (decide_eq_true rfl))) (JO.ofLO (LO.pure (PO.not rfl))) ?_
    rintro _ _ ⟨rfl, rfl⟩
    refine JL.pure rfl (PO.pickF (v := .bool false) (congrArg Value.bool (congrArg Bool.not (decide_eq_true rfl))) rfl) ?_
    refine JL.pure rfl (PO.move (v := .bool false) rfl) ?_
    refine JL.guardOn rfl rfl rfl (congrArg Value.bool rfl) (JO.ofLO (LO.pure (PO.move (v := .int .i64 n_63) rfl))) ?_
    rintro _ _ ⟨rfl, rfl⟩
    refine JL.guardOn rfl rfl rfl (congrArg Value.bool rfl) (JO.ofLO (LO.pure (PO.move (v := .int .i64 n_63) rfl))) ?_
    rintro _ _ ⟨rfl, rfl⟩
    refine JL.guardOn rfl rfl rfl (congrArg Value.bool rfl) (JO.ofLO (LO.pure (PO.neqI rfl rfl))) ?_
    rintro _ _ ⟨rfl, rfl⟩
    refine JL.pure rfl (PO.pickF (v := .bool (!(decide (n_63 = n_63)))) (congrArg Value.bool rfl) rfl) ?_
    refine JL.pure rfl (PO.move (v := .bool (!(decide (n_63 = n_63)))) rfl) ?_
    refine JL.guardOn rfl rfl rfl (congrArg Value.bool (congrArg Bool.not (decide_eq_true rfl))) (JO.ofLO (LO.loadK 24 (vs := [.slice x_61.a0 m_62.s.length x_61.c0, .slice x_61.a1 m_62.r.length x_61.c1, .slice x_61.a2 m_62.w.length x_61.c2]) rfl rfl Tryz.isAgg32 Tryz.sizeOf32 rfl rfl)) ?_
    rintro _ _ ⟨rfl, rfl⟩
    refine JL.guardOn rfl rfl rfl (congrArg Value.bool (congrArg Bool.not (decide_eq_true rfl))) (JO.ofLO (LO.loadK 20 (vs := [.slice x_68.a0 m_62.s.length x_68.c0, .slice x_68.a1 m_62.r.length x_68.c1, .slice x_68.a2 m_62.w.length x_68.c2]) rfl rfl Tryz.isAgg32 Tryz.sizeOf32 rfl rfl)) ?_
    rintro _ _ ⟨rfl, rfl⟩
    refine JL.guardOn rfl rfl rfl (congrArg Value.bool (congrArg Bool.not (decide_eq_true rfl))) (JO.call [] Tryz.call30 rfl (N_sameMach x_61 x_68 m_62 k_60 (by omega) (by omega)) rfl (fun w hw => ⟨⟨hw.see (i := 25) rfl, hw.see (i := 26) rfl, hw.see (i := 27) rfl⟩, ⟨hw.see (i := 21) rfl, hw.see (i := 22) rfl, hw.see (i := 23) rfl⟩⟩)) ?_
    rintro _ _ ⟨_, ⟨rfl, rfl⟩, rfl⟩
    refine JL.guardOn rfl rfl rfl (congrArg Value.bool (congrArg Bool.not (decide_eq_true rfl))) (JO.ofLO (LO.pure (PO.not rfl))) ?_
    rintro _ _ ⟨rfl, rfl⟩
    refine JL.pure rfl (PO.pickF (v := .bool false) (congrArg Value.bool (congrArg Bool.not (decide_eq_true rfl))) rfl) ?_
    refine JL.pure rfl (PO.move (v := .bool false) rfl) ?_
    refine JL.guardOn rfl rfl rfl (congrArg Value.bool rfl) (JO.ofLO (LO.pure (PO.move (v := .int .i64 n_84) rfl))) ?_
    rintro _ _ ⟨rfl, rfl⟩
    refine JL.guardOn rfl rfl rfl (congrArg Value.bool rfl) (JO.ofLO (LO.pure (PO.move (v := .int .i64 n_84) rfl))) ?_
    rintro _ _ ⟨rfl, rfl⟩
    refine JL.guardOn rfl rfl rfl (congrArg Value.bool rfl) (JO.ofLO (LO.pure (PO.neqI rfl rfl))) ?_
    rintro _ _ ⟨rfl, rfl⟩
    refine JL.pure rfl (PO.pickF (v := .bool (!(decide (n_84 = n_84)))) (congrArg Value.bool rfl) rfl) ?_
    refine JL.pure rfl (PO.move (v := .bool (!(decide (n_84 = n_84)))) rfl) ?_
    refine JL.guardOn rfl rfl rfl (congrArg Value.bool (congrArg Bool.not (decide_eq_true rfl))) (JO.ofLO (LO.pure (PO.move (v := .int .i64 n_86) rfl))) ?_
    rintro _ _ ⟨rfl, rfl⟩
    refine JL.guardOn rfl rfl rfl (congrArg Value.bool (congrArg Bool.not (decide_eq_true rfl))) (JO.ofLO (LO.pure (PO.move (v := .int .i64 n_86) rfl))) ?_
    rintro _ _ ⟨rfl, rfl⟩
    refine JL.guardOn rfl rfl rfl (congrArg Value.bool (congrArg Bool.not (decide_eq_true rfl))) (JO.ofLO (LO.pure (PO.neqI rfl rfl))) ?_
    rintro _ _ ⟨rfl, rfl⟩
    refine JL.pure rfl (PO.pickF (v := .bool (!(decide (n_86 = n_86)))) (congrArg Value.bool (congrArg Bool.not (decide_eq_true rfl))) rfl) ?_
    refine JL.pure rfl (PO.move (v := .bool (!(decide (n_86 = n_86)))) rfl) ?_
    refine JL.guardOn rfl rfl rfl (congrArg Value.bool (congrArg Bool.not (decide_eq_true rfl))) (JO.ofLO (LO.loadK 16 (vs := [.slice x_82.a0 m_83.s.length x_82.c0, .slice x_82.a1 m_83.r.length x_82.c1, .slice x_82.a2 m_83.w.length x_82.c2]) rfl rfl Tryz.isAgg32 Tryz.sizeOf32 rfl rfl)) ?_
    rintro _ _ ⟨rfl, rfl⟩
    refine JL.guardOn rfl rfl rfl (congrArg Value.bool (congrArg Bool.not (decide_eq_true rfl))) (JO.ofLO (LO.loadK 12 (vs := [.slice x_91.a0 m_83.s.length x_91.c0, .slice x_91.a1 m_83.r.length x_91.c1, .slice x_91.a2 m_83.w.length x_91.c2]) rfl rfl Tryz.isAgg32 Tryz.sizeOf32 rfl rfl)) ?_
    rintro _ _ ⟨rfl, rfl⟩
    refine JL.guardOn rfl rfl rfl (congrArg Value.bool (congrArg Bool.not (decide_eq_true rfl))) (JO.call [] Tryz.call30 rfl (N_sameMach x_82 x_91 m_83 k_81 (by omega) (by omega)) rfl (fun w hw => ⟨⟨hw.see (i := 17) rfl, hw.see (i := 18) rfl, hw.see (i := 19) rfl⟩, ⟨hw.see (i := 13) rfl, hw.see (i := 14) rfl, hw.see (i := 15) rfl⟩⟩)) ?_
    rintro _ _ ⟨_, ⟨rfl, rfl⟩, rfl⟩
    refine JL.guardOn rfl rfl rfl (congrArg Value.bool (congrArg Bool.not (decide_eq_true rfl))) (JO.ofLO (LO.pure (PO.not rfl))) ?_
    rintro _ _ ⟨rfl, rfl⟩
    refine JL.pure rfl (PO.pickF (v := .bool false) (congrArg Value.bool (congrArg Bool.not (decide_eq_true rfl))) rfl) ?_
    refine JL.pure rfl (PO.move (v := .bool false) rfl) ?_
    refine JL.guardOn rfl rfl rfl (congrArg Value.bool rfl) (JO.ofLO (LO.pure (PO.move (v := .int .i64 n_107) rfl))) ?_
    rintro _ _ ⟨rfl, rfl⟩
    refine JL.guardOn rfl rfl rfl (congrArg Value.bool rfl) (JO.ofLO (LO.pure (PO.move (v := .int .i64 n_107) rfl))) ?_
    rintro _ _ ⟨rfl, rfl⟩
    refine JL.guardOn rfl rfl rfl (congrArg Value.bool rfl) (JO.ofLO (LO.pure (PO.neqI rfl rfl))) ?_
    rintro _ _ ⟨rfl, rfl⟩
    refine JL.pure rfl (PO.pickF (v := .bool (!(decide (n_107 = n_107)))) (congrArg Value.bool rfl) rfl) ?_
    refine JL.pure rfl (PO.move (v := .bool (!(decide (n_107 = n_107)))) rfl) ?_
    refine JL.guardOn rfl rfl rfl (congrArg Value.bool (congrArg Bool.not (decide_eq_true rfl))) (JO.ofLO (LO.loadK 4 (vs := [.slice x_105.a0 m_106.s.length x_105.c0, .slice x_105.a1 m_106.r.length x_105.c1, .slice x_105.a2 m_106.w.length x_105.c2]) rfl rfl Tryz.isAgg32 Tryz.sizeOf32 rfl rfl)) ?_
    rintro _ _ ⟨rfl, rfl⟩
    refine JL.guardOn rfl rfl rfl (congrArg Value.bool (congrArg Bool.not (decide_eq_true rfl))) (JO.ofLO (LO.loadK 0 (vs := [.slice x_112.a0 m_106.s.length x_112.c0, .slice x_112.a1 m_106.r.length x_112.c1, .slice x_112.a2 m_106.w.length x_112.c2]) rfl rfl Tryz.isAgg32 Tryz.sizeOf32 rfl rfl)) ?_
    rintro _ _ ⟨rfl, rfl⟩
    refine JL.guardOn rfl rfl rfl (congrArg Value.bool (congrArg Bool.not (decide_eq_true rfl))) (JO.call [] Tryz.call30 rfl (N_sameMach x_105 x_112 m_106 k_104 (by omega) (by omega)) rfl (fun w hw => ⟨⟨hw.see (i := 5) rfl, hw.see (i := 6) rfl, hw.see (i := 7) rfl⟩, ⟨hw.see (i := 1) rfl, hw.see (i := 2) rfl, hw.see (i := 3) rfl⟩⟩)) ?_
    rintro _ _ ⟨_, ⟨rfl, rfl⟩, rfl⟩
    refine JL.guardOn rfl rfl rfl (congrArg Value.bool (congrArg Bool.not (decide_eq_true rfl))) (JO.ofLO (LO.pure (PO.not rfl))) ?_
    rintro _ _ ⟨rfl, rfl⟩
    refine JL.pure rfl (PO.pickF (v := .bool false) (congrArg Value.bool (congrArg Bool.not (decide_eq_true rfl))) rfl) ?_
    refine JL.nil ?_
    refine JQ.sub (L' := []) (.cons _ (.cons _ (.cons _ (.cons _ (.cons _ (.cons _ (.cons _ (.cons _ (.cons _ (.cons _ (.cons _ (.cons _ (.cons _ (.cons _ (.cons _ (.cons _ (.cons _ (.cons _ (.cons _ (.cons _ (.cons _ (.cons _ (.cons _ (.cons _ (.cons _ (.cons _ (.cons _ (.cons _ (.cons _ (.cons _ (.cons _ (.cons _ (.cons _ (.cons _ (.cons _ (.cons _ (.cons _ (.cons _ (.cons _ (.cons _ (.cons _ (.cons _ (.cons _ (.cons _ (.slnil))))))))))))))))))))))))))))))))))))))))))))) ?_
    refine JQ.seq ?_
    refine JC.condF (congrArg Value.bool rfl) ?_
    refine JC.skip ?_
    refine JQ.seq ?_
    refine JC.seq ?_
    refine JC.region ?_
    refine JL.pure rfl (PO.move (v := .slice pa p.length pc) rfl) ?_
    refine JL.op rfl (JO.call [] Tryz.call63 rfl (D_dPlaces pa pc p (by omega)) rfl (fun w hw => hw.seeOut_ hs_pa (fun _ _ => List.not_mem_nil))) ?_
    rintro _ _ ⟨_, ⟨l_117a, l_117c, l_117, f_118, rfl, rfl⟩, rfl⟩
    refine JL.pure rfl (PO.assign (v := .slice l_117a l_117.length l_117c) rfl) ?_
    refine JL.nil ?_
    refine JQ.seq ?_
    refine JC.seq ?_
    refine JC.region ?_
    refine JL.pure rfl (PO.move (v := .slice l_117a l_117.length l_117c) rfl) ?_
    refine JL.facts fun hst => ?_
    obtain ⟨hr_120, hr_120b, -⟩ := row_some 0 rfl (by omega) hst
    refine JL.pure rfl (PO.indexAddrV (i := 0) Tryz.underlying70 Tryz.sizeOf3 hr_120 hr_120b rfl rfl (by omega)) ?_
    refine JL.ld rfl (LO.loadR1 0 (v := .int .i64 (l_117.getD 0 0)) rfl rfl Tryz.isAgg3 (atI (by omega))) ?_
    obtain ⟨kk_121, hkk_122⟩ : ∃ kk_121 : Nat, l_117.getD 0 0 = ((kk_121 : Nat) : Int) := ⟨(l_117.getD 0 0).toNat, by have hlo_ := f_118.2 _ (getD_mem (d := 0) (show 0 < l_117.length by omega)); omega⟩
    refine JL.pure rfl (PO.remN (c := ((kk_121 % 50 : Nat) : Int)) (congrArg (Value.int .i64) hkk_122) rfl (by omega) (by omega) (by omega)) ?_
    refine JL.pure rfl (PO.add (c := ((1 + (kk_121 % 50) : Nat) : Int)) rfl rfl (wr (by omega))) ?_
    refine JL.pure rfl (PO.assign (v := .int .i64 ((1 + (kk_121 % 50) : Nat) : Int)) rfl) ?_
    refine JL.nil ?_
    refine JQ.seq ?_
    refine JC.seq ?_
    refine JC.region ?_
    refine JL.op rfl (JO.call [] Tryz.call36 rfl (D_base) rfl (fun _ _ => trivial)) ?_
    rintro _ _ ⟨_, ⟨x_123, m_124, e_126, k_125, rfl, rfl⟩, rfl⟩
    refine JL.op rfl (JO.call [] Tryz.call67 rfl (Q_spawn x_123 m_124 k_125 (by omega) (by omega) 0 (by omega)) rfl (fun w hw => ⟨hw.see (i := 0) rfl, hw.see (i := 1) rfl, hw.see (i := 2) rfl⟩)) ?_
    rintro _ _ ⟨_, ⟨x_129, m_130, n_131, n_133, e_127, k_128, f_132, f_134, rfl, rfl⟩, rfl⟩
    refine JL.pure rfl (PO.move (v := .tuple #[mv x_129 m_130, .int .i64 n_131, .int .i64 n_133]) rfl) ?_
    refine JL.pure rfl (PO.extract (v := mv x_129 m_130) rfl rfl) ?_
    refine JL.pure rfl (PO.extract (v := .int .i64 n_131) rfl rfl) ?_
    refine JL.pure rfl (PO.extract (v := .int .i64 n_133) rfl rfl) ?_
    refine JL.op rfl (JO.alloc (z := .agg #[.slice none 0 0, .slice none 0 0, .slice none 0 0]) (cs := [.slice none 0 0, .slice none 0 0, .slice none 0 0]) Tryz.zeroValue32 rfl) ?_
    rintro _ _ ⟨b_135, rfl, rfl⟩
    refine JL.op rfl (JO.store 0 (vs := [.slice x_129.a0 m_130.s.length x_129.c0, .slice x_129.a1 m_130.r.length x_129.c1, .slice x_129.a2 m_130.w.length x_129.c2]) (cs' := [.slice x_129.a0 m_130.s.length x_129.c0, .slice x_129.a1 m_130.r.length x_129.c1, .slice x_129.a2 m_130.w.length x_129.c2]) rfl rfl rfl rfl Tryz.sizeOf32 rfl rfl (Nat.le_of_ble_eq_true rfl) rfl) ?_
    rintro _ _ rfl
    refine JL.pure rfl (PO.assign (v := .int .i64 n_131) rfl) ?_
    refine JL.pure rfl (PO.assign (v := .int .i64 n_133) rfl) ?_
    refine JL.nil ?_
    refine JQ.seq ?_
    refine JC.seq ?_
    refine JC.region ?_
    refine JL.ld rfl (LO.loadK 0 (vs := [.slice x_129.a0 m_130.s.length x_129.c0, .slice x_129.a1 m_130.r.length x_129.c1, .slice x_129.a2 m_130.w.length x_129.c2]) rfl rfl Tryz.isAgg32 Tryz.sizeOf32 rfl rfl) ?_
    refine JL.pure rfl (PO.move (v := .int .i64 ((1 + (kk_121 % 50) : Nat) : Int)) rfl) ?_
    refine JL.op rfl (JO.call [] Tryz.call87 rfl (P_setTimer x_129 m_130 k_128 (by omega) (by omega) 1 ((1 + (kk_121 % 50) : Nat) : Int) (by omega) (by omega)) rfl (fun w hw => ⟨hw.see (i := 1) rfl, hw.see (i := 2) rfl, hw.see (i := 3) rfl⟩)) ?_
    rintro _ _ ⟨_, ⟨x_138, m_139, n_140, e_136, k_137, f_141, rfl, rfl⟩, rfl⟩
    refine JL.pure rfl (PO.move (v := .tuple #[mv x_138 m_139, .int .i64 n_140]) rfl) ?_
    refine JL.pure rfl (PO.extract (v := mv x_138 m_139) rfl rfl) ?_
    refine JL.pure rfl (PO.extract (v := .int .i64 n_140) rfl rfl) ?_
    refine JL.op rfl (JO.alloc (z := .agg #[.slice none 0 0, .slice none 0 0, .slice none 0 0]) (cs := [.slice none 0 0, .slice none 0 0, .slice none 0 0]) Tryz.zeroValue32 rfl) ?_
    rintro _ _ ⟨b_142, rfl, rfl⟩
    refine JL.op rfl (JO.store 0 (vs := [.slice x_138.a0 m_139.s.length x_138.c0, .slice x_138.a1 m_139.r.length x_138.c1, .slice x_138.a2 m_139.w.length x_138.c2]) (cs' := [.slice x_138.a0 m_139.s.length x_138.c0, .slice x_138.a1 m_139.r.length x_138.c1, .slice x_138.a2 m_139.w.length x_138.c2]) rfl rfl rfl rfl Tryz.sizeOf32 rfl rfl (Nat.le_of_ble_eq_true rfl) rfl) ?_
    rintro _ _ rfl
    refine JL.pure rfl (PO.assign (v := .int .i64 n_140) rfl) ?_
    refine JL.nil ?_
    refine JQ.sub (L' := [mb b_142 x_138 m_139, rC x_138.a0 x_138.c0 m_139.s, rS x_138.a1 x_138.c1 m_139.r, rS x_138.a2 x_138.c2 m_139.w]) (.cons_cons _ (.cons_cons _ (.cons_cons _ (.cons_cons _ (.cons _ (.cons _ (.cons _ (.cons _ (.cons _ (.cons _ (.cons _ (.cons _ (.slnil))))))))))))) ?_
    refine JQ.seq ?_
    refine JC.seq ?_
    refine JC.region ?_
    refine JL.ld rfl (LO.loadK 0 (vs := [.slice x_138.a0 m_139.s.length x_138.c0, .slice x_138.a1 m_139.r.length x_138.c1, .slice x_138.a2 m_139.w.length x_138.c2]) rfl rfl Tryz.isAgg32 Tryz.sizeOf32 rfl rfl) ?_
    refine JL.pure rfl (PO.move (v := .int .i64 ((1 + (kk_121 % 50) : Nat) : Int)) rfl) ?_
    refine JL.op rfl (JO.call [] Tryz.call90 rfl (P_tick x_138 m_139 k_137 (by omega) (by omega) ((1 + (kk_121 % 50) : Nat) : Int) (by omega)) rfl (fun w hw => ⟨hw.see (i := 1) rfl, hw.see (i := 2) rfl, hw.see (i := 3) rfl⟩)) ?_
    rintro _ _ ⟨_, ⟨x_145, m_146, n_147, n_149, e_143, k_144, f_148, f_150, rfl, rfl⟩, rfl⟩
    refine JL.pure rfl (PO.move (v := .tuple #[mv x_145 m_146, .int .i64 n_147, .int .i64 n_149]) rfl) ?_
    refine JL.pure rfl (PO.extract (v := mv x_145 m_146) rfl rfl) ?_
    refine JL.pure rfl (PO.extract (v := .int .i64 n_147) rfl rfl) ?_
    refine JL.pure rfl (PO.extract (v := .int .i64 n_149) rfl rfl) ?_
    refine JL.op rfl (JO.alloc (z := .agg #[.slice none 0 0, .slice none 0 0, .slice none 0 0]) (cs := [.slice none 0 0, .slice none 0 0, .slice none 0 0]) Tryz.zeroValue32 rfl) ?_
    rintro _ _ ⟨b_151, rfl, rfl⟩
    refine JL.op rfl (JO.store 0 (vs := [.slice x_145.a0 m_146.s.length x_145.c0, .slice x_145.a1 m_146.r.length x_145.c1, .slice x_145.a2 m_146.w.length x_145.c2]) (cs' := [.slice x_145.a0 m_146.s.length x_145.c0, .slice x_145.a1 m_146.r.length x_145.c1, .slice x_145.a2 m_146.w.length x_145.c2]) rfl rfl rfl rfl Tryz.sizeOf32 rfl rfl (Nat.le_of_ble_eq_true rfl) rfl) ?_
    rintro _ _ rfl
    refine JL.pure rfl (PO.assign (v := .int .i64 n_147) rfl) ?_
    refine JL.pure rfl (PO.assign (v := .int .i64 n_149) rfl) ?_
    refine JL.nil ?_
    refine JQ.seq ?_
    refine JC.seq ?_
    refine JC.region ?_
    refine JL.ld rfl (LO.loadK 0 (vs := [.slice x_145.a0 m_146.s.length x_145.c0, .slice x_145.a1 m_146.r.length x_145.c1, .slice x_145.a2 m_146.w.length x_145.c2]) rfl rfl Tryz.isAgg32 Tryz.sizeOf32 rfl rfl) ?_
    refine JL.op rfl (JO.call [] Tryz.call84 rfl (P_takeSignal x_145 m_146 k_144 (by omega) (by omega) 1 (by omega)) rfl (fun w hw => ⟨hw.see (i := 1) rfl, hw.see (i := 2) rfl, hw.see (i := 3) rfl⟩)) ?_
    rintro _ _ ⟨_, ⟨x_154, m_155, n_156, n_158, e_152, k_153, f_157, f_159, rfl, rfl⟩, rfl⟩
    refine JL.pure rfl (PO.move (v := .tuple #[mv x_154 m_155, .int .i64 n_156, .int .i64 n_158]) rfl) ?_
    refine JL.pure rfl (PO.extract (v := mv x_154 m_155) rfl rfl) ?_
    refine JL.pure rfl (PO.extract (v := .int .i64 n_156) rfl rfl) ?_
    refine JL.pure rfl (PO.extract (v := .int .i64 n_158) rfl rfl) ?_
    refine JL.op rfl (JO.alloc (z := .agg #[.slice none 0 0, .slice none 0 0, .slice none 0 0]) (cs := [.slice none 0 0, .slice none 0 0, .slice none 0 0]) Tryz.zeroValue32 rfl) ?_
    rintro _ _ ⟨b_160, rfl, rfl⟩
    refine JL.op rfl (JO.store 0 (vs := [.slice x_154.a0 m_155.s.length x_154.c0, .slice x_154.a1 m_155.r.length x_154.c1, .slice x_154.a2 m_155.w.length x_154.c2]) (cs' := [.slice x_154.a0 m_155.s.length x_154.c0, .slice x_154.a1 m_155.r.length x_154.c1, .slice x_154.a2 m_155.w.length x_154.c2]) rfl rfl rfl rfl Tryz.sizeOf32 rfl rfl (Nat.le_of_ble_eq_true rfl) rfl) ?_
    rintro _ _ rfl
    refine JL.pure rfl (PO.assign (v := .int .i64 n_156) rfl) ?_
    refine JL.pure rfl (PO.assign (v := .int .i64 n_158) rfl) ?_
    refine JL.nil ?_
    refine JQ.seq ?_
    refine JC.seq ?_
    refine JC.region ?_
    refine JL.ld rfl (LO.loadK 4 (vs := [.slice x_145.a0 m_146.s.length x_145.c0, .slice x_145.a1 m_146.r.length x_145.c1, .slice x_145.a2 m_146.w.length x_145.c2]) rfl rfl Tryz.isAgg32 Tryz.sizeOf32 rfl rfl) ?_
    refine JL.op rfl (JO.call [] Tryz.call90 rfl (P_tick x_145 m_146 k_144 (by omega) (by omega) 5 (by omega)) rfl (fun w hw => ⟨hw.see (i := 5) rfl, hw.see (i := 6) rfl, hw.see (i := 7) rfl⟩)) ?_
    rintro _ _ ⟨_, ⟨x_163, m_164, n_165, n_167, e_161, k_162, f_166, f_168, rfl, rfl⟩, rfl⟩
    refine JL.pure rfl (PO.move (v := .tuple #[mv x_163 m_164, .int .i64 n_165, .int .i64 n_167]) rfl) ?_
    refine JL.pure rfl (PO.extract (v := mv x_163 m_164) rfl rfl) ?_
    refine JL.pure rfl (PO.extract (v := .int .i64 n_165) rfl rfl) ?_
    refine JL.pure rfl (PO.extract (v := .int .i64 n_167) rfl rfl) ?_
    refine JL.op rfl (JO.alloc (z := .agg #[.slice none 0 0, .slice none 0 0, .slice none 0 0]) (cs := [.slice none 0 0, .slice none 0 0, .slice none 0 0]) Tryz.zeroValue32 rfl) ?_
    rintro _ _ ⟨b_169, rfl, rfl⟩
    refine JL.op rfl (JO.store 0 (vs := [.slice x_163.a0 m_164.s.length x_163.c0, .slice x_163.a1 m_164.r.length x_163.c1, .slice x_163.a2 m_164.w.length x_163.c2]) (cs' := [.slice x_163.a0 m_164.s.length x_163.c0, .slice x_163.a1 m_164.r.length x_163.c1, .slice x_163.a2 m_164.w.length x_163.c2]) rfl rfl rfl rfl Tryz.sizeOf32 rfl rfl (Nat.le_of_ble_eq_true rfl) rfl) ?_
    rintro _ _ rfl
    refine JL.pure rfl (PO.assign (v := .int .i64 n_165) rfl) ?_
    refine JL.pure rfl (PO.assign (v := .int .i64 n_167) rfl) ?_
    refine JL.nil ?_
    refine JQ.sub (L' := [mb b_142 x_138 m_139, rC x_138.a0 x_138.c0 m_139.s, rS x_138.a1 x_138.c1 m_139.r, rS x_138.a2 x_138.c2 m_139.w]) (.cons _ (.cons _ (.cons _ (.cons _ (.cons _ (.cons _ (.cons _ (.cons _ (.cons _ (.cons _ (.cons _ (.cons _ (.cons_cons _ (.cons_cons _ (.cons_cons _ (.cons_cons _ (.slnil))))))))))))))))) ?_
    refine JQ.seq ?_
    refine JC.seq ?_
    refine JC.seq ?_
    refine JC.region ?_
    refine JL.pure rfl (PO.move (v := .int .i64 ((1 + (kk_121 % 50) : Nat) : Int)) rfl) ?_
    refine JL.pure rfl (PO.gtr rfl rfl) ?_
    refine JL.nil ?_
    refine JQ.seq ?_
    by_cases h_170 : 1 < ((1 + (kk_121 % 50) : Nat) : Int)
    · skip
      refine JC.condT (congrArg Value.bool (decide_eq_true h_170)) ?_
      refine JC.seq ?_
      refine JC.region ?_
      refine JL.ld rfl (LO.loadK 0 (vs := [.slice x_138.a0 m_139.s.length x_138.c0, .slice x_138.a1 m_139.r.length x_138.c1, .slice x_138.a2 m_139.w.length x_138.c2]) rfl rfl Tryz.isAgg32 Tryz.sizeOf32 rfl rfl) ?_
      refine JL.pure rfl (PO.move (v := .int .i64 ((1 + (kk_121 % 50) : Nat) : Int)) rfl) ?_
      refine JL.pure rfl (PO.sub (c := ((1 + (kk_121 % 50) : Nat) : Int) - 1) rfl rfl (wr (by omega))) ?_
      refine JL.op rfl (JO.call [] Tryz.call90 rfl (P_tick x_138 m_139 k_137 (by omega) (by omega) (((1 + (kk_121 % 50) : Nat) : Int) - 1) (by omega)) rfl (fun w hw => ⟨hw.see (i := 1) rfl, hw.see (i := 2) rfl, hw.see (i := 3) rfl⟩)) ?_
      rintro _ _ ⟨_, ⟨x_173, m_174, n_175, n_177, e_171, k_172, f_176, f_178, rfl, rfl⟩, rfl⟩
      refine JL.pure rfl (PO.move (v := .tuple #[mv x_173 m_174, .int .i64 n_175, .int .i64 n_177]) rfl) ?_
      refine JL.pure rfl (PO.extract (v := mv x_173 m_174) rfl rfl) ?_
      refine JL.pure rfl (PO.extract (v := .int .i64 n_175) rfl rfl) ?_
      refine JL.pure rfl (PO.extract (v := .int .i64 n_177) rfl rfl) ?_
      refine JL.op rfl (JO.alloc (z := .agg #[.slice none 0 0, .slice none 0 0, .slice none 0 0]) (cs := [.slice none 0 0, .slice none 0 0, .slice none 0 0]) Tryz.zeroValue32 rfl) ?_
      rintro _ _ ⟨b_179, rfl, rfl⟩
      refine JL.op rfl (JO.store 0 (vs := [.slice x_173.a0 m_174.s.length x_173.c0, .slice x_173.a1 m_174.r.length x_173.c1, .slice x_173.a2 m_174.w.length x_173.c2]) (cs' := [.slice x_173.a0 m_174.s.length x_173.c0, .slice x_173.a1 m_174.r.length x_173.c1, .slice x_173.a2 m_174.w.length x_173.c2]) rfl rfl rfl rfl Tryz.sizeOf32 rfl rfl (Nat.le_of_ble_eq_true rfl) rfl) ?_
      rintro _ _ rfl
      refine JL.pure rfl (PO.assign (v := .int .i64 n_175) rfl) ?_
      refine JL.pure rfl (PO.assign (v := .int .i64 n_177) rfl) ?_
      refine JL.nil ?_
      refine JQ.seq ?_
      refine JC.seq ?_
      refine JC.region ?_
      refine JL.ld rfl (LO.loadK 0 (vs := [.slice x_173.a0 m_174.s.length x_173.c0, .slice x_173.a1 m_174.r.length x_173.c1, .slice x_173.a2 m_174.w.length x_173.c2]) rfl rfl Tryz.isAgg32 Tryz.sizeOf32 rfl rfl) ?_
      refine JL.op rfl (JO.call [] Tryz.call84 rfl (P_takeSignal x_173 m_174 k_172 (by omega) (by omega) 1 (by omega)) rfl (fun w hw => ⟨hw.see (i := 1) rfl, hw.see (i := 2) rfl, hw.see (i := 3) rfl⟩)) ?_
      rintro _ _ ⟨_, ⟨x_182, m_183, n_184, n_186, e_180, k_181, f_185, f_187, rfl, rfl⟩, rfl⟩
      refine JL.pure rfl (PO.move (v := .tuple #[mv x_182 m_183, .int .i64 n_184, .int .i64 n_186]) rfl) ?_
      refine JL.pure rfl (PO.extract (v := mv x_182 m_183) rfl rfl) ?_
      refine JL.pure rfl (PO.extract (v := .int .i64 n_184) rfl rfl) ?_
      refine JL.pure rfl (PO.extract (v := .int .i64 n_186) rfl rfl) ?_
      refine JL.op rfl (JO.alloc (z := .agg #[.slice none 0 0, .slice none 0 0, .slice none 0 0]) (cs := [.slice none 0 0, .slice none 0 0, .slice none 0 0]) Tryz.zeroValue32 rfl) ?_
      rintro _ _ ⟨b_188, rfl, rfl⟩
      refine JL.op rfl (JO.store 0 (vs := [.slice x_182.a0 m_183.s.length x_182.c0, .slice x_182.a1 m_183.r.length x_182.c1, .slice x_182.a2 m_183.w.length x_182.c2]) (cs' := [.slice x_182.a0 m_183.s.length x_182.c0, .slice x_182.a1 m_183.r.length x_182.c1, .slice x_182.a2 m_183.w.length x_182.c2]) rfl rfl rfl rfl Tryz.sizeOf32 rfl rfl (Nat.le_of_ble_eq_true rfl) rfl) ?_
      rintro _ _ rfl
      refine JL.pure rfl (PO.assign (v := .int .i64 n_184) rfl) ?_
      refine JL.pure rfl (PO.assign (v := .int .i64 n_186) rfl) ?_
      refine JL.nil ?_
      refine JQ.sub (L' := []) (.cons _ (.cons _ (.cons _ (.cons _ (.cons _ (.cons _ (.cons _ (.cons _ (.cons _ (.cons _ (.cons _ (.cons _ (.slnil))))))))))))) ?_
      refine JQ.seq ?_
      refine JC.seq ?_
      refine JC.region ?_
      refine JL.pure rfl (PO.move (v := .int .i64 n_186) rfl) ?_
      refine JL.pure rfl (PO.neqI rfl rfl) ?_
      refine JL.nil ?_
      refine JQ.seq ?_
      by_cases h_189 : n_186 = 5
      · skip
        refine JC.condF (congrArg Value.bool (congrArg Bool.not (decide_eq_true h_189))) ?_
        refine JC.skip ?_
        refine JQ.seq ?_
        refine JC.seq ?_
        refine JC.region ?_
        refine JL.pure rfl (PO.move (v := .int .i64 n_147) rfl) ?_
        refine JL.pure rfl (PO.eqlI rfl rfl) ?_
        refine JL.pure rfl (PO.move (v := .bool (decide (n_147 = 1))) rfl) ?_
        by_cases h_190 : n_147 = 1
        · skip
          refine JL.guardOn rfl rfl rfl (congrArg Value.bool (decide_eq_true h_190)) (JO.ofLO (LO.pure (PO.move (v := .int .i64 n_156) rfl))) ?_
          rintro _ _ ⟨rfl, rfl⟩
          refine JL.guardOn rfl rfl rfl (congrArg Value.bool (decide_eq_true h_190)) (JO.ofLO (LO.pure (PO.eqlI rfl rfl))) ?_
          rintro _ _ ⟨rfl, rfl⟩
          refine JL.pure rfl (PO.pickT (v := .bool (decide (n_156 = 14))) (congrArg Value.bool (decide_eq_true h_190)) rfl) ?_
          refine JL.pure rfl (PO.move (v := .bool (decide (n_156 = 14))) rfl) ?_
          by_cases h_191 : n_156 = 14
          · skip
            refine JL.guardOn rfl rfl rfl (congrArg Value.bool (decide_eq_true h_191)) (JO.ofLO (LO.pure (PO.move (v := .int .i64 n_158) rfl))) ?_
            rintro _ _ ⟨rfl, rfl⟩
            refine JL.guardOn rfl rfl rfl (congrArg Value.bool (decide_eq_true h_191)) (JO.ofLO (LO.pure (PO.eqlI rfl rfl))) ?_
            rintro _ _ ⟨rfl, rfl⟩
            refine JL.pure rfl (PO.pickT (v := .bool (decide (n_158 = 0))) (congrArg Value.bool (decide_eq_true h_191)) rfl) ?_
            refine JL.pure rfl (PO.move (v := .bool (decide (n_158 = 0))) rfl) ?_
            by_cases h_192 : n_158 = 0
            · skip
              refine JL.guardOn rfl rfl rfl (congrArg Value.bool (decide_eq_true h_192)) (JO.ofLO (LO.pure (PO.move (v := .int .i64 n_165) rfl))) ?_
              rintro _ _ ⟨rfl, rfl⟩
              refine JL.guardOn rfl rfl rfl (congrArg Value.bool (decide_eq_true h_192)) (JO.ofLO (LO.pure (PO.eqlI rfl rfl))) ?_
              rintro _ _ ⟨rfl, rfl⟩
              refine JL.pure rfl (PO.pickT (v := .bool (decide (n_165 = 0))) (congrArg Value.bool (decide_eq_true h_192)) rfl) ?_
              refine JL.pure rfl (PO.assign (v := .bool (decide (n_165 = 0))) rfl) ?_
              refine JL.nil ?_
              refine JQ.seq ?_
              refine JC.ret ?_
              refine Done.one (.inl rfl) rfl (RV.tmp (v := .bool (decide (n_165 = 0))) rfl) (List.nil_sublist _) ?_
              obtain ⟨hb1, hb2, hb3, hb4⟩ := pl_signals e_126 (by omega) (by omega) e_127 e_136 e_143 e_152 e_161
              have hb6 := pl_signals_early e_126 (by omega) (by omega) e_127 e_136 e_171 e_180
              refine ⟨congrArg Value.bool ?_, rfl⟩
              simp only [decide_eq_true_eq]
              first | omega | assumption | simp_all
            · skip
              refine JL.guardOff (b := false) rfl rfl rfl (congrArg Value.bool (decide_eq_false h_192)) ?_
              refine JL.guardOff (b := false) rfl rfl rfl (congrArg Value.bool (decide_eq_false h_192)) ?_
              refine JL.pure rfl (PO.pickF (v := .bool false) (congrArg Value.bool (decide_eq_false h_192)) rfl) ?_
              refine JL.pure rfl (PO.assign (v := .bool false) rfl) ?_
              refine JL.nil ?_
              refine JQ.seq ?_
              refine JC.ret ?_
              refine Done.one (.inl rfl) rfl (RV.tmp (v := .bool false) rfl) (List.nil_sublist _) ?_
              obtain ⟨hb1, hb2, hb3, hb4⟩ := pl_signals e_126 (by omega) (by omega) e_127 e_136 e_143 e_152 e_161
              have hb6 := pl_signals_early e_126 (by omega) (by omega) e_127 e_136 e_171 e_180
              exfalso
              first | omega | contradiction | simp_all
          · skip
            refine JL.guardOff (b := false) rfl rfl rfl (congrArg Value.bool (decide_eq_false h_191)) ?_
            refine JL.guardOff (b := false) rfl rfl rfl (congrArg Value.bool (decide_eq_false h_191)) ?_
            refine JL.pure rfl (PO.pickF (v := .bool false) (congrArg Value.bool (decide_eq_false h_191)) rfl) ?_
            refine JL.pure rfl (PO.move (v := .bool false) rfl) ?_
            refine JL.guardOff (b := false) rfl rfl rfl (congrArg Value.bool rfl) ?_
            refine JL.guardOff (b := false) rfl rfl rfl (congrArg Value.bool rfl) ?_
            refine JL.pure rfl (PO.pickF (v := .bool false) (congrArg Value.bool rfl) rfl) ?_
            refine JL.pure rfl (PO.assign (v := .bool false) rfl) ?_
            refine JL.nil ?_
            refine JQ.seq ?_
            refine JC.ret ?_
            refine Done.one (.inl rfl) rfl (RV.tmp (v := .bool false) rfl) (List.nil_sublist _) ?_
            obtain ⟨hb1, hb2, hb3, hb4⟩ := pl_signals e_126 (by omega) (by omega) e_127 e_136 e_143 e_152 e_161
            have hb6 := pl_signals_early e_126 (by omega) (by omega) e_127 e_136 e_171 e_180
            exfalso
            first | omega | contradiction | simp_all
        · skip
          refine JL.guardOff (b := false) rfl rfl rfl (congrArg Value.bool (decide_eq_false h_190)) ?_
          refine JL.guardOff (b := false) rfl rfl rfl (congrArg Value.bool (decide_eq_false h_190)) ?_
          refine JL.pure rfl (PO.pickF (v := .bool false) (congrArg Value.bool (decide_eq_false h_190)) rfl) ?_
          refine JL.pure rfl (PO.move (v := .bool false) rfl) ?_
          refine JL.guardOff (b := false) rfl rfl rfl (congrArg Value.bool rfl) ?_
          refine JL.guardOff (b := false) rfl rfl rfl (congrArg Value.bool rfl) ?_
          refine JL.pure rfl (PO.pickF (v := .bool false) (congrArg Value.bool rfl) rfl) ?_
          refine JL.pure rfl (PO.move (v := .bool false) rfl) ?_
          refine JL.guardOff (b := false) rfl rfl rfl (congrArg Value.bool rfl) ?_
          refine JL.guardOff (b := false) rfl rfl rfl (congrArg Value.bool rfl) ?_
          refine JL.pure rfl (PO.pickF (v := .bool false) (congrArg Value.bool rfl) rfl) ?_
          refine JL.pure rfl (PO.assign (v := .bool false) rfl) ?_
          refine JL.nil ?_
          refine JQ.seq ?_
          refine JC.ret ?_
          refine Done.one (.inl rfl) rfl (RV.tmp (v := .bool false) rfl) (List.nil_sublist _) ?_
          obtain ⟨hb1, hb2, hb3, hb4⟩ := pl_signals e_126 (by omega) (by omega) e_127 e_136 e_143 e_152 e_161
          have hb6 := pl_signals_early e_126 (by omega) (by omega) e_127 e_136 e_171 e_180
          exfalso
          first | omega | contradiction | simp_all
      · skip
        refine JC.condT (congrArg Value.bool (congrArg Bool.not (decide_eq_false h_189))) ?_
        refine JC.seq ?_
        refine JC.region ?_
        refine JL.pure rfl (PO.assign (v := .bool false) rfl) ?_
        refine JL.nil ?_
        refine JQ.seq ?_
        refine JC.ret ?_
        refine JQ.thenRet ?_
        refine Done.one (.inl rfl) rfl (RV.tmp (v := .bool false) rfl) (List.nil_sublist _) ?_
        obtain ⟨hb1, hb2, hb3, hb4⟩ := pl_signals e_126 (by omega) (by omega) e_127 e_136 e_143 e_152 e_161
        have hb6 := pl_signals_early e_126 (by omega) (by omega) e_127 e_136 e_171 e_180
        exfalso
        first | omega | contradiction | simp_all
    · skip
      refine JC.condF (congrArg Value.bool (decide_eq_false h_170)) ?_
      refine JC.skip ?_
      refine JQ.seq ?_
      refine JC.seq ?_
      refine JC.region ?_
      refine JL.pure rfl (PO.move (v := .int .i64 n_147) rfl) ?_
      refine JL.pure rfl (PO.eqlI rfl rfl) ?_
      refine JL.pure rfl (PO.move (v := .bool (decide (n_147 = 1))) rfl) ?_
      by_cases h_193 : n_147 = 1
      · skip
        refine JL.guardOn rfl rfl rfl (congrArg Value.bool (decide_eq_true h_193)) (JO.ofLO (LO.pure (PO.move (v := .int .i64 n_156) rfl))) ?_
        rintro _ _ ⟨rfl, rfl⟩
        refine JL.guardOn rfl rfl rfl (congrArg Value.bool (decide_eq_true h_193)) (JO.ofLO (LO.pure (PO.eqlI rfl rfl))) ?_
        rintro _ _ ⟨rfl, rfl⟩
        refine JL.pure rfl (PO.pickT (v := .bool (decide (n_156 = 14))) (congrArg Value.bool (decide_eq_true h_193)) rfl) ?_
        refine JL.pure rfl (PO.move (v := .bool (decide (n_156 = 14))) rfl) ?_
        by_cases h_194 : n_156 = 14
        · skip
          refine JL.guardOn rfl rfl rfl (congrArg Value.bool (decide_eq_true h_194)) (JO.ofLO (LO.pure (PO.move (v := .int .i64 n_158) rfl))) ?_
          rintro _ _ ⟨rfl, rfl⟩
          refine JL.guardOn rfl rfl rfl (congrArg Value.bool (decide_eq_true h_194)) (JO.ofLO (LO.pure (PO.eqlI rfl rfl))) ?_
          rintro _ _ ⟨rfl, rfl⟩
          refine JL.pure rfl (PO.pickT (v := .bool (decide (n_158 = 0))) (congrArg Value.bool (decide_eq_true h_194)) rfl) ?_
          refine JL.pure rfl (PO.move (v := .bool (decide (n_158 = 0))) rfl) ?_
          by_cases h_195 : n_158 = 0
          · skip
            refine JL.guardOn rfl rfl rfl (congrArg Value.bool (decide_eq_true h_195)) (JO.ofLO (LO.pure (PO.move (v := .int .i64 n_165) rfl))) ?_
            rintro _ _ ⟨rfl, rfl⟩
            refine JL.guardOn rfl rfl rfl (congrArg Value.bool (decide_eq_true h_195)) (JO.ofLO (LO.pure (PO.eqlI rfl rfl))) ?_
            rintro _ _ ⟨rfl, rfl⟩
            refine JL.pure rfl (PO.pickT (v := .bool (decide (n_165 = 0))) (congrArg Value.bool (decide_eq_true h_195)) rfl) ?_
            refine JL.pure rfl (PO.assign (v := .bool (decide (n_165 = 0))) rfl) ?_
            refine JL.nil ?_
            refine JQ.seq ?_
            refine JC.ret ?_
            refine Done.one (.inl rfl) rfl (RV.tmp (v := .bool (decide (n_165 = 0))) rfl) (List.nil_sublist _) ?_
            obtain ⟨hb1, hb2, hb3, hb4⟩ := pl_signals e_126 (by omega) (by omega) e_127 e_136 e_143 e_152 e_161
            refine ⟨congrArg Value.bool ?_, rfl⟩
            simp only [decide_eq_true_eq]
            first | omega | assumption | simp_all
          · skip
            refine JL.guardOff (b := false) rfl rfl rfl (congrArg Value.bool (decide_eq_false h_195)) ?_
            refine JL.guardOff (b := false) rfl rfl rfl (congrArg Value.bool (decide_eq_false h_195)) ?_
            refine JL.pure rfl (PO.pickF (v := .bool false) (congrArg Value.bool (decide_eq_false h_195)) rfl) ?_
            refine JL.pure rfl (PO.assign (v := .bool false) rfl) ?_
            refine JL.nil ?_
            refine JQ.seq ?_
            refine JC.ret ?_
            refine Done.one (.inl rfl) rfl (RV.tmp (v := .bool false) rfl) (List.nil_sublist _) ?_
            obtain ⟨hb1, hb2, hb3, hb4⟩ := pl_signals e_126 (by omega) (by omega) e_127 e_136 e_143 e_152 e_161
            exfalso
            first | omega | contradiction | simp_all
        · skip
          refine JL.guardOff (b := false) rfl rfl rfl (congrArg Value.bool (decide_eq_false h_194)) ?_
          refine JL.guardOff (b := false) rfl rfl rfl (congrArg Value.bool (decide_eq_false h_194)) ?_
          refine JL.pure rfl (PO.pickF (v := .bool false) (congrArg Value.bool (decide_eq_false h_194)) rfl) ?_
          refine JL.pure rfl (PO.move (v := .bool false) rfl) ?_
          refine JL.guardOff (b := false) rfl rfl rfl (congrArg Value.bool rfl) ?_
          refine JL.guardOff (b := false) rfl rfl rfl (congrArg Value.bool rfl) ?_
          refine JL.pure rfl (PO.pickF (v := .bool false) (congrArg Value.bool rfl) rfl) ?_
          refine JL.pure rfl (PO.assign (v := .bool false) rfl) ?_
          refine JL.nil ?_
          refine JQ.seq ?_
          refine JC.ret ?_
          refine Done.one (.inl rfl) rfl (RV.tmp (v := .bool false) rfl) (List.nil_sublist _) ?_
          obtain ⟨hb1, hb2, hb3, hb4⟩ := pl_signals e_126 (by omega) (by omega) e_127 e_136 e_143 e_152 e_161
          exfalso
          first | omega | contradiction | simp_all
      · skip
        refine JL.guardOff (b := false) rfl rfl rfl (congrArg Value.bool (decide_eq_false h_193)) ?_
        refine JL.guardOff (b := false) rfl rfl rfl (congrArg Value.bool (decide_eq_false h_193)) ?_
        refine JL.pure rfl (PO.pickF (v := .bool false) (congrArg Value.bool (decide_eq_false h_193)) rfl) ?_
        refine JL.pure rfl (PO.move (v := .bool false) rfl) ?_
        refine JL.guardOff (b := false) rfl rfl rfl (congrArg Value.bool rfl) ?_
        refine JL.guardOff (b := false) rfl rfl rfl (congrArg Value.bool rfl) ?_
        refine JL.pure rfl (PO.pickF (v := .bool false) (congrArg Value.bool rfl) rfl) ?_
        refine JL.pure rfl (PO.move (v := .bool false) rfl) ?_
        refine JL.guardOff (b := false) rfl rfl rfl (congrArg Value.bool rfl) ?_
        refine JL.guardOff (b := false) rfl rfl rfl (congrArg Value.bool rfl) ?_
        refine JL.pure rfl (PO.pickF (v := .bool false) (congrArg Value.bool rfl) rfl) ?_
        refine JL.pure rfl (PO.assign (v := .bool false) rfl) ?_
        refine JL.nil ?_
        refine JQ.seq ?_
        refine JC.ret ?_
        refine Done.one (.inl rfl) rfl (RV.tmp (v := .bool false) rfl) (List.nil_sublist _) ?_
        obtain ⟨hb1, hb2, hb3, hb4⟩ := pl_signals e_126 (by omega) (by omega) e_127 e_136 e_143 e_152 e_161
        exfalso
        first | omega | contradiction | simp_all

end Go.Proofs.YtenfajgpdhgknaaGreatDoor
