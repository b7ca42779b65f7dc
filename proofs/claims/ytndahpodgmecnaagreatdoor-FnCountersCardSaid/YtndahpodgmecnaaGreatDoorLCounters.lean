/-
  A law that draws, walked: it says yes at every row of bytes.
-/
import Derived.Test.YtndahpodgmecnaaGreatDoorS24DRAWS
import Derived.Test.YtndahpodgmecnaaGreatDoorS14MACH
set_option linter.unusedSimpArgs false
set_option linter.unusedVariables false
set_option linter.unnecessarySimpa false
set_option maxRecDepth 8000
namespace Go.Proofs.YtndahpodgmecnaaGreatDoor
open Go Go.RowKit
attribute [local irreducible] JL JC JQ JO LO PO JA JX Ct

theorem L_Counters (pa : Option Addr) (pc : Nat) (p : Str) :
    Ct Tryz.prog 3 [.slice pa p.length pc] [] (fun w => Sees w (.slice pa p.length pc) 1 p.length (p.map encB)) (fun v A' => v = .bool true ∧ A' = []) := by
  refine Ct.intro Tryz.func3 rfl Tryz.ntmps3 (Nat.le_of_ble_eq_true rfl) fun w0 hpre => ?_
  have hs_pa : Sees w0 _ _ _ _ := hpre
  refine JC.seq ?_
  refine JC.region ?_
  refine JL.pure rfl (PO.assign (v := .bool false) rfl) ?_
  refine JL.nil ?_
  refine JQ.seq ?_
  refine JC.seq ?_
  refine JC.seq ?_
  refine JC.region ?_
  refine JL.pure rfl (PO.move (v := .slice pa p.length pc) rfl) ?_
  refine JL.op rfl (JO.call [] Tryz.call6 rfl (N_big pa pc p) rfl (fun _ _ => trivial)) ?_
  rintro _ _ ⟨_, ⟨rfl, rfl⟩, rfl⟩
  refine JL.nil ?_
  refine JQ.seq ?_
  by_cases h_1 : 1048576 < ((p.length : Nat) : Int)
  · skip
    refine JC.condT (congrArg Value.bool (decide_eq_true h_1)) ?_
    refine JC.seq ?_
    refine JC.region ?_
    refine JL.pure rfl (PO.assign (v := .bool true) rfl) ?_
    refine JL.nil ?_
    refine JQ.seq ?_
    refine JC.ret ?_
    refine JQ.thenRet ?_
    refine Done.one (.inl rfl) rfl (RV.tmp (v := .bool true) rfl) (List.nil_sublist _) ?_
    exact ⟨rfl, rfl⟩
  · skip
    refine JC.condF (congrArg Value.bool (decide_eq_false h_1)) ?_
    refine JC.skip ?_
    refine JQ.seq ?_
    refine JC.seq ?_
    refine JC.region ?_
    refine JL.pure rfl (PO.move (v := .slice pa p.length pc) rfl) ?_
    refine JL.op rfl (JO.call [] Tryz.call7 rfl (D_drawBumped pa pc p (by omega)) rfl (fun w hw => hw.seeOut_ hs_pa (fun _ _ => List.not_mem_nil))) ?_
    rintro _ _ ⟨_, ⟨x_2, m_3, u_5, k_4, f_6, rfl, rfl⟩, rfl⟩
    refine JL.pure rfl (PO.move (v := .tuple #[mv x_2 m_3, str u_5]) rfl) ?_
    refine JL.pure rfl (PO.extract (v := mv x_2 m_3) rfl rfl) ?_
    refine JL.pure rfl (PO.extract (v := str u_5) rfl rfl) ?_
    refine JL.op rfl (JO.alloc (z := .agg #[.slice none 0 0, .slice none 0 0, .slice none 0 0]) (cs := [.slice none 0 0, .slice none 0 0, .slice none 0 0]) Tryz.zeroValue29 rfl) ?_
    rintro _ _ ⟨b_8, rfl, rfl⟩
    refine JL.op rfl (JO.store 0 (vs := [.slice x_2.a0 m_3.s.length x_2.c0, .slice x_2.a1 m_3.r.length x_2.c1, .slice x_2.a2 m_3.w.length x_2.c2]) (cs' := [.slice x_2.a0 m_3.s.length x_2.c0, .slice x_2.a1 m_3.r.length x_2.c1, .slice x_2.a2 m_3.w.length x_2.c2]) rfl rfl rfl rfl Tryz.sizeOf29 rfl rfl (Nat.le_of_ble_eq_true rfl) rfl) ?_
    rintro _ _ rfl
    refine JL.pure rfl (PO.assign (v := str u_5) rfl) ?_
    refine JL.nil ?_
    refine JQ.seq ?_
    refine JC.seq ?_
    refine JC.region ?_
    refine JL.ld rfl (LO.loadK 0 (vs := [.slice x_2.a0 m_3.s.length x_2.c0, .slice x_2.a1 m_3.r.length x_2.c1, .slice x_2.a2 m_3.w.length x_2.c2]) rfl rfl Tryz.isAgg29 Tryz.sizeOf29 rfl rfl) ?_
    refine JL.pure rfl (PO.move (v := str u_5) rfl) ?_
    refine JL.op rfl (JO.call [] Tryz.call8 rfl (P_bump x_2 m_3 k_4 (by omega) (by omega) u_5 (by omega)) rfl (fun w hw => ⟨hw.see (i := 1) rfl, hw.see (i := 2) rfl, hw.see (i := 3) rfl⟩)) ?_
    rintro _ _ ⟨_, ⟨x_11, m_12, n_13, e_9, k_10, f_14, rfl, rfl⟩, rfl⟩
    refine JL.pure rfl (PO.move (v := .tuple #[mv x_11 m_12, .int .i64 n_13]) rfl) ?_
    refine JL.pure rfl (PO.extract (v := mv x_11 m_12) rfl rfl) ?_
    refine JL.pure rfl (PO.extract (v := .int .i64 n_13) rfl rfl) ?_
    refine JL.op rfl (JO.alloc (z := .agg #[.slice none 0 0, .slice none 0 0, .slice none 0 0]) (cs := [.slice none 0 0, .slice none 0 0, .slice none 0 0]) Tryz.zeroValue29 rfl) ?_
    rintro _ _ ⟨b_15, rfl, rfl⟩
    refine JL.op rfl (JO.store 0 (vs := [.slice x_11.a0 m_12.s.length x_11.c0, .slice x_11.a1 m_12.r.length x_11.c1, .slice x_11.a2 m_12.w.length x_11.c2]) (cs' := [.slice x_11.a0 m_12.s.length x_11.c0, .slice x_11.a1 m_12.r.length x_11.c1, .slice x_11.a2 m_12.w.length x_11.c2]) rfl rfl rfl rfl Tryz.sizeOf29 rfl rfl (Nat.le_of_ble_eq_true rfl) rfl) ?_
    rintro _ _ rfl
    refine JL.pure rfl (PO.assign (v := .int .i64 n_13) rfl) ?_
    refine JL.nil ?_
    refine JQ.seq ?_
    refine JC.seq ?_
    refine JC.region ?_
    refine JL.ld rfl (LO.loadK 4 (vs := [.slice x_2.a0 m_3.s.length x_2.c0, .slice x_2.a1 m_3.r.length x_2.c1, .slice x_2.a2 m_3.w.length x_2.c2]) rfl rfl Tryz.isAgg29 Tryz.sizeOf29 rfl rfl) ?_
    refine JL.pure rfl (PO.move (v := str u_5) rfl) ?_
    refine JL.op rfl (JO.call [] Tryz.call9 rfl (Q_bump x_2 m_3 k_4 (by omega) (by omega) u_5 (by omega)) rfl (fun w hw => ⟨hw.see (i := 5) rfl, hw.see (i := 6) rfl, hw.see (i := 7) rfl⟩)) ?_
    rintro _ _ ⟨_, ⟨x_18, m_19, n_20, e_16, k_17, f_21, rfl, rfl⟩, rfl⟩
    have hqe_16 := e_9.symm.trans e_16
    simp only [Prod.mk.injEq] at hqe_16
    obtain ⟨rfl, rfl⟩ := hqe_16
    refine JL.pure rfl (PO.move (v := .tuple #[mv x_18 m_12, .int .i64 n_13]) rfl) ?_
    refine JL.pure rfl (PO.extract (v := mv x_18 m_12) rfl rfl) ?_
    refine JL.pure rfl (PO.extract (v := .int .i64 n_13) rfl rfl) ?_
    refine JL.op rfl (JO.alloc (z := .agg #[.slice none 0 0, .slice none 0 0, .slice none 0 0]) (cs := [.slice none 0 0, .slice none 0 0, .slice none 0 0]) Tryz.zeroValue29 rfl) ?_
    rintro _ _ ⟨b_22, rfl, rfl⟩
    refine JL.op rfl (JO.store 0 (vs := [.slice x_18.a0 m_12.s.length x_18.c0, .slice x_18.a1 m_12.r.length x_18.c1, .slice x_18.a2 m_12.w.length x_18.c2]) (cs' := [.slice x_18.a0 m_12.s.length x_18.c0, .slice x_18.a1 m_12.r.length x_18.c1, .slice x_18.a2 m_12.w.length x_18.c2]) rfl rfl rfl rfl Tryz.sizeOf29 rfl rfl (Nat.le_of_ble_eq_true rfl) rfl) ?_
    rintro _ _ rfl
    refine JL.pure rfl (PO.assign (v := .int .i64 n_13) rfl) ?_
    refine JL.nil ?_
    refine JQ.seq ?_
    refine JC.seq ?_
    refine JC.region ?_
    refine JL.ld rfl (LO.loadK 8 (vs := [.slice x_2.a0 m_3.s.length x_2.c0, .slice x_2.a1 m_3.r.length x_2.c1, .slice x_2.a2 m_3.w.length x_2.c2]) rfl rfl Tryz.isAgg29 Tryz.sizeOf29 rfl rfl) ?_
    refine JL.pure rfl (PO.move (v := str u_5) rfl) ?_
    refine JL.op rfl (JO.call [] Tryz.call10 rfl (P_num x_2 m_3 k_4 (by omega) (by omega) u_5) rfl (fun w hw => ⟨hw.see (i := 9) rfl, hw.see (i := 10) rfl, hw.see (i := 11) rfl⟩)) ?_
    rintro _ _ ⟨_, ⟨x_25, m_26, n_27, e_23, k_24, f_28, rfl, rfl⟩, rfl⟩
    refine JL.pure rfl (PO.move (v := .tuple #[mv x_25 m_26, .int .i64 n_27]) rfl) ?_
    refine JL.pure rfl (PO.extract (v := mv x_25 m_26) rfl rfl) ?_
    refine JL.pure rfl (PO.extract (v := .int .i64 n_27) rfl rfl) ?_
    refine JL.op rfl (JO.alloc (z := .agg #[.slice none 0 0, .slice none 0 0, .slice none 0 0]) (cs := [.slice none 0 0, .slice none 0 0, .slice none 0 0]) Tryz.zeroValue29 rfl) ?_
    rintro _ _ ⟨b_29, rfl, rfl⟩
    refine JL.op rfl (JO.store 0 (vs := [.slice x_25.a0 m_26.s.length x_25.c0, .slice x_25.a1 m_26.r.length x_25.c1, .slice x_25.a2 m_26.w.length x_25.c2]) (cs' := [.slice x_25.a0 m_26.s.length x_25.c0, .slice x_25.a1 m_26.r.length x_25.c1, .slice x_25.a2 m_26.w.length x_25.c2]) rfl rfl rfl rfl Tryz.sizeOf29 rfl rfl (Nat.le_of_ble_eq_true rfl) rfl) ?_
    rintro _ _ rfl
    refine JL.pure rfl (PO.assign (v := .int .i64 n_27) rfl) ?_
    refine JL.nil ?_
    refine JQ.seq ?_
    refine JC.seq ?_
    refine JC.region ?_
    refine JL.ld rfl (LO.loadK 12 (vs := [.slice x_2.a0 m_3.s.length x_2.c0, .slice x_2.a1 m_3.r.length x_2.c1, .slice x_2.a2 m_3.w.length x_2.c2]) rfl rfl Tryz.isAgg29 Tryz.sizeOf29 rfl rfl) ?_
    refine JL.pure rfl (PO.move (v := str u_5) rfl) ?_
    refine JL.op rfl (JO.call [] Tryz.call11 rfl (Q_num x_2 m_3 k_4 (by omega) (by omega) u_5) rfl (fun w hw => ⟨hw.see (i := 13) rfl, hw.see (i := 14) rfl, hw.see (i := 15) rfl⟩)) ?_
    rintro _ _ ⟨_, ⟨x_32, m_33, n_34, e_30, k_31, f_35, rfl, rfl⟩, rfl⟩
    have hqe_30 := e_23.symm.trans e_30
    simp only [Prod.mk.injEq] at hqe_30
    obtain ⟨rfl, rfl⟩ := hqe_30
    refine JL.pure rfl (PO.move (v := .tuple #[mv x_32 m_26, .int .i64 n_27]) rfl) ?_
    refine JL.pure rfl (PO.extract (v := mv x_32 m_26) rfl rfl) ?_
    refine JL.pure rfl (PO.extract (v := .int .i64 n_27) rfl rfl) ?_
    refine JL.op rfl (JO.alloc (z := .agg #[.slice none 0 0, .slice none 0 0, .slice none 0 0]) (cs := [.slice none 0 0, .slice none 0 0, .slice none 0 0]) Tryz.zeroValue29 rfl) ?_
    rintro _ _ ⟨b_36, rfl, rfl⟩
    refine JL.op rfl (JO.store 0 (vs := [.slice x_32.a0 m_26.s.length x_32.c0, .slice x_32.a1 m_26.r.length x_32.c1, .slice x_32.a2 m_26.w.length x_32.c2]) (cs' := [.slice x_32.a0 m_26.s.length x_32.c0, .slice x_32.a1 m_26.r.length x_32.c1, .slice x_32.a2 m_26.w.length x_32.c2]) rfl rfl rfl rfl Tryz.sizeOf29 rfl rfl (Nat.le_of_ble_eq_true rfl) rfl) ?_
    rintro _ _ rfl
    refine JL.pure rfl (PO.assign (v := .int .i64 n_27) rfl) ?_
    refine JL.nil ?_
    refine JQ.seq ?_
    refine JC.seq ?_
    refine JC.region ?_
    refine JL.pure rfl (PO.move (v := .slice pa p.length pc) rfl) ?_
    refine JL.op rfl (JO.call [] Tryz.call12 rfl (D_drawSetNum pa pc p (by omega)) rfl (fun w hw => hw.seeOut_ hs_pa (fun _ _ => List.not_mem_nil))) ?_
    rintro _ _ ⟨_, ⟨x_37, m_38, u_40, n_42, k_39, f_41, f_43, rfl, rfl⟩, rfl⟩
    refine JL.pure rfl (PO.move (v := .tuple #[mv x_37 m_38, str u_40, .int .i64 n_42]) rfl) ?_
    refine JL.pure rfl (PO.extract (v := mv x_37 m_38) rfl rfl) ?_
    refine JL.pure rfl (PO.extract (v := str u_40) rfl rfl) ?_
    refine JL.pure rfl (PO.extract (v := .int .i64 n_42) rfl rfl) ?_
    refine JL.op rfl (JO.alloc (z := .agg #[.slice none 0 0, .slice none 0 0, .slice none 0 0]) (cs := [.slice none 0 0, .slice none 0 0, .slice none 0 0]) Tryz.zeroValue29 rfl) ?_
    rintro _ _ ⟨b_45, rfl, rfl⟩
    refine JL.op rfl (JO.store 0 (vs := [.slice x_37.a0 m_38.s.length x_37.c0, .slice x_37.a1 m_38.r.length x_37.c1, .slice x_37.a2 m_38.w.length x_37.c2]) (cs' := [.slice x_37.a0 m_38.s.length x_37.c0, .slice x_37.a1 m_38.r.length x_37.c1, .slice x_37.a2 m_38.w.length x_37.c2]) rfl rfl rfl rfl Tryz.sizeOf29 rfl rfl (Nat.le_of_ble_eq_true rfl) rfl) ?_
    rintro _ _ rfl
    refine JL.pure rfl (PO.assign (v := str u_40) rfl) ?_
    refine JL.pure rfl (PO.assign (v := .int .i64 n_42) rfl) ?_
    refine JL.nil ?_
    refine JQ.seq ?_
    refine JC.seq ?_
    refine JC.region ?_
    refine JL.ld rfl (LO.loadK 0 (vs := [.slice x_37.a0 m_38.s.length x_37.c0, .slice x_37.a1 m_38.r.length x_37.c1, .slice x_37.a2 m_38.w.length x_37.c2]) rfl rfl Tryz.isAgg29 Tryz.sizeOf29 rfl rfl) ?_
    refine JL.pure rfl (PO.move (v := str u_40) rfl) ?_
    refine JL.pure rfl (PO.move (v := .int .i64 n_42) rfl) ?_
    refine JL.op rfl (JO.call [] Tryz.call13 rfl (P_setNum x_37 m_38 k_39 (by omega) (by omega) u_40 n_42 (by omega) (by omega)) rfl (fun w hw => ⟨hw.see (i := 1) rfl, hw.see (i := 2) rfl, hw.see (i := 3) rfl⟩)) ?_
    rintro _ _ ⟨_, ⟨x_48, m_49, e_46, k_47, rfl, rfl⟩, rfl⟩
    refine JL.op rfl (JO.alloc (z := .agg #[.slice none 0 0, .slice none 0 0, .slice none 0 0]) (cs := [.slice none 0 0, .slice none 0 0, .slice none 0 0]) Tryz.zeroValue29 rfl) ?_
    rintro _ _ ⟨b_50, rfl, rfl⟩
    refine JL.op rfl (JO.store 0 (vs := [.slice x_48.a0 m_49.s.length x_48.c0, .slice x_48.a1 m_49.r.length x_48.c1, .slice x_48.a2 m_49.w.length x_48.c2]) (cs' := [.slice x_48.a0 m_49.s.length x_48.c0, .slice x_48.a1 m_49.r.length x_48.c1, .slice x_48.a2 m_49.w.length x_48.c2]) rfl rfl rfl rfl Tryz.sizeOf29 rfl rfl (Nat.le_of_ble_eq_true rfl) rfl) ?_
    rintro _ _ rfl
    refine JL.nil ?_
    refine JQ.seq ?_
    refine JC.seq ?_
    refine JC.region ?_
    refine JL.pure rfl (PO.move (v := .slice pa p.length pc) rfl) ?_
    refine JL.op rfl (JO.call [] Tryz.call14 rfl (D_drawNumOf pa pc p (by omega)) rfl (fun w hw => hw.seeOut_ hs_pa (fun _ _ => List.not_mem_nil))) ?_
    rintro _ _ ⟨_, ⟨u_51, f_52, rfl, rfl⟩, rfl⟩
    refine JL.pure rfl (PO.assign (v := str u_51) rfl) ?_
    refine JL.nil ?_
    refine JQ.seq ?_
    refine JC.seq ?_
    refine JC.region ?_
    refine JL.pure rfl (PO.move (v := .slice pa p.length pc) rfl) ?_
    refine JL.op rfl (JO.call [] Tryz.call15 rfl (D_drawKeyNum pa pc p (by omega)) rfl (fun w hw => hw.seeOut_ hs_pa (fun _ _ => List.not_mem_nil))) ?_
    rintro _ _ ⟨_, ⟨u_54, n_56, u_58, f_55, f_57, f_59, rfl, rfl⟩, rfl⟩
    refine JL.pure rfl (PO.move (v := .tuple #[str u_54, .int .i64 n_56, str u_58]) rfl) ?_
    refine JL.pure rfl (PO.extract (v := str u_54) rfl rfl) ?_
    refine JL.pure rfl (PO.extract (v := .int .i64 n_56) rfl rfl) ?_
    refine JL.pure rfl (PO.extract (v := str u_58) rfl rfl) ?_
    refine JL.pure rfl (PO.assign (v := str u_54) rfl) ?_
    refine JL.pure rfl (PO.assign (v := .int .i64 n_56) rfl) ?_
    refine JL.pure rfl (PO.assign (v := str u_58) rfl) ?_
    refine JL.nil ?_
    refine JQ.seq ?_
    refine JC.seq ?_
    refine JC.seq ?_
    refine JC.regionA [mb b_50 x_48 m_49, mb b_45 x_37 m_38, mb b_36 x_32 m_26, mb b_29 x_25 m_26, mb b_22 x_18 m_12, mb b_15 x_11 m_12] 1000 mixed (by simp) ?_
    refine JA.takeP 0 rfl (by kernel_rfl) (NP.th (NP.th NP.body)) (by kernel_rfl) (by kernel_rfl) rfl (PO.move (v := .int .i64 n_13) rfl) ?_
    refine JA.takeP 1 rfl (by kernel_rfl) (NP.th (NP.th NP.body)) (by kernel_rfl) (by kernel_rfl) rfl (PO.move (v := .int .i64 n_13) rfl) ?_
    refine JA.takeP 2 rfl (by kernel_rfl) (NP.th (NP.th NP.body)) (by kernel_rfl) (by kernel_rfl) rfl (PO.neqI rfl rfl) ?_
    refine JA.takeP 3 rfl (by kernel_rfl) (NP.th (NP.th NP.body)) (by kernel_rfl) (by kernel_rfl) rfl (PO.move (v := .bool (!(decide (n_13 = n_13)))) rfl) ?_
    refine JA.takeOn 4 rfl (by kernel_rfl) (NP.th (NP.th NP.body)) (by kernel_rfl) (by kernel_rfl) (by kernel_rfl) rfl rfl rfl (congrArg Value.bool (congrArg Bool.not (decide_eq_true rfl))) (LO.loadK 5 (vs := [.slice x_11.a0 m_12.s.length x_11.c0, .slice x_11.a1 m_12.r.length x_11.c1, .slice x_11.a2 m_12.w.length x_11.c2]) rfl rfl Tryz.isAgg29 Tryz.sizeOf29 rfl rfl) ?_
    refine JA.takeOn 5 rfl (by kernel_rfl) (NP.th (NP.th NP.body)) (by kernel_rfl) (by kernel_rfl) (by kernel_rfl) rfl rfl rfl (congrArg Value.bool (congrArg Bool.not (decide_eq_true rfl))) (LO.loadK 4 (vs := [.slice x_18.a0 m_12.s.length x_18.c0, .slice x_18.a1 m_12.r.length x_18.c1, .slice x_18.a2 m_12.w.length x_18.c2]) rfl rfl Tryz.isAgg29 Tryz.sizeOf29 rfl rfl) ?_
    refine JA.one (i := 6) (by kernel_rfl) ?_
    refine JX.opOn rfl rfl rfl rfl (congrArg Value.bool (congrArg Bool.not (decide_eq_true rfl))) (JO.call [] Tryz.call16 rfl (N_sameMach x_11 x_18 m_12 k_10 (by omega) (by omega)) rfl (fun w hw => ⟨⟨hw.see (i := 21) rfl, hw.see (i := 22) rfl, hw.see (i := 23) rfl⟩, ⟨hw.see (i := 17) rfl, hw.see (i := 18) rfl, hw.see (i := 19) rfl⟩⟩)) ?_
    rintro _ _ ⟨_, ⟨rfl, rfl⟩, rfl⟩
    refine ⟨(by simp), ?_⟩
    refine JA.takeOnP 7 rfl (by kernel_rfl) (NP.th (NP.th NP.body)) (by kernel_rfl) (by kernel_rfl) rfl rfl rfl (congrArg Value.bool (congrArg Bool.not (decide_eq_true rfl))) (PO.not rfl) ?_
    refine JA.takeP 8 rfl (by kernel_rfl) (NP.th (NP.th NP.body)) (by kernel_rfl) (by kernel_rfl) rfl (PO.pickF (v := .bool false) (congrArg Value.bool (congrArg Bool.not (decide_eq_true rfl))) rfl) ?_
    refine JA.takeP 9 rfl (by kernel_rfl) (NP.th (NP.th NP.body)) (by kernel_rfl) (by kernel_rfl) rfl (PO.move (v := .bool false) rfl) ?_
    refine JA.takeOnP 10 rfl (by kernel_rfl) (NP.th (NP.th NP.body)) (by kernel_rfl) (by kernel_rfl) rfl rfl rfl (congrArg Value.bool rfl) (PO.move (v := .int .i64 n_27) rfl) ?_
    refine JA.takeOnP 11 rfl (by kernel_rfl) (NP.th (NP.th NP.body)) (by kernel_rfl) (by kernel_rfl) rfl rfl rfl (congrArg Value.bool rfl) (PO.move (v := .int .i64 n_27) rfl) ?_
    refine JA.takeOnP 12 rfl (by kernel_rfl) (NP.th (NP.th NP.body)) (by kernel_rfl) (by kernel_rfl) rfl rfl rfl (congrArg Value.bool rfl) (PO.neqI rfl rfl) ?_
    refine JA.takeP 13 rfl (by kernel_rfl) (NP.th (NP.th NP.body)) (by kernel_rfl) (by kernel_rfl) rfl (PO.pickF (v := .bool (!(decide (n_27 = n_27)))) (congrArg Value.bool rfl) rfl) ?_
    refine JA.takeP 14 rfl (by kernel_rfl) (NP.th (NP.th NP.body)) (by kernel_rfl) (by kernel_rfl) rfl (PO.move (v := .bool (!(decide (n_27 = n_27)))) rfl) ?_
    refine JA.takeOn 15 rfl (by kernel_rfl) (NP.th (NP.th NP.body)) (by kernel_rfl) (by kernel_rfl) (by kernel_rfl) rfl rfl rfl (congrArg Value.bool (congrArg Bool.not (decide_eq_true rfl))) (LO.loadK 3 (vs := [.slice x_25.a0 m_26.s.length x_25.c0, .slice x_25.a1 m_26.r.length x_25.c1, .slice x_25.a2 m_26.w.length x_25.c2]) rfl rfl Tryz.isAgg29 Tryz.sizeOf29 rfl rfl) ?_
    refine JA.takeOn 16 rfl (by kernel_rfl) (NP.th (NP.th NP.body)) (by kernel_rfl) (by kernel_rfl) (by kernel_rfl) rfl rfl rfl (congrArg Value.bool (congrArg Bool.not (decide_eq_true rfl))) (LO.loadK 2 (vs := [.slice x_32.a0 m_26.s.length x_32.c0, .slice x_32.a1 m_26.r.length x_32.c1, .slice x_32.a2 m_26.w.length x_32.c2]) rfl rfl Tryz.isAgg29 Tryz.sizeOf29 rfl rfl) ?_
    refine JA.one (i := 17) (by kernel_rfl) ?_
    refine JX.opOn rfl rfl rfl rfl (congrArg Value.bool (congrArg Bool.not (decide_eq_true rfl))) (JO.call [] Tryz.call16 rfl (N_sameMach x_25 x_32 m_26 k_24 (by omega) (by omega)) rfl (fun w hw => ⟨⟨hw.see (i := 13) rfl, hw.see (i := 14) rfl, hw.see (i := 15) rfl⟩, ⟨hw.see (i := 9) rfl, hw.see (i := 10) rfl, hw.see (i := 11) rfl⟩⟩)) ?_
    rintro _ _ ⟨_, ⟨rfl, rfl⟩, rfl⟩
    refine ⟨(by simp), ?_⟩
    refine JA.takeOnP 18 rfl (by kernel_rfl) (NP.th (NP.th NP.body)) (by kernel_rfl) (by kernel_rfl) rfl rfl rfl (congrArg Value.bool (congrArg Bool.not (decide_eq_true rfl))) (PO.not rfl) ?_
    refine JA.takeP 19 rfl (by kernel_rfl) (NP.th (NP.th NP.body)) (by kernel_rfl) (by kernel_rfl) rfl (PO.pickF (v := .bool false) (congrArg Value.bool (congrArg Bool.not (decide_eq_true rfl))) rfl) ?_
    refine JA.takeP 20 rfl (by kernel_rfl) (NP.th (NP.th NP.body)) (by kernel_rfl) (by kernel_rfl) rfl (PO.move (v := .bool false) rfl) ?_
    refine JA.takeOn 21 rfl (by kernel_rfl) (NP.th (NP.th NP.body)) (by kernel_rfl) (by kernel_rfl) (by kernel_rfl) rfl rfl rfl (congrArg Value.bool rfl) (LO.loadK 0 (vs := [.slice x_48.a0 m_49.s.length x_48.c0, .slice x_48.a1 m_49.r.length x_48.c1, .slice x_48.a2 m_49.w.length x_48.c2]) rfl rfl Tryz.isAgg29 Tryz.sizeOf29 rfl rfl) ?_
    refine JA.takeOn 22 rfl (by kernel_rfl) (NP.th (NP.th NP.body)) (by kernel_rfl) (by kernel_rfl) (by kernel_rfl) rfl rfl rfl (congrArg Value.bool rfl) (LO.loadK 1 (vs := [.slice x_37.a0 m_38.s.length x_37.c0, .slice x_37.a1 m_38.r.length x_37.c1, .slice x_37.a2 m_38.w.length x_37.c2]) rfl rfl Tryz.isAgg29 Tryz.sizeOf29 rfl rfl) ?_
    refine JA.takeOnP 23 rfl (by kernel_rfl) (NP.th (NP.th NP.body)) (by kernel_rfl) (by kernel_rfl) rfl rfl rfl (congrArg Value.bool rfl) (PO.move (v := str u_40) rfl) ?_
    refine JA.takeOnP 24 rfl (by kernel_rfl) (NP.th (NP.th NP.body)) (by kernel_rfl) (by kernel_rfl) rfl rfl rfl (congrArg Value.bool rfl) (PO.move (v := .int .i64 n_42) rfl) ?_
    refine JA.one (i := 25) (by kernel_rfl) ?_
    refine JX.opOn rfl rfl rfl rfl (congrArg Value.bool rfl) (JO.call [] Tryz.call17 rfl (Q_setNum x_37 m_38 k_39 (by omega) (by omega) u_40 n_42 (by omega) (by omega)) rfl (fun w hw => ⟨hw.see (i := 5) rfl, hw.see (i := 6) rfl, hw.see (i := 7) rfl⟩)) ?_
    rintro _ _ ⟨_, ⟨x_67, m_68, e_65, k_66, rfl, rfl⟩, rfl⟩
    have hqe_65 := e_46.symm.trans e_65
    subst hqe_65
    refine ⟨(by simp), ?_⟩
    refine JA.one (i := 26) (by kernel_rfl) ?_
    refine JX.opOn rfl rfl rfl rfl (congrArg Value.bool rfl) (JO.call [] Tryz.call16 rfl (N_sameMach x_48 x_67 m_49 k_47 (by omega) (by omega)) rfl (fun w hw => ⟨⟨hw.see (i := 4) rfl, hw.see (i := 5) rfl, hw.see (i := 6) rfl⟩, ⟨hw.see (i := 0) rfl, hw.see (i := 1) rfl, hw.see (i := 2) rfl⟩⟩)) ?_
    rintro _ _ ⟨_, ⟨rfl, rfl⟩, rfl⟩
    refine ⟨(by simp), ?_⟩
    refine JA.takeOnP 27 rfl (by kernel_rfl) (NP.th (NP.th NP.body)) (by kernel_rfl) (by kernel_rfl) rfl rfl rfl (congrArg Value.bool rfl) (PO.not rfl) ?_
    refine JA.takeP 28 rfl (by kernel_rfl) (NP.th (NP.th NP.body)) (by kernel_rfl) (by kernel_rfl) rfl (PO.pickF (v := .bool false) (congrArg Value.bool rfl) rfl) ?_
    refine JA.takeP 29 rfl (by kernel_rfl) (NP.th (NP.th NP.body)) (by kernel_rfl) (by kernel_rfl) rfl (PO.move (v := .bool false) rfl) ?_
    refine JA.takeOnP 30 rfl (by kernel_rfl) (NP.th (NP.th NP.body)) (by kernel_rfl) (by kernel_rfl) rfl rfl rfl (congrArg Value.bool rfl) (PO.move (v := str u_51) rfl) ?_
    refine JA.takeOnP 32 rfl (by kernel_rfl) (NP.th (NP.th NP.body)) (by kernel_rfl) (by kernel_rfl) rfl rfl rfl (congrArg Value.bool rfl) (PO.move (v := str u_51) rfl) ?_
    refine JA.one (i := 31) (by kernel_rfl) ?_
    refine JX.opOn rfl rfl rfl rfl (congrArg Value.bool rfl) (JO.call [] Tryz.call18 rfl (N_numOf u_51 (by omega)) rfl (fun _ _ => trivial)) ?_
    rintro _ _ ⟨_, ⟨n_79, e_77, f_80, rfl, rfl⟩, rfl⟩
    refine ⟨(by simp), ?_⟩
    refine JA.one (i := 33) (by kernel_rfl) ?_
    refine JX.opOn rfl rfl rfl rfl (congrArg Value.bool rfl) (JO.call [] Tryz.call19 rfl (N_sNumOf u_51 (by omega)) rfl (fun _ _ => trivial)) ?_
    rintro _ _ ⟨_, ⟨n_87, e_85, f_88, rfl, rfl⟩, rfl⟩
    refine ⟨(by simp), ?_⟩
    refine JA.takeOnP 34 rfl (by kernel_rfl) (NP.th (NP.th NP.body)) (by kernel_rfl) (by kernel_rfl) rfl rfl rfl (congrArg Value.bool rfl) (PO.neqI rfl rfl) ?_
    refine JA.takeP 35 rfl (by kernel_rfl) (NP.th (NP.th NP.body)) (by kernel_rfl) (by kernel_rfl) rfl (PO.pickF (v := .bool (!(decide (n_79 = n_87)))) (congrArg Value.bool rfl) rfl) ?_
    refine JA.takeP 36 rfl (by kernel_rfl) (NP.th (NP.th NP.body)) (by kernel_rfl) (by kernel_rfl) rfl (PO.move (v := .bool (!(decide (n_79 = n_87)))) rfl) ?_
    by_cases h_89 : n_79 = n_87
    · skip
      refine JA.takeOnP 37 rfl (by kernel_rfl) (NP.th (NP.th NP.body)) (by kernel_rfl) (by kernel_rfl) rfl rfl rfl (congrArg Value.bool (congrArg Bool.not (decide_eq_true h_89))) (PO.move (v := str u_54) rfl) ?_
      refine JA.takeOnP 38 rfl (by kernel_rfl) (NP.th (NP.th NP.body)) (by kernel_rfl) (by kernel_rfl) rfl rfl rfl (congrArg Value.bool (congrArg Bool.not (decide_eq_true h_89))) (PO.move (v := .int .i64 n_56) rfl) ?_
      refine JA.takeOnP 39 rfl (by kernel_rfl) (NP.th (NP.th NP.body)) (by kernel_rfl) (by kernel_rfl) rfl rfl rfl (congrArg Value.bool (congrArg Bool.not (decide_eq_true h_89))) (PO.move (v := str u_58) rfl) ?_
      refine JA.takeOnP 41 rfl (by kernel_rfl) (NP.th (NP.th NP.body)) (by kernel_rfl) (by kernel_rfl) rfl rfl rfl (congrArg Value.bool (congrArg Bool.not (decide_eq_true h_89))) (PO.move (v := str u_54) rfl) ?_
      refine JA.takeOnP 42 rfl (by kernel_rfl) (NP.th (NP.th NP.body)) (by kernel_rfl) (by kernel_rfl) rfl rfl rfl (congrArg Value.bool (congrArg Bool.not (decide_eq_true h_89))) (PO.move (v := .int .i64 n_56) rfl) ?_
      refine JA.takeOnP 43 rfl (by kernel_rfl) (NP.th (NP.th NP.body)) (by kernel_rfl) (by kernel_rfl) rfl rfl rfl (congrArg Value.bool (congrArg Bool.not (decide_eq_true h_89))) (PO.move (v := str u_58) rfl) ?_
      refine JA.one (i := 40) (by kernel_rfl) ?_
      refine JX.opOn rfl rfl rfl rfl (congrArg Value.bool (congrArg Bool.not (decide_eq_true h_89))) (JO.call [] Tryz.call20 rfl (N_keyNum u_54 n_56 u_58 (Nat.le_refl _) (by omega) (Nat.le_refl _) (by omega)) rfl (fun _ _ => trivial)) ?_
      rintro _ _ ⟨_, ⟨u_108, e_106, f_109, rfl, rfl⟩, rfl⟩
      refine ⟨(by simp), ?_⟩
      refine JA.one (i := 44) (by kernel_rfl) ?_
      refine JX.opOn rfl rfl rfl rfl (congrArg Value.bool (congrArg Bool.not (decide_eq_true h_89))) (JO.call [] Tryz.call21 rfl (N_sKeyNum u_54 n_56 u_58 (Nat.le_refl _) (by omega) (Nat.le_refl _) (by omega)) rfl (fun _ _ => trivial)) ?_
      rintro _ _ ⟨_, ⟨u_116, e_114, f_117, rfl, rfl⟩, rfl⟩
      refine ⟨(by simp), ?_⟩
      refine JA.takeOnP 45 rfl (by kernel_rfl) (NP.th (NP.th NP.body)) (by kernel_rfl) (by kernel_rfl) rfl rfl rfl (congrArg Value.bool (congrArg Bool.not (decide_eq_true h_89))) (PO.neqS rfl rfl) ?_
      refine JA.takeP 46 rfl (by kernel_rfl) (NP.th (NP.th NP.body)) (by kernel_rfl) (by kernel_rfl) rfl (PO.pickF (v := .bool (!(decide (u_108 = u_116)))) (congrArg Value.bool (congrArg Bool.not (decide_eq_true h_89))) rfl) ?_
      refine JA.done (by kernel_rfl) ?_
      refine JQ.seq ?_
      by_cases h_118 : u_108 = u_116
      · skip
        refine JC.condF (congrArg Value.bool (congrArg Bool.not (decide_eq_true h_118))) ?_
        refine JC.skip ?_
        refine JQ.seq ?_
        refine JC.seq ?_
        refine JC.region ?_
        refine JL.ld rfl (LO.loadK 3 (vs := [.slice x_48.a0 m_49.s.length x_48.c0, .slice x_48.a1 m_49.r.length x_48.c1, .slice x_48.a2 m_49.w.length x_48.c2]) rfl rfl Tryz.isAgg29 Tryz.sizeOf29 rfl rfl) ?_
        refine JL.pure rfl (PO.move (v := str u_40) rfl) ?_
        refine JL.op rfl (JO.call [] Tryz.call10 rfl (P_num x_48 m_49 k_47 (by omega) (by omega) u_40) rfl (fun w hw => ⟨hw.see (i := 4) rfl, hw.see (i := 5) rfl, hw.see (i := 6) rfl⟩)) ?_
        rintro _ _ ⟨_, ⟨x_121, m_122, n_123, e_119, k_120, f_124, rfl, rfl⟩, rfl⟩
        refine JL.pure rfl (PO.move (v := .tuple #[mv x_121 m_122, .int .i64 n_123]) rfl) ?_
        refine JL.pure rfl (PO.extract (v := mv x_121 m_122) rfl rfl) ?_
        refine JL.pure rfl (PO.extract (v := .int .i64 n_123) rfl rfl) ?_
        refine JL.op rfl (JO.alloc (z := .agg #[.slice none 0 0, .slice none 0 0, .slice none 0 0]) (cs := [.slice none 0 0, .slice none 0 0, .slice none 0 0]) Tryz.zeroValue29 rfl) ?_
        rintro _ _ ⟨b_125, rfl, rfl⟩
        refine JL.op rfl (JO.store 0 (vs := [.slice x_121.a0 m_122.s.length x_121.c0, .slice x_121.a1 m_122.r.length x_121.c1, .slice x_121.a2 m_122.w.length x_121.c2]) (cs' := [.slice x_121.a0 m_122.s.length x_121.c0, .slice x_121.a1 m_122.r.length x_121.c1, .slice x_121.a2 m_122.w.length x_121.c2]) rfl rfl rfl rfl Tryz.sizeOf29 rfl rfl (Nat.le_of_ble_eq_true rfl) rfl) ?_
        rintro _ _ rfl
        refine JL.pure rfl (PO.assign (v := .int .i64 n_123) rfl) ?_
        refine JL.nil ?_
        refine JQ.seq ?_
        refine JC.seq ?_
        refine JC.region ?_
        refine JL.op rfl (JO.call [] Tryz.call22 rfl (D_base) rfl (fun _ _ => trivial)) ?_
        rintro _ _ ⟨_, ⟨x_126, m_127, e_129, k_128, rfl, rfl⟩, rfl⟩
        refine JL.op rfl (JO.call [] Tryz.call8 rfl (P_bump x_126 m_127 k_128 (by omega) (by omega) [99] (by decide)) rfl (fun w hw => ⟨hw.see (i := 0) rfl, hw.see (i := 1) rfl, hw.see (i := 2) rfl⟩)) ?_
        rintro _ _ ⟨_, ⟨x_132, m_133, n_134, e_130, k_131, f_135, rfl, rfl⟩, rfl⟩
        refine JL.pure rfl (PO.move (v := .tuple #[mv x_132 m_133, .int .i64 n_134]) rfl) ?_
        refine JL.pure rfl (PO.extract (v := mv x_132 m_133) rfl rfl) ?_
        refine JL.pure rfl (PO.extract (v := .int .i64 n_134) rfl rfl) ?_
        refine JL.op rfl (JO.alloc (z := .agg #[.slice none 0 0, .slice none 0 0, .slice none 0 0]) (cs := [.slice none 0 0, .slice none 0 0, .slice none 0 0]) Tryz.zeroValue29 rfl) ?_
        rintro _ _ ⟨b_136, rfl, rfl⟩
        refine JL.op rfl (JO.store 0 (vs := [.slice x_132.a0 m_133.s.length x_132.c0, .slice x_132.a1 m_133.r.length x_132.c1, .slice x_132.a2 m_133.w.length x_132.c2]) (cs' := [.slice x_132.a0 m_133.s.length x_132.c0, .slice x_132.a1 m_133.r.length x_132.c1, .slice x_132.a2 m_133.w.length x_132.c2]) rfl rfl rfl rfl Tryz.sizeOf29 rfl rfl (Nat.le_of_ble_eq_true rfl) rfl) ?_
        rintro _ _ rfl
        refine JL.pure rfl (PO.assign (v := .int .i64 n_134) rfl) ?_
        refine JL.nil ?_
        refine JQ.seq ?_
        refine JC.seq ?_
        have hbn := bump_num e_9 e_23
        have hb1 : n_134 = 1 := by have h_ := e_130; rw [← e_129] at h_; have h2_ : (MS.bump MS.empty [99]).2 = 1 := (by decide); rw [h_] at h2_; exact h2_
        have hsn := fun hk_ h0_ h1_ => num_setNum (key := u_40) (n := n_42) hk_ h0_ h1_ e_46 e_119
        have hkn : keyNum [105, 47] 3 [47, 115] = [105, 47, 51, 47, 115] := by decide +kernel
        refine JC.region ?_
        refine JL.pure rfl (PO.move (v := .int .i64 n_13) rfl) ?_
        refine JL.pure rfl (PO.eqlI rfl rfl) ?_
        refine JL.pure rfl (PO.move (v := .bool (decide (n_13 = 0))) rfl) ?_
        by_cases h_137 : n_13 = 0
        · skip
          refine JL.guardOff (b := true) rfl rfl rfl (congrArg Value.bool (decide_eq_true h_137)) ?_
          refine JL.guardOff (b := true) rfl rfl rfl (congrArg Value.bool (decide_eq_true h_137)) ?_
          refine JL.guardOff (b := true) rfl rfl rfl (congrArg Value.bool (decide_eq_true h_137)) ?_
          refine JL.guardOff (b := true) rfl rfl rfl (congrArg Value.bool (decide_eq_true h_137)) ?_
          refine JL.pure rfl (PO.pickT (v := .bool true) (congrArg Value.bool (decide_eq_true h_137)) rfl) ?_
          refine JL.pure rfl (PO.move (v := .bool true) rfl) ?_
          refine JL.guardOn rfl rfl rfl (congrArg Value.bool rfl) (JO.ofLO (LO.pure (PO.move (v := str u_40) rfl))) ?_
          rintro _ _ ⟨rfl, rfl⟩
          refine JL.guardOn rfl rfl rfl (congrArg Value.bool rfl) (JO.call [] Tryz.call23 rfl (C_sKeyOk u_40 (by omega)) rfl (fun _ _ => trivial)) ?_
          rintro _ _ ⟨_, ⟨rfl, rfl⟩, rfl⟩
          refine JL.guardOn rfl rfl rfl (congrArg Value.bool rfl) (JO.ofLO (LO.pure (PO.not rfl))) ?_
          rintro _ _ ⟨rfl, rfl⟩
          refine JL.guardOn rfl rfl rfl (congrArg Value.bool rfl) (JO.ofLO (LO.pure (PO.move (v := .bool (!(keyOk u_40))) rfl))) ?_
          rintro _ _ ⟨rfl, rfl⟩
          rcases Bool.eq_false_or_eq_true (keyOk u_40) with h_138 | h_138
          · skip
            refine JL.guardOn rfl rfl rfl (congrArg Value.bool (congrArg Bool.not h_138)) (JO.ofLO (LO.pure (PO.move (v := .int .i64 n_42) rfl))) ?_
            rintro _ _ ⟨rfl, rfl⟩
            refine JL.guardOn rfl rfl rfl (congrArg Value.bool (congrArg Bool.not h_138)) (JO.ofLO (LO.pure (PO.lss rfl rfl))) ?_
            rintro _ _ ⟨rfl, rfl⟩
            refine JL.guardOn rfl rfl rfl (congrArg Value.bool rfl) (JO.ofLO (LO.pure (PO.pickF (v := .bool (decide (n_42 < 1))) (congrArg Value.bool (congrArg Bool.not h_138)) rfl))) ?_
            rintro _ _ ⟨rfl, rfl⟩
            refine JL.guardOn rfl rfl rfl (congrArg Value.bool rfl) (JO.ofLO (LO.pure (PO.move (v := .bool (decide (n_42 < 1))) rfl))) ?_
            rintro _ _ ⟨rfl, rfl⟩
            by_cases h_139 : n_42 < 1
            · skip
              refine JL.guardOff (b := true) rfl rfl rfl (congrArg Value.bool (decide_eq_true h_139)) ?_
              refine JL.guardOff (b := true) rfl rfl rfl (congrArg Value.bool (decide_eq_true h_139)) ?_
              refine JL.guardOn rfl rfl rfl (congrArg Value.bool rfl) (JO.ofLO (LO.pure (PO.pickT (v := .bool true) (congrArg Value.bool (decide_eq_true h_139)) rfl))) ?_
              rintro _ _ ⟨rfl, rfl⟩
              refine JL.guardOn rfl rfl rfl (congrArg Value.bool rfl) (JO.ofLO (LO.pure (PO.move (v := .bool true) rfl))) ?_
              rintro _ _ ⟨rfl, rfl⟩
              refine JL.guardOff (b := true) rfl rfl rfl (congrArg Value.bool rfl) ?_
              refine JL.guardOff (b := true) rfl rfl rfl (congrArg Value.bool rfl) ?_
              refine JL.guardOff (b := true) rfl rfl rfl (congrArg Value.bool rfl) ?_
              refine JL.guardOn rfl rfl rfl (congrArg Value.bool rfl) (JO.ofLO (LO.pure (PO.pickT (v := .bool true) (congrArg Value.bool rfl) rfl))) ?_
              rintro _ _ ⟨rfl, rfl⟩
              refine JL.pure rfl (PO.pickT (v := .bool true) (congrArg Value.bool rfl) rfl) ?_
              refine JL.pure rfl (PO.move (v := .bool true) rfl) ?_
              refine JL.guardOn rfl rfl rfl (congrArg Value.bool rfl) (JO.ofLO (LO.pure (PO.move (v := .int .i64 n_134) rfl))) ?_
              rintro _ _ ⟨rfl, rfl⟩
              refine JL.guardOn rfl rfl rfl (congrArg Value.bool rfl) (JO.ofLO (LO.pure (PO.eqlI rfl rfl))) ?_
              rintro _ _ ⟨rfl, rfl⟩
              refine JL.pure rfl (PO.pickT (v := .bool (decide (n_134 = 1))) (congrArg Value.bool rfl) rfl) ?_
              refine JL.pure rfl (PO.move (v := .bool (decide (n_134 = 1))) rfl) ?_
              by_cases h_140 : n_134 = 1
              · skip
                refine JL.guardOn rfl rfl rfl (congrArg Value.bool (decide_eq_true h_140)) (JO.call [] Tryz.call20 rfl (N_keyNum [105, 47] 3 [47, 115] (show List.length ([105, 47] : Str) ≤ 2 by decide) (by omega) (show List.length ([47, 115] : Str) ≤ 2 by decide) (by omega)) rfl (fun _ _ => trivial)) ?_
                rintro _ _ ⟨_, ⟨u_143, e_141, f_144, rfl, rfl⟩, rfl⟩
                refine JL.guardOn rfl rfl rfl (congrArg Value.bool (decide_eq_true h_140)) (JO.ofLO (LO.pure (PO.eqlS rfl rfl))) ?_
                rintro _ _ ⟨rfl, rfl⟩
                refine JL.pure rfl (PO.pickT (v := .bool (decide (u_143 = [105, 47, 51, 47, 115]))) (congrArg Value.bool (decide_eq_true h_140)) rfl) ?_
                refine JL.pure rfl (PO.assign (v := .bool (decide (u_143 = [105, 47, 51, 47, 115]))) rfl) ?_
                refine JL.nil ?_
                refine JQ.seq ?_
                refine JC.ret ?_
                refine Done.one (.inl rfl) rfl (RV.tmp (v := .bool (decide (u_143 = [105, 47, 51, 47, 115]))) rfl) (List.nil_sublist _) ?_
                refine ⟨congrArg Value.bool ?_, rfl⟩
                simp only [decide_eq_true_eq]
                first | omega | exact (e_141).symm.trans hkn | simp_all
              · skip
                refine JL.guardOff (b := false) rfl rfl rfl (congrArg Value.bool (decide_eq_false h_140)) ?_
                refine JL.guardOff (b := false) rfl rfl rfl (congrArg Value.bool (decide_eq_false h_140)) ?_
                refine JL.pure rfl (PO.pickF (v := .bool false) (congrArg Value.bool (decide_eq_false h_140)) rfl) ?_
                refine JL.pure rfl (PO.assign (v := .bool false) rfl) ?_
                refine JL.nil ?_
                refine JQ.seq ?_
                refine JC.ret ?_
                refine Done.one (.inl rfl) rfl (RV.tmp (v := .bool false) rfl) (List.nil_sublist _) ?_
                exfalso
                first | omega | contradiction | exact absurd (hsn (by assumption) (by omega) (by omega)) (by assumption) | simp_all
            · skip
              refine JL.guardOn rfl rfl rfl (congrArg Value.bool (decide_eq_false h_139)) (JO.ofLO (LO.pure (PO.move (v := .int .i64 n_42) rfl))) ?_
              rintro _ _ ⟨rfl, rfl⟩
              refine JL.guardOn rfl rfl rfl (congrArg Value.bool (decide_eq_false h_139)) (JO.ofLO (LO.pure (PO.gtr rfl rfl))) ?_
              rintro _ _ ⟨rfl, rfl⟩
              refine JL.guardOn rfl rfl rfl (congrArg Value.bool rfl) (JO.ofLO (LO.pure (PO.pickF (v := .bool (decide (999 < n_42))) (congrArg Value.bool (decide_eq_false h_139)) rfl))) ?_
              rintro _ _ ⟨rfl, rfl⟩
              refine JL.guardOn rfl rfl rfl (congrArg Value.bool rfl) (JO.ofLO (LO.pure (PO.move (v := .bool (decide (999 < n_42))) rfl))) ?_
              rintro _ _ ⟨rfl, rfl⟩
              by_cases h_145 : 999 < n_42
              · skip
                refine JL.guardOff (b := true) rfl rfl rfl (congrArg Value.bool (decide_eq_true h_145)) ?_
                refine JL.guardOff (b := true) rfl rfl rfl (congrArg Value.bool (decide_eq_true h_145)) ?_
                refine JL.guardOff (b := true) rfl rfl rfl (congrArg Value.bool (decide_eq_true h_145)) ?_
                refine JL.guardOn rfl rfl rfl (congrArg Value.bool rfl) (JO.ofLO (LO.pure (PO.pickT (v := .bool true) (congrArg Value.bool (decide_eq_true h_145)) rfl))) ?_
                rintro _ _ ⟨rfl, rfl⟩
                refine JL.pure rfl (PO.pickT (v := .bool true) (congrArg Value.bool rfl) rfl) ?_
                refine JL.pure rfl (PO.move (v := .bool true) rfl) ?_
                refine JL.guardOn rfl rfl rfl (congrArg Value.bool rfl) (JO.ofLO (LO.pure (PO.move (v := .int .i64 n_134) rfl))) ?_
                rintro _ _ ⟨rfl, rfl⟩
                refine JL.guardOn rfl rfl rfl (congrArg Value.bool rfl) (JO.ofLO (LO.pure (PO.eqlI rfl rfl))) ?_
                rintro _ _ ⟨rfl, rfl⟩
                refine JL.pure rfl (PO.pickT (v := .bool (decide (n_134 = 1))) (congrArg Value.bool rfl) rfl) ?_
                refine JL.pure rfl (PO.move (v := .bool (decide (n_134 = 1))) rfl) ?_
                by_cases h_146 : n_134 = 1
                · skip
                  refine JL.guardOn rfl rfl rfl (congrArg Value.bool (decide_eq_true h_146)) (JO.call [] Tryz.call20 rfl (N_keyNum [105, 47] 3 [47, 115] (show List.length ([105, 47] : Str) ≤ 2 by decide) (by omega) (show List.length ([47, 115] : Str) ≤ 2 by decide) (by omega)) rfl (fun _ _ => trivial)) ?_
                  rintro _ _ ⟨_, ⟨u_149, e_147, f_150, rfl, rfl⟩, rfl⟩
                  refine JL.guardOn rfl rfl rfl (congrArg Value.bool (decide_eq_true h_146)) (JO.ofLO (LO.pure (PO.eqlS rfl rfl))) ?_
                  rintro _ _ ⟨rfl, rfl⟩
                  refine JL.pure rfl (PO.pickT (v := .bool (decide (u_149 = [105, 47, 51, 47, 115]))) (congrArg Value.bool (decide_eq_true h_146)) rfl) ?_
                  refine JL.pure rfl (PO.assign (v := .bool (decide (u_149 = [105, 47, 51, 47, 115]))) rfl) ?_
                  refine JL.nil ?_
                  refine JQ.seq ?_
                  refine JC.ret ?_
                  refine Done.one (.inl rfl) rfl (RV.tmp (v := .bool (decide (u_149 = [105, 47, 51, 47, 115]))) rfl) (List.nil_sublist _) ?_
                  refine ⟨congrArg Value.bool ?_, rfl⟩
                  simp only [decide_eq_true_eq]
                  first | omega | exact (e_147).symm.trans hkn | simp_all
                · skip
                  refine JL.guardOff (b := false) rfl rfl rfl (congrArg Value.bool (decide_eq_false h_146)) ?_
                  refine JL.guardOff (b := false) rfl rfl rfl (congrArg Value.bool (decide_eq_false h_146)) ?_
                  refine JL.pure rfl (PO.pickF (v := .bool false) (congrArg Value.bool (decide_eq_false h_146)) rfl) ?_
                  refine JL.pure rfl (PO.assign (v := .bool false) rfl) ?_
                  refine JL.nil ?_
                  refine JQ.seq ?_
                  refine JC.ret ?_
                  refine Done.one (.inl rfl) rfl (RV.tmp (v := .bool false) rfl) (List.nil_sublist _) ?_
                  exfalso
                  first | omega | contradiction | exact absurd (hsn (by assumption) (by omega) (by omega)) (by assumption) | simp_all
              · skip
                refine JL.guardOn rfl rfl rfl (congrArg Value.bool (decide_eq_false h_145)) (JO.ofLO (LO.pure (PO.move (v := .int .i64 n_123) rfl))) ?_
                rintro _ _ ⟨rfl, rfl⟩
                refine JL.guardOn rfl rfl rfl (congrArg Value.bool (decide_eq_false h_145)) (JO.ofLO (LO.pure (PO.move (v := .int .i64 n_42) rfl))) ?_
                rintro _ _ ⟨rfl, rfl⟩
                refine JL.guardOn rfl rfl rfl (congrArg Value.bool (decide_eq_false h_145)) (JO.ofLO (LO.pure (PO.eqlI rfl rfl))) ?_
                rintro _ _ ⟨rfl, rfl⟩
                refine JL.guardOn rfl rfl rfl (congrArg Value.bool rfl) (JO.ofLO (LO.pure (PO.pickF (v := .bool (decide (n_123 = n_42))) (congrArg Value.bool (decide_eq_false h_145)) rfl))) ?_
                rintro _ _ ⟨rfl, rfl⟩
                refine JL.pure rfl (PO.pickT (v := .bool (decide (n_123 = n_42))) (congrArg Value.bool rfl) rfl) ?_
                refine JL.pure rfl (PO.move (v := .bool (decide (n_123 = n_42))) rfl) ?_
                by_cases h_151 : n_123 = n_42
                · skip
                  refine JL.guardOn rfl rfl rfl (congrArg Value.bool (decide_eq_true h_151)) (JO.ofLO (LO.pure (PO.move (v := .int .i64 n_134) rfl))) ?_
                  rintro _ _ ⟨rfl, rfl⟩
                  refine JL.guardOn rfl rfl rfl (congrArg Value.bool (decide_eq_true h_151)) (JO.ofLO (LO.pure (PO.eqlI rfl rfl))) ?_
                  rintro _ _ ⟨rfl, rfl⟩
                  refine JL.pure rfl (PO.pickT (v := .bool (decide (n_134 = 1))) (congrArg Value.bool (decide_eq_true h_151)) rfl) ?_
                  refine JL.pure rfl (PO.move (v := .bool (decide (n_134 = 1))) rfl) ?_
                  by_cases h_152 : n_134 = 1
                  · skip
                    refine JL.guardOn rfl rfl rfl (congrArg Value.bool (decide_eq_true h_152)) (JO.call [] Tryz.call20 rfl (N_keyNum [105, 47] 3 [47, 115] (show List.length ([105, 47] : Str) ≤ 2 by decide) (by omega) (show List.length ([47, 115] : Str) ≤ 2 by decide) (by omega)) rfl (fun _ _ => trivial)) ?_
                    rintro _ _ ⟨_, ⟨u_155, e_153, f_156, rfl, rfl⟩, rfl⟩
                    refine JL.guardOn rfl rfl rfl (congrArg Value.bool (decide_eq_true h_152)) (JO.ofLO (LO.pure (PO.eqlS rfl rfl))) ?_
                    rintro _ _ ⟨rfl, rfl⟩
                    refine JL.pure rfl (PO.pickT (v := .bool (decide (u_155 = [105, 47, 51, 47, 115]))) (congrArg Value.bool (decide_eq_true h_152)) rfl) ?_
                    refine JL.pure rfl (PO.assign (v := .bool (decide (u_155 = [105, 47, 51, 47, 115]))) rfl) ?_
                    refine JL.nil ?_
                    refine JQ.seq ?_
                    refine JC.ret ?_
                    refine Done.one (.inl rfl) rfl (RV.tmp (v := .bool (decide (u_155 = [105, 47, 51, 47, 115]))) rfl) (List.nil_sublist _) ?_
                    refine ⟨congrArg Value.bool ?_, rfl⟩
                    simp only [decide_eq_true_eq]
                    first | omega | exact (e_153).symm.trans hkn | simp_all
                  · skip
                    refine JL.guardOff (b := false) rfl rfl rfl (congrArg Value.bool (decide_eq_false h_152)) ?_
                    refine JL.guardOff (b := false) rfl rfl rfl (congrArg Value.bool (decide_eq_false h_152)) ?_
                    refine JL.pure rfl (PO.pickF (v := .bool false) (congrArg Value.bool (decide_eq_false h_152)) rfl) ?_
                    refine JL.pure rfl (PO.assign (v := .bool false) rfl) ?_
                    refine JL.nil ?_
                    refine JQ.seq ?_
                    refine JC.ret ?_
                    refine Done.one (.inl rfl) rfl (RV.tmp (v := .bool false) rfl) (List.nil_sublist _) ?_
                    exfalso
                    first | omega | contradiction | exact absurd (hsn (by assumption) (by omega) (by omega)) (by assumption) | simp_all
                · skip
                  refine JL.guardOff (b := false) rfl rfl rfl (congrArg Value.bool (decide_eq_false h_151)) ?_
                  refine JL.guardOff (b := false) rfl rfl rfl (congrArg Value.bool (decide_eq_false h_151)) ?_
                  refine JL.pure rfl (PO.pickF (v := .bool false) (congrArg Value.bool (decide_eq_false h_151)) rfl) ?_
                  refine JL.pure rfl (PO.move (v := .bool false) rfl) ?_
                  refine JL.guardOff (b := false) rfl rfl rfl (congrArg Value.bool rfl) ?_
                  refine JL.guardOff (b := false) rfl rfl rfl (congrArg Value.bool rfl) ?_
                  refine JL.pure rfl (PO.pickF (v := .bool false) (congrArg Value.bool rfl) rfl) ?_
                  refine JL.pure rfl (PO.assign (v := .bool false) rfl) ?_
                  refine JL.nil ?_
                  refine JQ.seq ?_
                  refine JC.ret ?_
                  refine Done.one (.inl rfl) rfl (RV.tmp (v := .bool false) rfl) (List.nil_sublist _) ?_
                  exfalso
                  first | omega | contradiction | exact absurd (hsn (by assumption) (by omega) (by omega)) (by assumption) | simp_all
          · skip
            refine JL.guardOff (b := true) rfl rfl rfl (congrArg Value.bool (congrArg Bool.not h_138)) ?_
            refine JL.guardOff (b := true) rfl rfl rfl (congrArg Value.bool (congrArg Bool.not h_138)) ?_
            refine JL.guardOn rfl rfl rfl (congrArg Value.bool rfl) (JO.ofLO (LO.pure (PO.pickT (v := .bool true) (congrArg Value.bool (congrArg Bool.not h_138)) rfl))) ?_
            rintro _ _ ⟨rfl, rfl⟩
            refine JL.guardOn rfl rfl rfl (congrArg Value.bool rfl) (JO.ofLO (LO.pure (PO.move (v := .bool true) rfl))) ?_
            rintro _ _ ⟨rfl, rfl⟩
            refine JL.guardOff (b := true) rfl rfl rfl (congrArg Value.bool rfl) ?_
            refine JL.guardOff (b := true) rfl rfl rfl (congrArg Value.bool rfl) ?_
            refine JL.guardOn rfl rfl rfl (congrArg Value.bool rfl) (JO.ofLO (LO.pure (PO.pickT (v := .bool true) (congrArg Value.bool rfl) rfl))) ?_
            rintro _ _ ⟨rfl, rfl⟩
            refine JL.guardOn rfl rfl rfl (congrArg Value.bool rfl) (JO.ofLO (LO.pure (PO.move (v := .bool true) rfl))) ?_
            rintro _ _ ⟨rfl, rfl⟩
            refine JL.guardOff (b := true) rfl rfl rfl (congrArg Value.bool rfl) ?_
            refine JL.guardOff (b := true) rfl rfl rfl (congrArg Value.bool rfl) ?_
            refine JL.guardOff (b := true) rfl rfl rfl (congrArg Value.bool rfl) ?_
            refine JL.guardOn rfl rfl rfl (congrArg Value.bool rfl) (JO.ofLO (LO.pure (PO.pickT (v := .bool true) (congrArg Value.bool rfl) rfl))) ?_
            rintro _ _ ⟨rfl, rfl⟩
            refine JL.pure rfl (PO.pickT (v := .bool true) (congrArg Value.bool rfl) rfl) ?_
            refine JL.pure rfl (PO.move (v := .bool true) rfl) ?_
            refine JL.guardOn rfl rfl rfl (congrArg Value.bool rfl) (JO.ofLO (LO.pure (PO.move (v := .int .i64 n_134) rfl))) ?_
            rintro _ _ ⟨rfl, rfl⟩
            refine JL.guardOn rfl rfl rfl (congrArg Value.bool rfl) (JO.ofLO (LO.pure (PO.eqlI rfl rfl))) ?_
            rintro _ _ ⟨rfl, rfl⟩
            refine JL.pure rfl (PO.pickT (v := .bool (decide (n_134 = 1))) (congrArg Value.bool rfl) rfl) ?_
            refine JL.pure rfl (PO.move (v := .bool (decide (n_134 = 1))) rfl) ?_
            by_cases h_157 : n_134 = 1
            · skip
              refine JL.guardOn rfl rfl rfl (congrArg Value.bool (decide_eq_true h_157)) (JO.call [] Tryz.call20 rfl (N_keyNum [105, 47] 3 [47, 115] (show List.length ([105, 47] : Str) ≤ 2 by decide) (by omega) (show List.length ([47, 115] : Str) ≤ 2 by decide) (by omega)) rfl (fun _ _ => trivial)) ?_
              rintro _ _ ⟨_, ⟨u_160, e_158, f_161, rfl, rfl⟩, rfl⟩
              refine JL.guardOn rfl rfl rfl (congrArg Value.bool (decide_eq_true h_157)) (JO.ofLO (LO.pure (PO.eqlS rfl rfl))) ?_
              rintro _ _ ⟨rfl, rfl⟩
              refine JL.pure rfl (PO.pickT (v := .bool (decide (u_160 = [105, 47, 51, 47, 115]))) (congrArg Value.bool (decide_eq_true h_157)) rfl) ?_
              refine JL.pure rfl (PO.assign (v := .bool (decide (u_160 = [105, 47, 51, 47, 115]))) rfl) ?_
              refine JL.nil ?_
              refine JQ.seq ?_
              refine JC.ret ?_
              refine Done.one (.inl rfl) rfl (RV.tmp (v := .bool (decide (u_160 = [105, 47, 51, 47, 115]))) rfl) (List.nil_sublist _) ?_
              refine ⟨congrArg Value.bool ?_, rfl⟩
              simp only [decide_eq_true_eq]
              first | omega | exact (e_158).symm.trans hkn | simp_all
            · skip
              refine JL.guardOff (b := false) rfl rfl rfl (congrArg Value.bool (decide_eq_false h_157)) ?_
              refine JL.guardOff (b := false) rfl rfl rfl (congrArg Value.bool (decide_eq_false h_157)) ?_
              refine JL.pure rfl (PO.pickF (v := .bool false) (congrArg Value.bool (decide_eq_false h_157)) rfl) ?_
              refine JL.pure rfl (PO.assign (v := .bool false) rfl) ?_
              refine JL.nil ?_
              refine JQ.seq ?_
              refine JC.ret ?_
              refine Done.one (.inl rfl) rfl (RV.tmp (v := .bool false) rfl) (List.nil_sublist _) ?_
              exfalso
              first | omega | contradiction | exact absurd (hsn (by assumption) (by omega) (by omega)) (by assumption) | simp_all
        · skip
          refine JL.guardOn rfl rfl rfl (congrArg Value.bool (decide_eq_false h_137)) (JO.ofLO (LO.pure (PO.move (v := .int .i64 n_13) rfl))) ?_
          rintro _ _ ⟨rfl, rfl⟩
          refine JL.guardOn rfl rfl rfl (congrArg Value.bool (decide_eq_false h_137)) (JO.ofLO (LO.pure (PO.move (v := .int .i64 n_27) rfl))) ?_
          rintro _ _ ⟨rfl, rfl⟩
          refine JL.guardOn rfl rfl rfl (congrArg Value.bool (decide_eq_false h_137)) (JO.ofLO (LO.pure (PO.add (c := n_27 + 1) rfl rfl (wr (by omega))))) ?_
          rintro _ _ ⟨rfl, rfl⟩
          refine JL.guardOn rfl rfl rfl (congrArg Value.bool (decide_eq_false h_137)) (JO.ofLO (LO.pure (PO.eqlI rfl rfl))) ?_
          rintro _ _ ⟨rfl, rfl⟩
          refine JL.pure rfl (PO.pickF (v := .bool (decide (n_13 = (n_27 + 1)))) (congrArg Value.bool (decide_eq_false h_137)) rfl) ?_
          refine JL.pure rfl (PO.move (v := .bool (decide (n_13 = (n_27 + 1)))) rfl) ?_
          by_cases h_162 : n_13 = (n_27 + 1)
          · skip
            refine JL.guardOn rfl rfl rfl (congrArg Value.bool (decide_eq_true h_162)) (JO.ofLO (LO.pure (PO.move (v := str u_40) rfl))) ?_
            rintro _ _ ⟨rfl, rfl⟩
            refine JL.guardOn rfl rfl rfl (congrArg Value.bool (decide_eq_true h_162)) (JO.call [] Tryz.call23 rfl (C_sKeyOk u_40 (by omega)) rfl (fun _ _ => trivial)) ?_
            rintro _ _ ⟨_, ⟨rfl, rfl⟩, rfl⟩
            refine JL.guardOn rfl rfl rfl (congrArg Value.bool (decide_eq_true h_162)) (JO.ofLO (LO.pure (PO.not rfl))) ?_
            rintro _ _ ⟨rfl, rfl⟩
            refine JL.guardOn rfl rfl rfl (congrArg Value.bool (decide_eq_true h_162)) (JO.ofLO (LO.pure (PO.move (v := .bool (!(keyOk u_40))) rfl))) ?_
            rintro _ _ ⟨rfl, rfl⟩
            rcases Bool.eq_false_or_eq_true (keyOk u_40) with h_163 | h_163
            · skip
              refine JL.guardOn rfl rfl rfl (congrArg Value.bool (congrArg Bool.not h_163)) (JO.ofLO (LO.pure (PO.move (v := .int .i64 n_42) rfl))) ?_
              rintro _ _ ⟨rfl, rfl⟩
              refine JL.guardOn rfl rfl rfl (congrArg Value.bool (congrArg Bool.not h_163)) (JO.ofLO (LO.pure (PO.lss rfl rfl))) ?_
              rintro _ _ ⟨rfl, rfl⟩
              refine JL.guardOn rfl rfl rfl (congrArg Value.bool (decide_eq_true h_162)) (JO.ofLO (LO.pure (PO.pickF (v := .bool (decide (n_42 < 1))) (congrArg Value.bool (congrArg Bool.not h_163)) rfl))) ?_
              rintro _ _ ⟨rfl, rfl⟩
              refine JL.guardOn rfl rfl rfl (congrArg Value.bool (decide_eq_true h_162)) (JO.ofLO (LO.pure (PO.move (v := .bool (decide (n_42 < 1))) rfl))) ?_
              rintro _ _ ⟨rfl, rfl⟩
              by_cases h_164 : n_42 < 1
              · skip
                refine JL.guardOff (b := true) rfl rfl rfl (congrArg Value.bool (decide_eq_true h_164)) ?_
                refine JL.guardOff (b := true) rfl rfl rfl (congrArg Value.bool (decide_eq_true h_164)) ?_
                refine JL.guardOn rfl rfl rfl (congrArg Value.bool (decide_eq_true h_162)) (JO.ofLO (LO.pure (PO.pickT (v := .bool true) (congrArg Value.bool (decide_eq_true h_164)) rfl))) ?_
                rintro _ _ ⟨rfl, rfl⟩
                refine JL.guardOn rfl rfl rfl (congrArg Value.bool (decide_eq_true h_162)) (JO.ofLO (LO.pure (PO.move (v := .bool true) rfl))) ?_
                rintro _ _ ⟨rfl, rfl⟩
                refine JL.guardOff (b := true) rfl rfl rfl (congrArg Value.bool rfl) ?_
                refine JL.guardOff (b := true) rfl rfl rfl (congrArg Value.bool rfl) ?_
                refine JL.guardOff (b := true) rfl rfl rfl (congrArg Value.bool rfl) ?_
                refine JL.guardOn rfl rfl rfl (congrArg Value.bool (decide_eq_true h_162)) (JO.ofLO (LO.pure (PO.pickT (v := .bool true) (congrArg Value.bool rfl) rfl))) ?_
                rintro _ _ ⟨rfl, rfl⟩
                refine JL.pure rfl (PO.pickT (v := .bool true) (congrArg Value.bool (decide_eq_true h_162)) rfl) ?_
                refine JL.pure rfl (PO.move (v := .bool true) rfl) ?_
                refine JL.guardOn rfl rfl rfl (congrArg Value.bool rfl) (JO.ofLO (LO.pure (PO.move (v := .int .i64 n_134) rfl))) ?_
                rintro _ _ ⟨rfl, rfl⟩
                refine JL.guardOn rfl rfl rfl (congrArg Value.bool rfl) (JO.ofLO (LO.pure (PO.eqlI rfl rfl))) ?_
                rintro _ _ ⟨rfl, rfl⟩
                refine JL.pure rfl (PO.pickT (v := .bool (decide (n_134 = 1))) (congrArg Value.bool rfl) rfl) ?_
                refine JL.pure rfl (PO.move (v := .bool (decide (n_134 = 1))) rfl) ?_
                by_cases h_165 : n_134 = 1
                · skip
                  refine JL.guardOn rfl rfl rfl (congrArg Value.bool (decide_eq_true h_165)) (JO.call [] Tryz.call20 rfl (N_keyNum [105, 47] 3 [47, 115] (show List.length ([105, 47] : Str) ≤ 2 by decide) (by omega) (show List.length ([47, 115] : Str) ≤ 2 by decide) (by omega)) rfl (fun _ _ => trivial)) ?_
                  rintro _ _ ⟨_, ⟨u_168, e_166, f_169, rfl, rfl⟩, rfl⟩
                  refine JL.guardOn rfl rfl rfl (congrArg Value.bool (decide_eq_true h_165)) (JO.ofLO (LO.pure (PO.eqlS rfl rfl))) ?_
                  rintro _ _ ⟨rfl, rfl⟩
                  refine JL.pure rfl (PO.pickT (v := .bool (decide (u_168 = [105, 47, 51, 47, 115]))) (congrArg Value.bool (decide_eq_true h_165)) rfl) ?_
                  refine JL.pure rfl (PO.assign (v := .bool (decide (u_168 = [105, 47, 51, 47, 115]))) rfl) ?_
                  refine JL.nil ?_
                  refine JQ.seq ?_
                  refine JC.ret ?_
                  refine Done.one (.inl rfl) rfl (RV.tmp (v := .bool (decide (u_168 = [105, 47, 51, 47, 115]))) rfl) (List.nil_sublist _) ?_
                  refine ⟨congrArg Value.bool ?_, rfl⟩
                  simp only [decide_eq_true_eq]
                  first | omega | exact (e_166).symm.trans hkn | simp_all
                · skip
                  refine JL.guardOff (b := false) rfl rfl rfl (congrArg Value.bool (decide_eq_false h_165)) ?_
                  refine JL.guardOff (b := false) rfl rfl rfl (congrArg Value.bool (decide_eq_false h_165)) ?_
                  refine JL.pure rfl (PO.pickF (v := .bool false) (congrArg Value.bool (decide_eq_false h_165)) rfl) ?_
                  refine JL.pure rfl (PO.assign (v := .bool false) rfl) ?_
                  refine JL.nil ?_
                  refine JQ.seq ?_
                  refine JC.ret ?_
                  refine Done.one (.inl rfl) rfl (RV.tmp (v := .bool false) rfl) (List.nil_sublist _) ?_
                  exfalso
                  first | omega | contradiction | exact absurd (hsn (by assumption) (by omega) (by omega)) (by assumption) | simp_all
              · skip
                refine JL.guardOn rfl rfl rfl (congrArg Value.bool (decide_eq_false h_164)) (JO.ofLO (LO.pure (PO.move (v := .int .i64 n_42) rfl))) ?_
                rintro _ _ ⟨rfl, rfl⟩
                refine JL.guardOn rfl rfl rfl (congrArg Value.bool (decide_eq_false h_164)) (JO.ofLO (LO.pure (PO.gtr rfl rfl))) ?_
                rintro _ _ ⟨rfl, rfl⟩
                refine JL.guardOn rfl rfl rfl (congrArg Value.bool (decide_eq_true h_162)) (JO.ofLO (LO.pure (PO.pickF (v := .bool (decide (999 < n_42))) (congrArg Value.bool (decide_eq_false h_164)) rfl))) ?_
                rintro _ _ ⟨rfl, rfl⟩
                refine JL.guardOn rfl rfl rfl (congrArg Value.bool (decide_eq_true h_162)) (JO.ofLO (LO.pure (PO.move (v := .bool (decide (999 < n_42))) rfl))) ?_
                rintro _ _ ⟨rfl, rfl⟩
                by_cases h_170 : 999 < n_42
                · skip
                  refine JL.guardOff (b := true) rfl rfl rfl (congrArg Value.bool (decide_eq_true h_170)) ?_
                  refine JL.guardOff (b := true) rfl rfl rfl (congrArg Value.bool (decide_eq_true h_170)) ?_
                  refine JL.guardOff (b := true) rfl rfl rfl (congrArg Value.bool (decide_eq_true h_170)) ?_
                  refine JL.guardOn rfl rfl rfl (congrArg Value.bool (decide_eq_true h_162)) (JO.ofLO (LO.pure (PO.pickT (v := .bool true) (congrArg Value.bool (decide_eq_true h_170)) rfl))) ?_
                  rintro _ _ ⟨rfl, rfl⟩
                  refine JL.pure rfl (PO.pickT (v := .bool true) (congrArg Value.bool (decide_eq_true h_162)) rfl) ?_
                  refine JL.pure rfl (PO.move (v := .bool true) rfl) ?_
                  refine JL.guardOn rfl rfl rfl (congrArg Value.bool rfl) (JO.ofLO (LO.pure (PO.move (v := .int .i64 n_134) rfl))) ?_
                  rintro _ _ ⟨rfl, rfl⟩
                  refine JL.guardOn rfl rfl rfl (congrArg Value.bool rfl) (JO.ofLO (LO.pure (PO.eqlI rfl rfl))) ?_
                  rintro _ _ ⟨rfl, rfl⟩
                  refine JL.pure rfl (PO.pickT (v := .bool (decide (n_134 = 1))) (congrArg Value.bool rfl) rfl) ?_
                  refine JL.pure rfl (PO.move (v := .bool (decide (n_134 = 1))) rfl) ?_
                  by_cases h_171 : n_134 = 1
                  · skip
                    refine JL.guardOn rfl rfl rfl (congrArg Value.bool (decide_eq_true h_171)) (JO.call [] Tryz.call20 rfl (N_keyNum [105, 47] 3 [47, 115] (show List.length ([105, 47] : Str) ≤ 2 by decide) (by omega) (show List.length ([47, 115] : Str) ≤ 2 by decide) (by omega)) rfl (fun _ _ => trivial)) ?_
                    rintro _ _ ⟨_, ⟨u_174, e_172, f_175, rfl, rfl⟩, rfl⟩
                    refine JL.guardOn rfl rfl rfl (congrArg Value.bool (decide_eq_true h_171)) (JO.ofLO (LO.pure (PO.eqlS rfl rfl))) ?_
                    rintro _ _ ⟨rfl, rfl⟩
                    refine JL.pure rfl (PO.pickT (v := .bool (decide (u_174 = [105, 47, 51, 47, 115]))) (congrArg Value.bool (decide_eq_true h_171)) rfl) ?_
                    refine JL.pure rfl (PO.assign (v := .bool (decide (u_174 = [105, 47, 51, 47, 115]))) rfl) ?_
                    refine JL.nil ?_
                    refine JQ.seq ?_
                    refine JC.ret ?_
                    refine Done.one (.inl rfl) rfl (RV.tmp (v := .bool (decide (u_174 = [105, 47, 51, 47, 115]))) rfl) (List.nil_sublist _) ?_
                    refine ⟨congrArg Value.bool ?_, rfl⟩
                    simp only [decide_eq_true_eq]
                    first | omega | exact (e_172).symm.trans hkn | simp_all
                  · skip
                    refine JL.guardOff (b := false) rfl rfl rfl (congrArg Value.bool (decide_eq_false h_171)) ?_
                    refine JL.guardOff (b := false) rfl rfl rfl (congrArg Value.bool (decide_eq_false h_171)) ?_
                    refine JL.pure rfl (PO.pickF (v := .bool false) (congrArg Value.bool (decide_eq_false h_171)) rfl) ?_
                    refine JL.pure rfl (PO.assign (v := .bool false) rfl) ?_
                    refine JL.nil ?_
                    refine JQ.seq ?_
                    refine JC.ret ?_
                    refine Done.one (.inl rfl) rfl (RV.tmp (v := .bool false) rfl) (List.nil_sublist _) ?_
                    exfalso
                    first | omega | contradiction | exact absurd (hsn (by assumption) (by omega) (by omega)) (by assumption) | simp_all
                · skip
                  refine JL.guardOn rfl rfl rfl (congrArg Value.bool (decide_eq_false h_170)) (JO.ofLO (LO.pure (PO.move (v := .int .i64 n_123) rfl))) ?_
                  rintro _ _ ⟨rfl, rfl⟩
                  refine JL.guardOn rfl rfl rfl (congrArg Value.bool (decide_eq_false h_170)) (JO.ofLO (LO.pure (PO.move (v := .int .i64 n_42) rfl))) ?_
                  rintro _ _ ⟨rfl, rfl⟩
                  refine JL.guardOn rfl rfl rfl (congrArg Value.bool (decide_eq_false h_170)) (JO.ofLO (LO.pure (PO.eqlI rfl rfl))) ?_
                  rintro _ _ ⟨rfl, rfl⟩
                  refine JL.guardOn rfl rfl rfl (congrArg Value.bool (decide_eq_true h_162)) (JO.ofLO (LO.pure (PO.pickF (v := .bool (decide (n_123 = n_42))) (congrArg Value.bool (decide_eq_false h_170)) rfl))) ?_
                  rintro _ _ ⟨rfl, rfl⟩
                  refine JL.pure rfl (PO.pickT (v := .bool (decide (n_123 = n_42))) (congrArg Value.bool (decide_eq_true h_162)) rfl) ?_
                  refine JL.pure rfl (PO.move (v := .bool (decide (n_123 = n_42))) rfl) ?_
                  by_cases h_176 : n_123 = n_42
                  · skip
                    refine JL.guardOn rfl rfl rfl (congrArg Value.bool (decide_eq_true h_176)) (JO.ofLO (LO.pure (PO.move (v := .int .i64 n_134) rfl))) ?_
                    rintro _ _ ⟨rfl, rfl⟩
                    refine JL.guardOn rfl rfl rfl (congrArg Value.bool (decide_eq_true h_176)) (JO.ofLO (LO.pure (PO.eqlI rfl rfl))) ?_
                    rintro _ _ ⟨rfl, rfl⟩
                    refine JL.pure rfl (PO.pickT (v := .bool (decide (n_134 = 1))) (congrArg Value.bool (decide_eq_true h_176)) rfl) ?_
                    refine JL.pure rfl (PO.move (v := .bool (decide (n_134 = 1))) rfl) ?_
                    by_cases h_177 : n_134 = 1
                    · skip
                      refine JL.guardOn rfl rfl rfl (congrArg Value.bool (decide_eq_true h_177)) (JO.call [] Tryz.call20 rfl (N_keyNum [105, 47] 3 [47, 115] (show List.length ([105, 47] : Str) ≤ 2 by decide) (by omega) (show List.length ([47, 115] : Str) ≤ 2 by decide) (by omega)) rfl (fun _ _ => trivial)) ?_
                      rintro _ _ ⟨_, ⟨u_180, e_178, f_181, rfl, rfl⟩, rfl⟩
                      refine JL.guardOn rfl rfl rfl (congrArg Value.bool (decide_eq_true h_177)) (JO.ofLO (LO.pure (PO.eqlS rfl rfl))) ?_
                      rintro _ _ ⟨rfl, rfl⟩
                      refine JL.pure rfl (PO.pickT (v := .bool (decide (u_180 = [105, 47, 51, 47, 115]))) (congrArg Value.bool (decide_eq_true h_177)) rfl) ?_
                      refine JL.pure rfl (PO.assign (v := .bool (decide (u_180 = [105, 47, 51, 47, 115]))) rfl) ?_
                      refine JL.nil ?_
                      refine JQ.seq ?_
                      refine JC.ret ?_
                      refine Done.one (.inl rfl) rfl (RV.tmp (v := .bool (decide (u_180 = [105, 47, 51, 47, 115]))) rfl) (List.nil_sublist _) ?_
                      refine ⟨congrArg Value.bool ?_, rfl⟩
                      simp only [decide_eq_true_eq]
                      first | omega | exact (e_178).symm.trans hkn | simp_all
                    · skip
                      refine JL.guardOff (b := false) rfl rfl rfl (congrArg Value.bool (decide_eq_false h_177)) ?_
                      refine JL.guardOff (b := false) rfl rfl rfl (congrArg Value.bool (decide_eq_false h_177)) ?_
                      refine JL.pure rfl (PO.pickF (v := .bool false) (congrArg Value.bool (decide_eq_false h_177)) rfl) ?_
                      refine JL.pure rfl (PO.assign (v := .bool false) rfl) ?_
                      refine JL.nil ?_
                      refine JQ.seq ?_
                      refine JC.ret ?_
                      refine Done.one (.inl rfl) rfl (RV.tmp (v := .bool false) rfl) (List.nil_sublist _) ?_
                      exfalso
                      first | omega | contradiction | exact absurd (hsn (by assumption) (by omega) (by omega)) (by assumption) | simp_all
                  · skip
                    refine JL.guardOff (b := false) rfl rfl rfl (congrArg Value.bool (decide_eq_false h_176)) ?_
                    refine JL.guardOff (b := false) rfl rfl rfl (congrArg Value.bool (decide_eq_false h_176)) ?_
                    refine JL.pure rfl (PO.pickF (v := .bool false) (congrArg Value.bool (decide_eq_false h_176)) rfl) ?_
                    refine JL.pure rfl (PO.move (v := .bool false) rfl) ?_
                    refine JL.guardOff (b := false) rfl rfl rfl (congrArg Value.bool rfl) ?_
                    refine JL.guardOff (b := false) rfl rfl rfl (congrArg Value.bool rfl) ?_
                    refine JL.pure rfl (PO.pickF (v := .bool false) (congrArg Value.bool rfl) rfl) ?_
                    refine JL.pure rfl (PO.assign (v := .bool false) rfl) ?_
                    refine JL.nil ?_
                    refine JQ.seq ?_
                    refine JC.ret ?_
                    refine Done.one (.inl rfl) rfl (RV.tmp (v := .bool false) rfl) (List.nil_sublist _) ?_
                    exfalso
                    first | omega | contradiction | exact absurd (hsn (by assumption) (by omega) (by omega)) (by assumption) | simp_all
            · skip
              refine JL.guardOff (b := true) rfl rfl rfl (congrArg Value.bool (congrArg Bool.not h_163)) ?_
              refine JL.guardOff (b := true) rfl rfl rfl (congrArg Value.bool (congrArg Bool.not h_163)) ?_
              refine JL.guardOn rfl rfl rfl (congrArg Value.bool (decide_eq_true h_162)) (JO.ofLO (LO.pure (PO.pickT (v := .bool true) (congrArg Value.bool (congrArg Bool.not h_163)) rfl))) ?_
              rintro _ _ ⟨rfl, rfl⟩
              refine JL.guardOn rfl rfl rfl (congrArg Value.bool (decide_eq_true h_162)) (JO.ofLO (LO.pure (PO.move (v := .bool true) rfl))) ?_
              rintro _ _ ⟨rfl, rfl⟩
              refine JL.guardOff (b := true) rfl rfl rfl (congrArg Value.bool rfl) ?_
              refine JL.guardOff (b := true) rfl rfl rfl (congrArg Value.bool rfl) ?_
              refine JL.guardOn rfl rfl rfl (congrArg Value.bool (decide_eq_true h_162)) (JO.ofLO (LO.pure (PO.pickT (v := .bool true) (congrArg Value.bool rfl) rfl))) ?_
              rintro _ _ ⟨rfl, rfl⟩
              refine JL.guardOn rfl rfl rfl (congrArg Value.bool (decide_eq_true h_162)) (JO.ofLO (LO.pure (PO.move (v := .bool true) rfl))) ?_
              rintro _ _ ⟨rfl, rfl⟩
              refine JL.guardOff (b := true) rfl rfl rfl (congrArg Value.bool rfl) ?_
              refine JL.guardOff (b := true) rfl rfl rfl (congrArg Value.bool rfl) ?_
              refine JL.guardOff (b := true) rfl rfl rfl (congrArg Value.bool rfl) ?_
              refine JL.guardOn rfl rfl rfl (congrArg Value.bool (decide_eq_true h_162)) (JO.ofLO (LO.pure (PO.pickT (v := .bool true) (congrArg Value.bool rfl) rfl))) ?_
              rintro _ _ ⟨rfl, rfl⟩
              refine JL.pure rfl (PO.pickT (v := .bool true) (congrArg Value.bool (decide_eq_true h_162)) rfl) ?_
              refine JL.pure rfl (PO.move (v := .bool true) rfl) ?_
              refine JL.guardOn rfl rfl rfl (congrArg Value.bool rfl) (JO.ofLO (LO.pure (PO.move (v := .int .i64 n_134) rfl))) ?_
              rintro _ _ ⟨rfl, rfl⟩
              refine JL.guardOn rfl rfl rfl (congrArg Value.bool rfl) (JO.ofLO (LO.pure (PO.eqlI rfl rfl))) ?_
              rintro _ _ ⟨rfl, rfl⟩
              refine JL.pure rfl (PO.pickT (v := .bool (decide (n_134 = 1))) (congrArg Value.bool rfl) rfl) ?_
              refine JL.pure rfl (PO.move (v := .bool (decide (n_134 = 1))) rfl) ?_
              by_cases h_182 : n_134 = 1
              · skip
                refine JL.guardOn rfl rfl rfl (congrArg Value.bool (decide_eq_true h_182)) (JO.call [] Tryz.call20 rfl (N_keyNum [105, 47] 3 [47, 115] (show List.length ([105, 47] : Str) ≤ 2 by decide) (by omega) (show List.length ([47, 115] : Str) ≤ 2 by decide) (by omega)) rfl (fun _ _ => trivial)) ?_
                rintro _ _ ⟨_, ⟨u_185, e_183, f_186, rfl, rfl⟩, rfl⟩
                refine JL.guardOn rfl rfl rfl (congrArg Value.bool (decide_eq_true h_182)) (JO.ofLO (LO.pure (PO.eqlS rfl rfl))) ?_
                rintro _ _ ⟨rfl, rfl⟩
                refine JL.pure rfl (PO.pickT (v := .bool (decide (u_185 = [105, 47, 51, 47, 115]))) (congrArg Value.bool (decide_eq_true h_182)) rfl) ?_
                refine JL.pure rfl (PO.assign (v := .bool (decide (u_185 = [105, 47, 51, 47, 115]))) rfl) ?_
                refine JL.nil ?_
                refine JQ.seq ?_
                refine JC.ret ?_
                refine Done.one (.inl rfl) rfl (RV.tmp (v := .bool (decide (u_185 = [105, 47, 51, 47, 115]))) rfl) (List.nil_sublist _) ?_
                refine ⟨congrArg Value.bool ?_, rfl⟩
                simp only [decide_eq_true_eq]
                first | omega | exact (e_183).symm.trans hkn | simp_all
              · skip
                refine JL.guardOff (b := false) rfl rfl rfl (congrArg Value.bool (decide_eq_false h_182)) ?_
                refine JL.guardOff (b := false) rfl rfl rfl (congrArg Value.bool (decide_eq_false h_182)) ?_
                refine JL.pure rfl (PO.pickF (v := .bool false) (congrArg Value.bool (decide_eq_false h_182)) rfl) ?_
                refine JL.pure rfl (PO.assign (v := .bool false) rfl) ?_
                refine JL.nil ?_
                refine JQ.seq ?_
                refine JC.ret ?_
                refine Done.one (.inl rfl) rfl (RV.tmp (v := .bool false) rfl) (List.nil_sublist _) ?_
                exfalso
                first | omega | contradiction | exact absurd (hsn (by assumption) (by omega) (by omega)) (by assumption) | simp_all
          · skip
            refine JL.guardOff (b := false) rfl rfl rfl (congrArg Value.bool (decide_eq_false h_162)) ?_
            refine JL.guardOff (b := false) rfl rfl rfl (congrArg Value.bool (decide_eq_false h_162)) ?_
            refine JL.guardOff (b := false) rfl rfl rfl (congrArg Value.bool (decide_eq_false h_162)) ?_
            refine JL.guardOff (b := false) rfl rfl rfl (congrArg Value.bool (decide_eq_false h_162)) ?_
            refine JL.guardOffU rfl rfl rfl rfl ?_
            refine JL.guardOffU rfl rfl rfl rfl ?_
            refine JL.guardOff (b := false) rfl rfl rfl (congrArg Value.bool (decide_eq_false h_162)) ?_
            refine JL.guardOff (b := false) rfl rfl rfl (congrArg Value.bool (decide_eq_false h_162)) ?_
            refine JL.guardOffU rfl rfl rfl rfl ?_
            refine JL.guardOffU rfl rfl rfl rfl ?_
            refine JL.guardOff (b := false) rfl rfl rfl (congrArg Value.bool (decide_eq_false h_162)) ?_
            refine JL.guardOff (b := false) rfl rfl rfl (congrArg Value.bool (decide_eq_false h_162)) ?_
            refine JL.guardOffU rfl rfl rfl rfl ?_
            refine JL.guardOffU rfl rfl rfl rfl ?_
            refine JL.guardOffU rfl rfl rfl rfl ?_
            refine JL.guardOff (b := false) rfl rfl rfl (congrArg Value.bool (decide_eq_false h_162)) ?_
            refine JL.pure rfl (PO.pickF (v := .bool false) (congrArg Value.bool (decide_eq_false h_162)) rfl) ?_
            refine JL.pure rfl (PO.move (v := .bool false) rfl) ?_
            refine JL.guardOff (b := false) rfl rfl rfl (congrArg Value.bool rfl) ?_
            refine JL.guardOff (b := false) rfl rfl rfl (congrArg Value.bool rfl) ?_
            refine JL.pure rfl (PO.pickF (v := .bool false) (congrArg Value.bool rfl) rfl) ?_
            refine JL.pure rfl (PO.move (v := .bool false) rfl) ?_
            refine JL.guardOff (b := false) rfl rfl rfl (congrArg Value.bool rfl) ?_
            refine JL.guardOff (b := false) rfl rfl rfl (congrArg Value.bool rfl) ?_
            refine JL.pure rfl (PO.pickF (v := .bool false) (congrArg Value.bool rfl) rfl) ?_
            refine JL.pure rfl (PO.assign (v := .bool false) rfl) ?_
            refine JL.nil ?_
            refine JQ.seq ?_
            refine JC.ret ?_
            refine Done.one (.inl rfl) rfl (RV.tmp (v := .bool false) rfl) (List.nil_sublist _) ?_
            exfalso
            first | omega | contradiction | exact absurd (hsn (by assumption) (by omega) (by omega)) (by assumption) | simp_all
      · skip
        refine JC.condT (congrArg Value.bool (congrArg Bool.not (decide_eq_false h_118))) ?_
        refine JC.seq ?_
        refine JC.region ?_
        refine JL.pure rfl (PO.assign (v := .bool false) rfl) ?_
        refine JL.nil ?_
        refine JQ.seq ?_
        refine JC.ret ?_
        refine JQ.thenRet ?_
        refine Done.one (.inl rfl) rfl (RV.tmp (v := .bool false) rfl) (List.nil_sublist _) ?_
        exfalso
        first | omega | contradiction | exact absurd (hsn (by assumption) (by omega) (by omega)) (by assumption) | simp_all
    · skip
      refine JA.takeOff 37 (b := true) rfl (by kernel_rfl) (NP.th (NP.th NP.body)) (by kernel_rfl) (by kernel_rfl) rfl rfl rfl (congrArg Value.bool (congrArg Bool.not (decide_eq_false h_89))) ?_
      refine JA.takeOff 38 (b := true) rfl (by kernel_rfl) (NP.th (NP.th NP.body)) (by kernel_rfl) (by kernel_rfl) rfl rfl rfl (congrArg Value.bool (congrArg Bool.not (decide_eq_false h_89))) ?_
      refine JA.takeOff 39 (b := true) rfl (by kernel_rfl) (NP.th (NP.th NP.body)) (by kernel_rfl) (by kernel_rfl) rfl rfl rfl (congrArg Value.bool (congrArg Bool.not (decide_eq_false h_89))) ?_
      refine JA.takeOff 40 (b := true) rfl (by kernel_rfl) (NP.th (NP.th NP.body)) (by kernel_rfl) (by kernel_rfl) rfl rfl rfl (congrArg Value.bool (congrArg Bool.not (decide_eq_false h_89))) ?_
      refine JA.takeOff 41 (b := true) rfl (by kernel_rfl) (NP.th (NP.th NP.body)) (by kernel_rfl) (by kernel_rfl) rfl rfl rfl (congrArg Value.bool (congrArg Bool.not (decide_eq_false h_89))) ?_
      refine JA.takeOff 42 (b := true) rfl (by kernel_rfl) (NP.th (NP.th NP.body)) (by kernel_rfl) (by kernel_rfl) rfl rfl rfl (congrArg Value.bool (congrArg Bool.not (decide_eq_false h_89))) ?_
      refine JA.takeOff 43 (b := true) rfl (by kernel_rfl) (NP.th (NP.th NP.body)) (by kernel_rfl) (by kernel_rfl) rfl rfl rfl (congrArg Value.bool (congrArg Bool.not (decide_eq_false h_89))) ?_
      refine JA.takeOff 44 (b := true) rfl (by kernel_rfl) (NP.th (NP.th NP.body)) (by kernel_rfl) (by kernel_rfl) rfl rfl rfl (congrArg Value.bool (congrArg Bool.not (decide_eq_false h_89))) ?_
      refine JA.takeOff 45 (b := true) rfl (by kernel_rfl) (NP.th (NP.th NP.body)) (by kernel_rfl) (by kernel_rfl) rfl rfl rfl (congrArg Value.bool (congrArg Bool.not (decide_eq_false h_89))) ?_
      refine JA.takeP 46 rfl (by kernel_rfl) (NP.th (NP.th NP.body)) (by kernel_rfl) (by kernel_rfl) rfl (PO.pickT (v := .bool true) (congrArg Value.bool (congrArg Bool.not (decide_eq_false h_89))) rfl) ?_
      refine JA.done (by kernel_rfl) ?_
      refine JQ.seq ?_
      refine JC.condT (congrArg Value.bool rfl) ?_
      refine JC.seq ?_
      refine JC.region ?_
      refine JL.pure rfl (PO.assign (v := .bool false) rfl) ?_
      refine JL.nil ?_
      refine JQ.seq ?_
      refine JC.ret ?_
      refine JQ.thenRet ?_
      refine Done.one (.inl rfl) rfl (RV.tmp (v := .bool false) rfl) (List.nil_sublist _) ?_
      exfalso
      first | omega | contradiction | exact absurd (hsn (by assumption) (by omega) (by omega)) (by assumption) | simp_all

end Go.Proofs.YtndahpodgmecnaaGreatDoor
