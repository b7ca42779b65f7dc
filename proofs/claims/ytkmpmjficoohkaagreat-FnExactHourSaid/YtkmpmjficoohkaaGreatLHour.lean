/-
  laws.FnExactHour walked: it returns true.
-/
import Derived.Test.YtkmpmjficoohkaaGreatS41COPY
set_option linter.unusedSimpArgs false
set_option linter.unusedVariables false
set_option linter.unnecessarySimpa false
namespace Go.Proofs.YtkmpmjficoohkaaGreat
open Go Go.RowKit
attribute [local irreducible] JL JC JQ JO LO PO JA JX Ct

set_option maxRecDepth 4000 in
set_option maxHeartbeats 2000000 in
theorem L_Hour (k : KX) (hz : k.dat.okz) :
    Ct Tryz.prog 3 [.agg #[.slice k.a0 k.store.length k.c0, .slice k.a1 k.txs.length k.c1, .slice k.dk.a k.dk.l.length k.dk.c, str k.dk.jt, .int .i64 k.dk.js, .int .i64 k.seq, .int .i64 k.next, .int .i64 k.time, .slice k.a2 k.hist.length k.c2, .slice k.a3 k.seen.length k.c3, .bool k.room]] [] (fun w => SeesAE w (rdsN k)) (fun v A' => v = .bool true ∧ A' = []) := by
  refine Ct.intro Tryz.func3 rfl Tryz.ntmps3 (Nat.le_of_ble_eq_true rfl) fun w0 hpre => ?_
  refine JC.seq ?_
  refine JC.region ?_
  refine JL.op rfl (JO.box (cs := [.slice k.a0 k.store.length k.c0, .slice k.a1 k.txs.length k.c1, .slice k.dk.a k.dk.l.length k.dk.c, str k.dk.jt, .int .i64 k.dk.js, .int .i64 k.seq, .int .i64 k.next, .int .i64 k.time, .slice k.a2 k.hist.length k.c2, .slice k.a3 k.seen.length k.c3, .bool k.room]) rfl rfl) ?_
  rintro _ _ ⟨b_1, rfl, rfl⟩
  refine JL.pure rfl (PO.assign (v := .bool false) rfl) ?_
  refine JL.nil ?_
  refine JQ.seq ?_
  refine JC.seq ?_
  refine JC.region ?_
  refine JL.pure rfl (PO.assign (v := .int .i64 1048576) rfl) ?_
  refine JL.nil ?_
  refine JQ.seq ?_
  refine JC.seq ?_
  refine JC.region ?_
  refine JL.ld rfl (LO.loadK 0 (vs := [.slice k.a0 k.store.length k.c0, .slice k.a1 k.txs.length k.c1, .slice k.dk.a k.dk.l.length k.dk.c, str k.dk.jt, .int .i64 k.dk.js, .int .i64 k.seq, .int .i64 k.next, .int .i64 k.time, .slice k.a2 k.hist.length k.c2, .slice k.a3 k.seen.length k.c3, .bool k.room]) rfl rfl Tryz.isAgg32 Tryz.sizeOf32 rfl rfl) ?_
  refine JL.pure rfl (PO.move (v := .int .i64 1048576) rfl) ?_
  refine JL.op rfl (JO.call [] Tryz.call8 rfl (C_szKernel k 1048576 (by omega) (by omega) hz) rfl (fun w hw => hw.seeOutAE hpre nMA)) ?_
  rintro _ _ ⟨_, ⟨rfl, rfl⟩, rfl⟩
  have hle_2 := szKernelF_le k.dat 1048576 (by omega)
  refine JL.pure rfl (PO.assign (v := .int .i64 (szKernelF k.dat 1048576)) rfl) ?_
  refine JL.nil ?_
  refine JQ.seq ?_
  refine JC.seq ?_
  refine JC.seq ?_
  refine JC.region ?_
  refine JL.pure rfl (PO.move (v := .int .i64 (szKernelF k.dat 1048576)) rfl) ?_
  refine JL.pure rfl (PO.lss rfl rfl) ?_
  refine JL.nil ?_
  refine JQ.seq ?_
  by_cases h_3 : (szKernelF k.dat 1048576) < 0
  · skip
    refine JC.condT (congrArg Value.bool (decide_eq_true h_3)) ?_
    refine JC.seq ?_
    refine JC.region ?_
    refine JL.pure rfl (PO.assign (v := .bool true) rfl) ?_
    refine JL.nil ?_
    refine JQ.seq ?_
    refine JC.ret ?_
    refine JQ.thenRet ?_
    refine Done.one (.inl rfl) rfl (RV.tmp (v := .bool true) rfl) (List.nil_sublist _) ?_
    exact ⟨rfl, rfl⟩
  · skip
    obtain ⟨hl, hc, hjt⟩ := szKernelF_all (n := 1048576) (by omega) (by omega) h_3
    have hlB : k.dat.lim 1000000000 := hl.mono (by omega)
    have hcB : k.dat.cnt ≤ 7340032 := by omega
    refine JC.condF (congrArg Value.bool (decide_eq_false h_3)) ?_
    refine JC.skip ?_
    refine JQ.seq ?_
    refine JC.seq ?_
    refine JC.region ?_
    refine JL.ld rfl (LO.loadK 0 (vs := [.slice k.a0 k.store.length k.c0, .slice k.a1 k.txs.length k.c1, .slice k.dk.a k.dk.l.length k.dk.c, str k.dk.jt, .int .i64 k.dk.js, .int .i64 k.seq, .int .i64 k.next, .int .i64 k.time, .slice k.a2 k.hist.length k.c2, .slice k.a3 k.seen.length k.c3, .bool k.room]) rfl rfl Tryz.isAgg32 Tryz.sizeOf32 rfl rfl) ?_
    refine JL.op rfl (JO.call [] Tryz.call10 rfl (C_toKernel k hl) rfl (fun w hw => hw.seeOutAE hpre nMA)) ?_
    rintro _ _ ⟨_, ⟨y_4, hy_5, rfl, rfl⟩, rfl⟩
    have hl_6 : y_4.dat.lim 1000000000 := by rw [hy_5]; exact hlB
    have hc_7 : y_4.dat.cnt ≤ 7340032 := by rw [hy_5]; exact hcB
    have hz_8 : y_4.cnt ≤ 10000000 := by rw [KX.cnt_dat]; omega
    refine JL.op rfl (JO.call [] Tryz.call9 rfl (Z_specHour y_4 hl_6) rfl (fun w hw => hw.seeRows 0 rfl)) ?_
    rintro _ _ ⟨_, ⟨y_9, hy_10, rfl, rfl⟩, rfl⟩
    have hl_11 : y_9.dat.lim 1000000000 := by rw [hy_10]; exact KD.hour_lim hl_6
    have hc_12 : y_9.dat.cnt ≤ 7340032 := by rw [hy_10]; exact hc_7
    have hz_13 : y_9.cnt ≤ 10000000 := by rw [KX.cnt_dat]; omega
    refine JL.op rfl (JO.alloc (z := .agg #[.slice none 0 0, .slice none 0 0, .slice none 0 0, str [], .int .i64 0, .int .i64 0, .int .i64 0, .int .i64 0, .slice none 0 0, .slice none 0 0, .bool false]) (cs := [.slice none 0 0, .slice none 0 0, .slice none 0 0, str [], .int .i64 0, .int .i64 0, .int .i64 0, .int .i64 0, .slice none 0 0, .slice none 0 0, .bool false]) Tryz.zeroValue42 rfl) ?_
    rintro _ _ ⟨b_14, rfl, rfl⟩
    refine JL.op rfl (JO.store 0 (vs := [.slice y_9.a0 y_9.store.length y_9.c0, .slice y_9.a1 y_9.txs.length y_9.c1, .slice y_9.dk.a y_9.dk.l.length y_9.dk.c, str y_9.dk.jt, .int .i64 y_9.dk.js, .int .i64 y_9.seq, .int .i64 y_9.next, .int .i64 y_9.time, .slice y_9.a2 y_9.hist.length y_9.c2, .slice y_9.a3 y_9.seen.length y_9.c3, .bool y_9.room]) (cs' := [.slice y_9.a0 y_9.store.length y_9.c0, .slice y_9.a1 y_9.txs.length y_9.c1, .slice y_9.dk.a y_9.dk.l.length y_9.dk.c, str y_9.dk.jt, .int .i64 y_9.dk.js, .int .i64 y_9.seq, .int .i64 y_9.next, .int .i64 y_9.time, .slice y_9.a2 y_9.hist.length y_9.c2, .slice y_9.a3 y_9.seen.length y_9.c3, .bool y_9.room]) rfl rfl rfl rfl Tryz.sizeOf42 rfl rfl (Nat.le_of_ble_eq_true rfl) rfl) ?_
    rintro _ _ rfl
    refine JL.nil ?_
    refine JQ.seq ?_
    refine JC.seq ?_
    refine JC.region ?_
    refine JL.ld rfl (LO.loadK 3 (vs := [.slice k.a0 k.store.length k.c0, .slice k.a1 k.txs.length k.c1, .slice k.dk.a k.dk.l.length k.dk.c, str k.dk.jt, .int .i64 k.dk.js, .int .i64 k.seq, .int .i64 k.next, .int .i64 k.time, .slice k.a2 k.hist.length k.c2, .slice k.a3 k.seen.length k.c3, .bool k.room]) rfl rfl Tryz.isAgg32 Tryz.sizeOf32 rfl rfl) ?_
    refine JL.op rfl (JO.call [] Tryz.call10 rfl (C_toKernel k hl) rfl (fun w hw => hw.seeOutAE hpre nMA)) ?_
    rintro _ _ ⟨_, ⟨y_15, hy_16, rfl, rfl⟩, rfl⟩
    have hl_17 : y_15.dat.lim 1000000000 := by rw [hy_16]; exact hlB
    have hc_18 : y_15.dat.cnt ≤ 7340032 := by rw [hy_16]; exact hcB
    have hz_19 : y_15.cnt ≤ 10000000 := by rw [KX.cnt_dat]; omega
    refine JL.op rfl (JO.alloc (z := .agg #[.slice none 0 0, .slice none 0 0, .slice none 0 0, str [], .int .i64 0, .int .i64 0, .int .i64 0, .int .i64 0, .slice none 0 0, .slice none 0 0, .bool false]) (cs := [.slice none 0 0, .slice none 0 0, .slice none 0 0, str [], .int .i64 0, .int .i64 0, .int .i64 0, .int .i64 0, .slice none 0 0, .slice none 0 0, .bool false]) Tryz.zeroValue42 rfl) ?_
    rintro _ _ ⟨b_20, rfl, rfl⟩
    refine JL.op rfl (JO.store 0 (vs := [.slice y_15.a0 y_15.store.length y_15.c0, .slice y_15.a1 y_15.txs.length y_15.c1, .slice y_15.dk.a y_15.dk.l.length y_15.dk.c, str y_15.dk.jt, .int .i64 y_15.dk.js, .int .i64 y_15.seq, .int .i64 y_15.next, .int .i64 y_15.time, .slice y_15.a2 y_15.hist.length y_15.c2, .slice y_15.a3 y_15.seen.length y_15.c3, .bool y_15.room]) (cs' := [.slice y_15.a0 y_15.store.length y_15.c0, .slice y_15.a1 y_15.txs.length y_15.c1, .slice y_15.dk.a y_15.dk.l.length y_15.dk.c, str y_15.dk.jt, .int .i64 y_15.dk.js, .int .i64 y_15.seq, .int .i64 y_15.next, .int .i64 y_15.time, .slice y_15.a2 y_15.hist.length y_15.c2, .slice y_15.a3 y_15.seen.length y_15.c3, .bool y_15.room]) rfl rfl rfl rfl Tryz.sizeOf42 rfl rfl (Nat.le_of_ble_eq_true rfl) rfl) ?_
    rintro _ _ rfl
    refine JL.nil ?_
    refine JQ.seq ?_
    refine JC.seq ?_
    refine JC.region ?_
    refine JL.ld rfl (LO.loadK 0 (vs := [.slice y_15.a0 y_15.store.length y_15.c0, .slice y_15.a1 y_15.txs.length y_15.c1, .slice y_15.dk.a y_15.dk.l.length y_15.dk.c, str y_15.dk.jt, .int .i64 y_15.dk.js, .int .i64 y_15.seq, .int .i64 y_15.next, .int .i64 y_15.time, .slice y_15.a2 y_15.hist.length y_15.c2, .slice y_15.a3 y_15.seen.length y_15.c3, .bool y_15.room]) rfl rfl Tryz.isAgg42 Tryz.sizeOf42 rfl rfl) ?_
    refine JL.op rfl (JO.call [] Tryz.call11 rfl (Z_implHour y_15 hl_17) rfl (fun w hw => hw.seeRows 1 rfl)) ?_
    rintro _ _ ⟨_, ⟨y_21, hy_22, rfl, rfl⟩, rfl⟩
    have hl_23 : y_21.dat.lim 1000000000 := by rw [hy_22]; exact KD.hour_lim hl_17
    have hc_24 : y_21.dat.cnt ≤ 7340032 := by rw [hy_22]; exact hc_18
    have hz_25 : y_21.cnt ≤ 10000000 := by rw [KX.cnt_dat]; omega
    refine JL.op rfl (JO.alloc (z := .agg #[.slice none 0 0, .slice none 0 0, .slice none 0 0, str [], .int .i64 0, .int .i64 0, .int .i64 0, .int .i64 0, .slice none 0 0, .slice none 0 0, .bool false]) (cs := [.slice none 0 0, .slice none 0 0, .slice none 0 0, str [], .int .i64 0, .int .i64 0, .int .i64 0, .int .i64 0, .slice none 0 0, .slice none 0 0, .bool false]) Tryz.zeroValue42 rfl) ?_
    rintro _ _ ⟨b_26, rfl, rfl⟩
    refine JL.op rfl (JO.store 0 (vs := [.slice y_21.a0 y_21.store.length y_21.c0, .slice y_21.a1 y_21.txs.length y_21.c1, .slice y_21.dk.a y_21.dk.l.length y_21.dk.c, str y_21.dk.jt, .int .i64 y_21.dk.js, .int .i64 y_21.seq, .int .i64 y_21.next, .int .i64 y_21.time, .slice y_21.a2 y_21.hist.length y_21.c2, .slice y_21.a3 y_21.seen.length y_21.c3, .bool y_21.room]) (cs' := [.slice y_21.a0 y_21.store.length y_21.c0, .slice y_21.a1 y_21.txs.length y_21.c1, .slice y_21.dk.a y_21.dk.l.length y_21.dk.c, str y_21.dk.jt, .int .i64 y_21.dk.js, .int .i64 y_21.seq, .int .i64 y_21.next, .int .i64 y_21.time, .slice y_21.a2 y_21.hist.length y_21.c2, .slice y_21.a3 y_21.seen.length y_21.c3, .bool y_21.room]) rfl rfl rfl rfl Tryz.sizeOf42 rfl rfl (Nat.le_of_ble_eq_true rfl) rfl) ?_
    rintro _ _ rfl
    refine JL.nil ?_
    refine JQ.seq ?_
    refine JC.seq ?_
    refine JC.seq ?_
    refine JC.region ?_
    refine JL.ld rfl (LO.loadK 0 (vs := [.slice y_21.a0 y_21.store.length y_21.c0, .slice y_21.a1 y_21.txs.length y_21.c1, .slice y_21.dk.a y_21.dk.l.length y_21.dk.c, str y_21.dk.jt, .int .i64 y_21.dk.js, .int .i64 y_21.seq, .int .i64 y_21.next, .int .i64 y_21.time, .slice y_21.a2 y_21.hist.length y_21.c2, .slice y_21.a3 y_21.seen.length y_21.c3, .bool y_21.room]) rfl rfl Tryz.isAgg42 Tryz.sizeOf42 rfl rfl) ?_
    refine JL.ld rfl (LO.loadK 4 (vs := [.slice y_9.a0 y_9.store.length y_9.c0, .slice y_9.a1 y_9.txs.length y_9.c1, .slice y_9.dk.a y_9.dk.l.length y_9.dk.c, str y_9.dk.jt, .int .i64 y_9.dk.js, .int .i64 y_9.seq, .int .i64 y_9.next, .int .i64 y_9.time, .slice y_9.a2 y_9.hist.length y_9.c2, .slice y_9.a3 y_9.seen.length y_9.c3, .bool y_9.room]) rfl rfl Tryz.isAgg42 Tryz.sizeOf42 rfl rfl) ?_
    refine JL.op rfl (JO.call [] Tryz.call12 rfl (C_eqKernel y_21 y_9 hl_23) rfl (fun w hw => ⟨hw.seeRows 1 rfl, hw.seeRows 5 rfl⟩)) ?_
    rintro _ _ ⟨_, ⟨rfl, rfl⟩, rfl⟩
    refine JL.pure rfl (PO.not rfl) ?_
    refine JL.nil ?_
    refine JQ.seq ?_
    have h_27 : y_21.dat = y_9.dat := (by simp only [hy_5, hy_10, hy_16, hy_22])
    refine JC.condF (congrArg Value.bool (congrArg Bool.not (decide_eq_true h_27))) ?_
    refine JC.skip ?_
    refine JQ.seq ?_
    refine JC.seq ?_
    refine JC.seq ?_
    refine JC.regionA [bk b_26 42 [.slice y_21.a0 y_21.store.length y_21.c0, .slice y_21.a1 y_21.txs.length y_21.c1, .slice y_21.dk.a y_21.dk.l.length y_21.dk.c, str y_21.dk.jt, .int .i64 y_21.dk.js, .int .i64 y_21.seq, .int .i64 y_21.next, .int .i64 y_21.time, .slice y_21.a2 y_21.hist.length y_21.c2, .slice y_21.a3 y_21.seen.length y_21.c3, .bool y_21.room], Res.rows (rdsN y_21), bk b_20 42 [.slice y_15.a0 y_15.store.length y_15.c0, .slice y_15.a1 y_15.txs.length y_15.c1, .slice y_15.dk.a y_15.dk.l.length y_15.dk.c, str y_15.dk.jt, .int .i64 y_15.dk.js, .int .i64 y_15.seq, .int .i64 y_15.next, .int .i64 y_15.time, .slice y_15.a2 y_15.hist.length y_15.c2, .slice y_15.a3 y_15.seen.length y_15.c3, .bool y_15.room], Res.rows (rdsN y_15), bk b_14 42 [.slice y_9.a0 y_9.store.length y_9.c0, .slice y_9.a1 y_9.txs.length y_9.c1, .slice y_9.dk.a y_9.dk.l.length y_9.dk.c, str y_9.dk.jt, .int .i64 y_9.dk.js, .int .i64 y_9.seq, .int .i64 y_9.next, .int .i64 y_9.time, .slice y_9.a2 y_9.hist.length y_9.c2, .slice y_9.a3 y_9.seen.length y_9.c3, .bool y_9.room], Res.rows (rdsN y_9), Res.rows (rdsN y_4), bk b_1 32 [.slice k.a0 k.store.length k.c0, .slice k.a1 k.txs.length k.c1, .slice k.dk.a k.dk.l.length k.dk.c, str k.dk.jt, .int .i64 k.dk.js, .int .i64 k.seq, .int .i64 k.next, .int .i64 k.time, .slice k.a2 k.hist.length k.c2, .slice k.a3 k.seen.length k.c3, .bool k.room]] 1000 mixed (by simp) ?_
    refine JA.take 0 rfl (by kernel_rfl) (NP.th (NP.th NP.body)) (by kernel_rfl) (by kernel_rfl) (by kernel_rfl) rfl (LO.loadK 2 (vs := [.slice y_15.a0 y_15.store.length y_15.c0, .slice y_15.a1 y_15.txs.length y_15.c1, .slice y_15.dk.a y_15.dk.l.length y_15.dk.c, str y_15.dk.jt, .int .i64 y_15.dk.js, .int .i64 y_15.seq, .int .i64 y_15.next, .int .i64 y_15.time, .slice y_15.a2 y_15.hist.length y_15.c2, .slice y_15.a3 y_15.seen.length y_15.c3, .bool y_15.room]) rfl rfl Tryz.isAgg42 Tryz.sizeOf42 rfl rfl) ?_
    refine JA.take 1 rfl (by kernel_rfl) (NP.th (NP.th NP.body)) (by kernel_rfl) (by kernel_rfl) (by kernel_rfl) rfl (LO.loadK 7 (vs := [.slice k.a0 k.store.length k.c0, .slice k.a1 k.txs.length k.c1, .slice k.dk.a k.dk.l.length k.dk.c, str k.dk.jt, .int .i64 k.dk.js, .int .i64 k.seq, .int .i64 k.next, .int .i64 k.time, .slice k.a2 k.hist.length k.c2, .slice k.a3 k.seen.length k.c3, .bool k.room]) rfl rfl Tryz.isAgg32 Tryz.sizeOf32 rfl rfl) ?_
    refine JA.one (i := 2) (by kernel_rfl) ?_
    refine JX.op rfl rfl (JO.call [] Tryz.call10 rfl (C_toKernel k hl) rfl (fun w hw => hw.seeOutAE hpre nMA)) ?_
    rintro _ _ ⟨_, ⟨y_33, hy_34, rfl, rfl⟩, rfl⟩
    have hl_35 : y_33.dat.lim 1000000000 := by rw [hy_34]; exact hlB
    have hc_36 : y_33.dat.cnt ≤ 7340032 := by rw [hy_34]; exact hcB
    have hz_37 : y_33.cnt ≤ 10000000 := by rw [KX.cnt_dat]; omega
    refine ⟨by simp, ?_⟩
    refine JA.one (i := 3) (by kernel_rfl) ?_
    refine JX.op rfl rfl (JO.call [] Tryz.call12 rfl (C_eqKernel y_15 y_33 hl_17) rfl (fun w hw => ⟨hw.seeRows 4 rfl, hw.seeRows 0 rfl⟩)) ?_
    rintro _ _ ⟨_, ⟨rfl, rfl⟩, rfl⟩
    refine ⟨by simp, ?_⟩
    refine JA.takeP 4 rfl (by kernel_rfl) (NP.th (NP.th NP.body)) (by kernel_rfl) (by kernel_rfl) rfl (PO.not rfl) ?_
    refine JA.done (by kernel_rfl) ?_
    refine JQ.seq ?_
    have h_38 : y_15.dat = y_33.dat := (by simp only [hy_5, hy_10, hy_16, hy_22, hy_34])
    refine JC.condF (congrArg Value.bool (congrArg Bool.not (decide_eq_true h_38))) ?_
    refine JC.skip ?_
    refine JQ.seq ?_
    refine JC.seq ?_
    refine JC.region ?_
    refine JL.pure rfl (PO.assign (v := .int .i64 1) rfl) ?_
    refine JL.nil ?_
    refine JQ.seq ?_
    refine JC.seq ?_
    refine JC.region ?_
    refine JL.ld rfl (LO.loadK 3 (vs := [.slice y_15.a0 y_15.store.length y_15.c0, .slice y_15.a1 y_15.txs.length y_15.c1, .slice y_15.dk.a y_15.dk.l.length y_15.dk.c, str y_15.dk.jt, .int .i64 y_15.dk.js, .int .i64 y_15.seq, .int .i64 y_15.next, .int .i64 y_15.time, .slice y_15.a2 y_15.hist.length y_15.c2, .slice y_15.a3 y_15.seen.length y_15.c3, .bool y_15.room]) rfl rfl Tryz.isAgg42 Tryz.sizeOf42 rfl rfl) ?_
    refine JL.pure rfl (PO.move (v := .int .i64 1) rfl) ?_
    refine JL.op rfl (JO.call [4] Tryz.call13 rfl (C_markKernel y_15 1 (by omega) (by omega) hl_17) rfl (fun _ _ => trivial)) ?_
    rintro _ _ ⟨_, ⟨rfl, rfl⟩, rfl⟩
    refine JL.pure rfl (PO.assign (v := .int .i64 ((1 + y_15.cnt : Nat) : Int)) rfl) ?_
    refine JL.nil ?_
    refine JQ.seq ?_
    refine JC.seq ?_
    refine JC.seq ?_
    refine JC.region ?_
    refine JL.pure rfl (PO.move (v := .int .i64 ((1 + y_15.cnt : Nat) : Int)) rfl) ?_
    refine JL.pure rfl (PO.lss rfl rfl) ?_
    refine JL.pure rfl (PO.move (v := .bool (decide (((1 + y_15.cnt : Nat) : Int) < 0))) rfl) ?_
    have h_39 : ¬ (((1 + y_15.cnt : Nat) : Int) < 0) := (by omega)
    refine JL.guardOn rfl rfl rfl (congrArg Value.bool (decide_eq_false h_39)) (JO.ofLO (LO.loadK 2 (vs := [.slice y_21.a0 y_21.store.length y_21.c0, .slice y_21.a1 y_21.txs.length y_21.c1, .slice y_21.dk.a y_21.dk.l.length y_21.dk.c, str y_21.dk.jt, .int .i64 y_21.dk.js, .int .i64 y_21.seq, .int .i64 y_21.next, .int .i64 y_21.time, .slice y_21.a2 y_21.hist.length y_21.c2, .slice y_21.a3 y_21.seen.length y_21.c3, .bool y_21.room]) rfl rfl Tryz.isAgg42 Tryz.sizeOf42 rfl rfl)) ?_
    rintro _ _ ⟨rfl, rfl⟩
    refine JL.guardOn rfl rfl rfl (congrArg Value.bool (decide_eq_false h_39)) (JO.ofLO (LO.loadK 5 (vs := [.slice y_9.a0 y_9.store.length y_9.c0, .slice y_9.a1 y_9.txs.length y_9.c1, .slice y_9.dk.a y_9.dk.l.length y_9.dk.c, str y_9.dk.jt, .int .i64 y_9.dk.js, .int .i64 y_9.seq, .int .i64 y_9.next, .int .i64 y_9.time, .slice y_9.a2 y_9.hist.length y_9.c2, .slice y_9.a3 y_9.seen.length y_9.c3, .bool y_9.room]) rfl rfl Tryz.isAgg42 Tryz.sizeOf42 rfl rfl)) ?_
    rintro _ _ ⟨rfl, rfl⟩
    refine JL.guardOn rfl rfl rfl (congrArg Value.bool (decide_eq_false h_39)) (JO.call [] Tryz.call12 rfl (C_eqKernel y_21 y_9 hl_23) rfl (fun w hw => ⟨hw.seeRows 3 rfl, hw.seeRows 6 rfl⟩)) ?_
    rintro _ _ ⟨_, ⟨rfl, rfl⟩, rfl⟩
    refine JL.guardOn rfl rfl rfl (congrArg Value.bool (decide_eq_false h_39)) (JO.ofLO (LO.pure (PO.not rfl))) ?_
    rintro _ _ ⟨rfl, rfl⟩
    refine JL.pure rfl (PO.pickF (v := .bool (!(decide (y_21.dat = y_9.dat)))) (congrArg Value.bool (decide_eq_false h_39)) rfl) ?_
    refine JL.nil ?_
    refine JQ.seq ?_
    refine JC.condF (congrArg Value.bool (congrArg Bool.not (decide_eq_true h_27))) ?_
    refine JC.skip ?_
    refine JQ.seq ?_
    refine JC.seq ?_
    refine JC.region ?_
    refine JL.pure rfl (PO.assign (v := .int .i64 1) rfl) ?_
    refine JL.nil ?_
    refine JQ.seq ?_
    refine JC.seq ?_
    refine JC.region ?_
    refine JL.ld rfl (LO.loadK 2 (vs := [.slice y_21.a0 y_21.store.length y_21.c0, .slice y_21.a1 y_21.txs.length y_21.c1, .slice y_21.dk.a y_21.dk.l.length y_21.dk.c, str y_21.dk.jt, .int .i64 y_21.dk.js, .int .i64 y_21.seq, .int .i64 y_21.next, .int .i64 y_21.time, .slice y_21.a2 y_21.hist.length y_21.c2, .slice y_21.a3 y_21.seen.length y_21.c3, .bool y_21.room]) rfl rfl Tryz.isAgg42 Tryz.sizeOf42 rfl rfl) ?_
    refine JL.pure rfl (PO.move (v := .int .i64 1) rfl) ?_
    refine JL.op rfl (JO.call [3] Tryz.call13 rfl (C_markKernel y_21 1 (by omega) (by omega) hl_23) rfl (fun _ _ => trivial)) ?_
    rintro _ _ ⟨_, ⟨rfl, rfl⟩, rfl⟩
    refine JL.pure rfl (PO.assign (v := .int .i64 ((1 + y_21.cnt : Nat) : Int)) rfl) ?_
    refine JL.nil ?_
    refine JQ.seq ?_
    refine JC.seq ?_
    refine JC.region ?_
    refine JL.pure rfl (PO.assign (v := .int .i64 1) rfl) ?_
    refine JL.nil ?_
    refine JQ.seq ?_
    refine JC.seq ?_
    refine JC.region ?_
    refine JL.ld rfl (LO.loadK 3 (vs := [.slice y_21.a0 y_21.store.length y_21.c0, .slice y_21.a1 y_21.txs.length y_21.c1, .slice y_21.dk.a y_21.dk.l.length y_21.dk.c, str y_21.dk.jt, .int .i64 y_21.dk.js, .int .i64 y_21.seq, .int .i64 y_21.next, .int .i64 y_21.time, .slice y_21.a2 y_21.hist.length y_21.c2, .slice y_21.a3 y_21.seen.length y_21.c3, .bool y_21.room]) rfl rfl Tryz.isAgg42 Tryz.sizeOf42 rfl rfl) ?_
    refine JL.pure rfl (PO.move (v := .int .i64 1) rfl) ?_
    refine JL.op rfl (JO.call [] Tryz.call14 rfl (C_heldKernel y_21 1 (by omega) (by omega) hl_23) rfl (fun w hw => hw.seeRows 0 rfl)) ?_
    rintro _ _ ⟨_, ⟨rfl, rfl⟩, rfl⟩
    refine JL.pure rfl (PO.assign (v := .int .i64 ((1 + y_21.cnt : Nat) : Int)) rfl) ?_
    refine JL.nil ?_
    refine JQ.seq ?_
    refine JC.seq ?_
    refine JC.seq ?_
    refine JC.region ?_
    refine JL.pure rfl (PO.move (v := .int .i64 ((1 + y_21.cnt : Nat) : Int)) rfl) ?_
    refine JL.pure rfl (PO.lss rfl rfl) ?_
    refine JL.nil ?_
    refine JQ.seq ?_
    have h_40 : ¬ (((1 + y_21.cnt : Nat) : Int) < 0) := (by omega)
    refine JC.condF (congrArg Value.bool (decide_eq_false h_40)) ?_
    refine JC.skip ?_
    refine JQ.seq ?_
    refine JC.seq ?_
    refine JC.seq ?_
    refine JC.region ?_
    refine JL.pure rfl (PO.move (v := .int .i64 ((1 + y_21.cnt : Nat) : Int)) rfl) ?_
    refine JL.pure rfl (PO.move (v := .int .i64 ((1 + y_21.cnt : Nat) : Int)) rfl) ?_
    refine JL.pure rfl (PO.neqI rfl rfl) ?_
    refine JL.nil ?_
    refine JQ.seq ?_
    refine JC.condF (congrArg Value.bool (congrArg Bool.not (decide_eq_true rfl))) ?_
    refine JC.skip ?_
    refine JQ.seq ?_
    refine JC.seq ?_
    refine JC.region ?_
    refine JL.ld rfl (LO.loadK 8 (vs := [.slice k.a0 k.store.length k.c0, .slice k.a1 k.txs.length k.c1, .slice k.dk.a k.dk.l.length k.dk.c, str k.dk.jt, .int .i64 k.dk.js, .int .i64 k.seq, .int .i64 k.next, .int .i64 k.time, .slice k.a2 k.hist.length k.c2, .slice k.a3 k.seen.length k.c3, .bool k.room]) rfl rfl Tryz.isAgg32 Tryz.sizeOf32 rfl rfl) ?_
    refine JL.op rfl (JO.call [] Tryz.call10 rfl (C_toKernel k hl) rfl (fun w hw => hw.seeOutAE hpre nMA)) ?_
    rintro _ _ ⟨_, ⟨y_41, hy_42, rfl, rfl⟩, rfl⟩
    have hl_43 : y_41.dat.lim 1000000000 := by rw [hy_42]; exact hlB
    have hc_44 : y_41.dat.cnt ≤ 7340032 := by rw [hy_42]; exact hcB
    have hz_45 : y_41.cnt ≤ 10000000 := by rw [KX.cnt_dat]; omega
    refine JL.op rfl (JO.call [] Tryz.call11 rfl (Z_implHour y_41 hl_43) rfl (fun w hw => hw.seeRows 0 rfl)) ?_
    rintro _ _ ⟨_, ⟨y_46, hy_47, rfl, rfl⟩, rfl⟩
    have hl_48 : y_46.dat.lim 1000000000 := by rw [hy_47]; exact KD.hour_lim hl_43
    have hc_49 : y_46.dat.cnt ≤ 7340032 := by rw [hy_47]; exact hc_44
    have hz_50 : y_46.cnt ≤ 10000000 := by rw [KX.cnt_dat]; omega
    refine JL.op rfl (JO.alloc (z := .agg #[.slice none 0 0, .slice none 0 0, .slice none 0 0, str [], .int .i64 0, .int .i64 0, .int .i64 0, .int .i64 0, .slice none 0 0, .slice none 0 0, .bool false]) (cs := [.slice none 0 0, .slice none 0 0, .slice none 0 0, str [], .int .i64 0, .int .i64 0, .int .i64 0, .int .i64 0, .slice none 0 0, .slice none 0 0, .bool false]) Tryz.zeroValue42 rfl) ?_
    rintro _ _ ⟨b_51, rfl, rfl⟩
    refine JL.op rfl (JO.store 0 (vs := [.slice y_46.a0 y_46.store.length y_46.c0, .slice y_46.a1 y_46.txs.length y_46.c1, .slice y_46.dk.a y_46.dk.l.length y_46.dk.c, str y_46.dk.jt, .int .i64 y_46.dk.js, .int .i64 y_46.seq, .int .i64 y_46.next, .int .i64 y_46.time, .slice y_46.a2 y_46.hist.length y_46.c2, .slice y_46.a3 y_46.seen.length y_46.c3, .bool y_46.room]) (cs' := [.slice y_46.a0 y_46.store.length y_46.c0, .slice y_46.a1 y_46.txs.length y_46.c1, .slice y_46.dk.a y_46.dk.l.length y_46.dk.c, str y_46.dk.jt, .int .i64 y_46.dk.js, .int .i64 y_46.seq, .int .i64 y_46.next, .int .i64 y_46.time, .slice y_46.a2 y_46.hist.length y_46.c2, .slice y_46.a3 y_46.seen.length y_46.c3, .bool y_46.room]) rfl rfl rfl rfl Tryz.sizeOf42 rfl rfl (Nat.le_of_ble_eq_true rfl) rfl) ?_
    rintro _ _ rfl
    refine JL.nil ?_
    refine JQ.seq ?_
    refine JC.seq ?_
    refine JC.seq ?_
    refine JC.region ?_
    refine JL.ld rfl (LO.loadK 0 (vs := [.slice y_46.a0 y_46.store.length y_46.c0, .slice y_46.a1 y_46.txs.length y_46.c1, .slice y_46.dk.a y_46.dk.l.length y_46.dk.c, str y_46.dk.jt, .int .i64 y_46.dk.js, .int .i64 y_46.seq, .int .i64 y_46.next, .int .i64 y_46.time, .slice y_46.a2 y_46.hist.length y_46.c2, .slice y_46.a3 y_46.seen.length y_46.c3, .bool y_46.room]) rfl rfl Tryz.isAgg42 Tryz.sizeOf42 rfl rfl) ?_
    refine JL.ld rfl (LO.loadK 8 (vs := [.slice y_9.a0 y_9.store.length y_9.c0, .slice y_9.a1 y_9.txs.length y_9.c1, .slice y_9.dk.a y_9.dk.l.length y_9.dk.c, str y_9.dk.jt, .int .i64 y_9.dk.js, .int .i64 y_9.seq, .int .i64 y_9.next, .int .i64 y_9.time, .slice y_9.a2 y_9.hist.length y_9.c2, .slice y_9.a3 y_9.seen.length y_9.c3, .bool y_9.room]) rfl rfl Tryz.isAgg42 Tryz.sizeOf42 rfl rfl) ?_
    refine JL.op rfl (JO.call [] Tryz.call12 rfl (C_eqKernel y_46 y_9 hl_48) rfl (fun w hw => ⟨hw.seeRows 1 rfl, hw.seeRows 9 rfl⟩)) ?_
    rintro _ _ ⟨_, ⟨rfl, rfl⟩, rfl⟩
    refine JL.pure rfl (PO.not rfl) ?_
    refine JL.nil ?_
    refine JQ.seq ?_
    have h_52 : y_46.dat = y_9.dat := (by simp only [hy_5, hy_10, hy_16, hy_22, hy_34, hy_42, hy_47])
    refine JC.condF (congrArg Value.bool (congrArg Bool.not (decide_eq_true h_52))) ?_
    refine JC.skip ?_
    refine JQ.seq ?_
    refine JC.seq ?_
    refine JC.region ?_
    refine JL.pure rfl (PO.assign (v := .int .i64 1) rfl) ?_
    refine JL.nil ?_
    refine JQ.seq ?_
    refine JC.seq ?_
    refine JC.region ?_
    refine JL.ld rfl (LO.loadK 6 (vs := [.slice y_21.a0 y_21.store.length y_21.c0, .slice y_21.a1 y_21.txs.length y_21.c1, .slice y_21.dk.a y_21.dk.l.length y_21.dk.c, str y_21.dk.jt, .int .i64 y_21.dk.js, .int .i64 y_21.seq, .int .i64 y_21.next, .int .i64 y_21.time, .slice y_21.a2 y_21.hist.length y_21.c2, .slice y_21.a3 y_21.seen.length y_21.c3, .bool y_21.room]) rfl rfl Tryz.isAgg42 Tryz.sizeOf42 rfl rfl) ?_
    refine JL.pure rfl (PO.move (v := .int .i64 1) rfl) ?_
    refine JL.op rfl (JO.call [] Tryz.call14 rfl (C_heldKernel y_21 1 (by omega) (by omega) hl_23) rfl (fun w hw => hw.seeRows 3 rfl)) ?_
    rintro _ _ ⟨_, ⟨rfl, rfl⟩, rfl⟩
    refine JL.pure rfl (PO.assign (v := .int .i64 ((1 + y_21.cnt : Nat) : Int)) rfl) ?_
    refine JL.nil ?_
    refine JQ.seq ?_
    refine JC.seq ?_
    refine JC.seq ?_
    refine JC.region ?_
    refine JL.pure rfl (PO.move (v := .int .i64 ((1 + y_21.cnt : Nat) : Int)) rfl) ?_
    refine JL.pure rfl (PO.lss rfl rfl) ?_
    refine JL.nil ?_
    refine JQ.seq ?_
    refine JC.condF (congrArg Value.bool (decide_eq_false h_40)) ?_
    refine JC.skip ?_
    refine JQ.seq ?_
    refine JC.seq ?_
    refine JC.seq ?_
    refine JC.region ?_
    refine JL.pure rfl (PO.move (v := .int .i64 ((1 + y_21.cnt : Nat) : Int)) rfl) ?_
    refine JL.pure rfl (PO.move (v := .int .i64 ((1 + y_21.cnt : Nat) : Int)) rfl) ?_
    refine JL.pure rfl (PO.neqI rfl rfl) ?_
    refine JL.nil ?_
    refine JQ.seq ?_
    refine JC.condF (congrArg Value.bool (congrArg Bool.not (decide_eq_true rfl))) ?_
    refine JC.skip ?_
    refine JQ.seq ?_
    refine JC.seq ?_
    refine JC.region ?_
    refine JL.pure rfl (PO.assign (v := .bool true) rfl) ?_
    refine JL.nil ?_
    refine JQ.seq ?_
    refine JC.ret ?_
    refine Done.one (.inl rfl) rfl (RV.tmp (v := .bool true) rfl) (List.nil_sublist _) ?_
    exact ⟨rfl, rfl⟩

end Go.Proofs.YtkmpmjficoohkaaGreat
