/-
  laws.FnExactBack walked: it returns true.
-/
import Derived.Test.YtkmpmjficoohkaaGreatS47KACT
set_option linter.unusedSimpArgs false
set_option linter.unusedVariables false
set_option linter.unnecessarySimpa false
namespace Go.Proofs.YtkmpmjficoohkaaGreat
open Go Go.RowKit
attribute [local irreducible] JL JC JQ JO LO PO JA JX Ct

set_option maxRecDepth 4000 in
set_option maxHeartbeats 2000000 in
theorem L_Back (k : KX) (hz : k.dat.okz) (id : Int) (h_id : -9223372036854775808 ≤ id ∧ id ≤ 9223372036854775807) (n : Int) (h_n : -9223372036854775808 ≤ n ∧ n ≤ 9223372036854775807) :
    Ct Tryz.prog 7 [.agg #[.slice k.a0 k.store.length k.c0, .slice k.a1 k.txs.length k.c1, .slice k.dk.a k.dk.l.length k.dk.c, str k.dk.jt, .int .i64 k.dk.js, .int .i64 k.seq, .int .i64 k.next, .int .i64 k.time, .slice k.a2 k.hist.length k.c2, .slice k.a3 k.seen.length k.c3, .bool k.room], .int .i64 id, .int .i64 n] [] (fun w => SeesAE w (rdsN k)) (fun v A' => v = .bool true ∧ A' = []) := by
  refine Ct.intro Tryz.func7 rfl Tryz.ntmps7 (lb rfl) fun w0 hpre => ?_
  refine jC <| jE ?_
  refine jH rfl (jm (cs := [.slice k.a0 k.store.length k.c0, .slice k.a1 k.txs.length k.c1, .slice k.dk.a k.dk.l.length k.dk.c, str k.dk.jt, iv k.dk.js, iv k.seq, iv k.next, iv k.time, .slice k.a2 k.hist.length k.c2, .slice k.a3 k.seen.length k.c3, .bool k.room]) rfl rfl) ?_
  rintro _ _ ⟨b_1, rfl, rfl⟩
  refine jA (jG (v := .bool false) rfl) <| jD <| jB <| jC <| jE <| jA (jG (v := iv 1048576) rfl) <| jD <| jB <| jC <| jE ?_
  refine jK (jg 0 (vs := [.slice k.a0 k.store.length k.c0, .slice k.a1 k.txs.length k.c1, .slice k.dk.a k.dk.l.length k.dk.c, str k.dk.jt, iv k.dk.js, iv k.seq, iv k.next, iv k.time, .slice k.a2 k.hist.length k.c2, .slice k.a3 k.seen.length k.c3, .bool k.room]) rfl rfl Tryz.isAgg32 Tryz.sizeOf32 rfl rfl) <| jA (jF (v := iv 1048576) rfl) ?_
  refine jH rfl (jU [] Tryz.call8 rfl (C_szKernel k 1048576 (by omega) (by omega) hz) rfl (fun w hw => hw.seeOutAE hpre nMA)) ?_
  rintro _ _ ⟨_, ⟨rfl, rfl⟩, rfl⟩
  have hle_2 := szKernelF_le k.dat 1048576 (by omega)
  refine jA (jG (v := iv (szKernelF k.dat 1048576)) rfl) <| jD <| jB <| jC <| jC <| jE <| jA (jF (v := iv (szKernelF k.dat 1048576)) rfl) <| jA (jc rfl rfl) <| jD <| jB ?_
  by_cases h_3 : (szKernelF k.dat 1048576) < 0
  · refine jS (cB (dT h_3)) <| jC <| jE <| jA (jG (v := .bool true) rfl) <| jD <| jB <| jJ <| jO <| jL (.inl rfl) rfl (jM (v := .bool true) rfl) (List.nil_sublist _) ?_
    exact ⟨rfl, rfl⟩
  obtain ⟨hl, hc, hjt⟩ := szKernelF_all (n := 1048576) (by omega) (by omega) h_3
  have hlB : k.dat.lim 1000000000 := hl.mono (by omega)
  have hcB : k.dat.cnt ≤ 7340032 := by omega
  refine jP (cB (dF h_3)) <| jQ <| jB <| jC <| jE <| jK (jg 0 (vs := [.slice k.a0 k.store.length k.c0, .slice k.a1 k.txs.length k.c1, .slice k.dk.a k.dk.l.length k.dk.c, str k.dk.jt, iv k.dk.js, iv k.seq, iv k.next, iv k.time, .slice k.a2 k.hist.length k.c2, .slice k.a3 k.seen.length k.c3, .bool k.room]) rfl rfl Tryz.isAgg32 Tryz.sizeOf32 rfl rfl) ?_
  refine jH rfl (jU [] Tryz.call10 rfl (C_toKernel k hl) rfl (fun w hw => hw.seeOutAE hpre nMA)) ?_
  rintro _ _ ⟨_, ⟨y_4, hy_5, rfl, rfl⟩, rfl⟩
  have hzy_6 : y_4.dat.okz := KX.okz_eq hy_5 hz
  have hl_7 : y_4.dat.lim 1000000000 := by rw [hy_5]; exact hlB
  have hc_8 : y_4.dat.cnt ≤ 7340032 := by rw [hy_5]; exact hcB
  have hz_9 : y_4.cnt ≤ 7340032 := by rw [KX.cnt_dat]; omega
  refine jA (jF (v := iv id) rfl) <| jA (jF (v := iv n) rfl) ?_
  refine jH rfl (jU [] Tryz.call25 rfl (Y_specBack y_4 hzy_6 hl_7 id n (by omega)) rfl (fun w hw => hw.seeRows 0 rfl)) ?_
  rintro _ _ ⟨_, ⟨y_10, hy_11, rfl, rfl⟩, rfl⟩
  have hl_12 : y_10.dat.lim 1000000000 := by rw [hy_11]; exact (KD.act_lim hl_7 (fun _ h_ => TD.back_lim h_))
  have hc_13 : y_10.dat.cnt ≤ 7340032 + (7340032 + 10) := by rw [hy_11]; exact (Nat.le_trans (KD.act_cnt (TD.back_cnt _)) (Nat.add_le_add hc_8 (Nat.add_le_add hc_8 (Nat.le_refl 10))))
  have hz_14 : y_10.cnt ≤ 7340032 + (7340032 + 10) := by rw [KX.cnt_dat]; omega
  refine jA (jF (v := .tuple #[.agg #[.slice y_10.a0 y_10.store.length y_10.c0, .slice y_10.a1 y_10.txs.length y_10.c1, .slice y_10.dk.a y_10.dk.l.length y_10.dk.c, str y_10.dk.jt, iv y_10.dk.js, iv y_10.seq, iv y_10.next, iv y_10.time, .slice y_10.a2 y_10.hist.length y_10.c2, .slice y_10.a3 y_10.seen.length y_10.c3, .bool y_10.room], .bool ((y_4.dat.backK id n).2)]) rfl) <| jA (PO.extract (v := .agg #[.slice y_10.a0 y_10.store.length y_10.c0, .slice y_10.a1 y_10.txs.length y_10.c1, .slice y_10.dk.a y_10.dk.l.length y_10.dk.c, str y_10.dk.jt, iv y_10.dk.js, iv y_10.seq, iv y_10.next, iv y_10.time, .slice y_10.a2 y_10.hist.length y_10.c2, .slice y_10.a3 y_10.seen.length y_10.c3, .bool y_10.room]) rfl rfl) <| jA (PO.extract (v := .bool ((y_4.dat.backK id n).2)) rfl rfl) ?_
  refine jH rfl (kB (z := .agg #[.slice none 0 0, .slice none 0 0, .slice none 0 0, str [], iv 0, iv 0, iv 0, iv 0, .slice none 0 0, .slice none 0 0, .bool false]) (cs := [.slice none 0 0, .slice none 0 0, .slice none 0 0, str [], iv 0, iv 0, iv 0, iv 0, .slice none 0 0, .slice none 0 0, .bool false]) Tryz.zeroValue42 rfl) ?_
  rintro _ _ ⟨b_15, rfl, rfl⟩
  refine jH rfl (jd 0 (vs := [.slice y_10.a0 y_10.store.length y_10.c0, .slice y_10.a1 y_10.txs.length y_10.c1, .slice y_10.dk.a y_10.dk.l.length y_10.dk.c, str y_10.dk.jt, iv y_10.dk.js, iv y_10.seq, iv y_10.next, iv y_10.time, .slice y_10.a2 y_10.hist.length y_10.c2, .slice y_10.a3 y_10.seen.length y_10.c3, .bool y_10.room]) (cs' := [.slice y_10.a0 y_10.store.length y_10.c0, .slice y_10.a1 y_10.txs.length y_10.c1, .slice y_10.dk.a y_10.dk.l.length y_10.dk.c, str y_10.dk.jt, iv y_10.dk.js, iv y_10.seq, iv y_10.next, iv y_10.time, .slice y_10.a2 y_10.hist.length y_10.c2, .slice y_10.a3 y_10.seen.length y_10.c3, .bool y_10.room]) rfl rfl rfl rfl kX rfl rfl (lb rfl) rfl) ?_
  rintro _ _ rfl
  refine jA (jG (v := .bool ((y_4.dat.backK id n).2)) rfl) <| jD <| jB <| jC <| jE <| jK (jg 3 (vs := [.slice k.a0 k.store.length k.c0, .slice k.a1 k.txs.length k.c1, .slice k.dk.a k.dk.l.length k.dk.c, str k.dk.jt, iv k.dk.js, iv k.seq, iv k.next, iv k.time, .slice k.a2 k.hist.length k.c2, .slice k.a3 k.seen.length k.c3, .bool k.room]) rfl rfl Tryz.isAgg32 Tryz.sizeOf32 rfl rfl) ?_
  refine jH rfl (jU [] Tryz.call10 rfl (C_toKernel k hl) rfl (fun w hw => hw.seeOutAE hpre nMA)) ?_
  rintro _ _ ⟨_, ⟨y_16, hy_17, rfl, rfl⟩, rfl⟩
  have hzy_18 : y_16.dat.okz := KX.okz_eq hy_17 hz
  have hl_19 : y_16.dat.lim 1000000000 := by rw [hy_17]; exact hlB
  have hc_20 : y_16.dat.cnt ≤ 7340032 := by rw [hy_17]; exact hcB
  have hz_21 : y_16.cnt ≤ 7340032 := by rw [KX.cnt_dat]; omega
  refine jH rfl (kB (z := .agg #[.slice none 0 0, .slice none 0 0, .slice none 0 0, str [], iv 0, iv 0, iv 0, iv 0, .slice none 0 0, .slice none 0 0, .bool false]) (cs := [.slice none 0 0, .slice none 0 0, .slice none 0 0, str [], iv 0, iv 0, iv 0, iv 0, .slice none 0 0, .slice none 0 0, .bool false]) Tryz.zeroValue42 rfl) ?_
  rintro _ _ ⟨b_22, rfl, rfl⟩
  refine jH rfl (jd 0 (vs := [.slice y_16.a0 y_16.store.length y_16.c0, .slice y_16.a1 y_16.txs.length y_16.c1, .slice y_16.dk.a y_16.dk.l.length y_16.dk.c, str y_16.dk.jt, iv y_16.dk.js, iv y_16.seq, iv y_16.next, iv y_16.time, .slice y_16.a2 y_16.hist.length y_16.c2, .slice y_16.a3 y_16.seen.length y_16.c3, .bool y_16.room]) (cs' := [.slice y_16.a0 y_16.store.length y_16.c0, .slice y_16.a1 y_16.txs.length y_16.c1, .slice y_16.dk.a y_16.dk.l.length y_16.dk.c, str y_16.dk.jt, iv y_16.dk.js, iv y_16.seq, iv y_16.next, iv y_16.time, .slice y_16.a2 y_16.hist.length y_16.c2, .slice y_16.a3 y_16.seen.length y_16.c3, .bool y_16.room]) rfl rfl rfl rfl kX rfl rfl (lb rfl) rfl) ?_
  rintro _ _ rfl
  refine jD <| jB <| jC <| jE <| jK (jg 0 (vs := [.slice y_16.a0 y_16.store.length y_16.c0, .slice y_16.a1 y_16.txs.length y_16.c1, .slice y_16.dk.a y_16.dk.l.length y_16.dk.c, str y_16.dk.jt, iv y_16.dk.js, iv y_16.seq, iv y_16.next, iv y_16.time, .slice y_16.a2 y_16.hist.length y_16.c2, .slice y_16.a3 y_16.seen.length y_16.c3, .bool y_16.room]) rfl rfl kj kX rfl rfl) <| jA (jF (v := iv id) rfl) <| jA (jF (v := iv n) rfl) ?_
  refine jH rfl (jU [] Tryz.call26 rfl (Y_implBack y_16 hzy_18 hl_19 id n (by omega)) rfl (fun w hw => hw.seeRows 1 rfl)) ?_
  rintro _ _ ⟨_, ⟨y_23, hy_24, rfl, rfl⟩, rfl⟩
  have hl_25 : y_23.dat.lim 1000000000 := by rw [hy_24]; exact (KD.act_lim hl_19 (fun _ h_ => TD.back_lim h_))
  have hc_26 : y_23.dat.cnt ≤ 7340032 + (7340032 + 10) := by rw [hy_24]; exact (Nat.le_trans (KD.act_cnt (TD.back_cnt _)) (Nat.add_le_add hc_20 (Nat.add_le_add hc_20 (Nat.le_refl 10))))
  have hz_27 : y_23.cnt ≤ 7340032 + (7340032 + 10) := by rw [KX.cnt_dat]; omega
  refine jA (jF (v := .tuple #[.agg #[.slice y_23.a0 y_23.store.length y_23.c0, .slice y_23.a1 y_23.txs.length y_23.c1, .slice y_23.dk.a y_23.dk.l.length y_23.dk.c, str y_23.dk.jt, iv y_23.dk.js, iv y_23.seq, iv y_23.next, iv y_23.time, .slice y_23.a2 y_23.hist.length y_23.c2, .slice y_23.a3 y_23.seen.length y_23.c3, .bool y_23.room], .bool ((y_16.dat.backK id n).2)]) rfl) <| jA (PO.extract (v := .agg #[.slice y_23.a0 y_23.store.length y_23.c0, .slice y_23.a1 y_23.txs.length y_23.c1, .slice y_23.dk.a y_23.dk.l.length y_23.dk.c, str y_23.dk.jt, iv y_23.dk.js, iv y_23.seq, iv y_23.next, iv y_23.time, .slice y_23.a2 y_23.hist.length y_23.c2, .slice y_23.a3 y_23.seen.length y_23.c3, .bool y_23.room]) rfl rfl) <| jA (PO.extract (v := .bool ((y_16.dat.backK id n).2)) rfl rfl) ?_
  refine jH rfl (kB (z := .agg #[.slice none 0 0, .slice none 0 0, .slice none 0 0, str [], iv 0, iv 0, iv 0, iv 0, .slice none 0 0, .slice none 0 0, .bool false]) (cs := [.slice none 0 0, .slice none 0 0, .slice none 0 0, str [], iv 0, iv 0, iv 0, iv 0, .slice none 0 0, .slice none 0 0, .bool false]) Tryz.zeroValue42 rfl) ?_
  rintro _ _ ⟨b_28, rfl, rfl⟩
  refine jH rfl (jd 0 (vs := [.slice y_23.a0 y_23.store.length y_23.c0, .slice y_23.a1 y_23.txs.length y_23.c1, .slice y_23.dk.a y_23.dk.l.length y_23.dk.c, str y_23.dk.jt, iv y_23.dk.js, iv y_23.seq, iv y_23.next, iv y_23.time, .slice y_23.a2 y_23.hist.length y_23.c2, .slice y_23.a3 y_23.seen.length y_23.c3, .bool y_23.room]) (cs' := [.slice y_23.a0 y_23.store.length y_23.c0, .slice y_23.a1 y_23.txs.length y_23.c1, .slice y_23.dk.a y_23.dk.l.length y_23.dk.c, str y_23.dk.jt, iv y_23.dk.js, iv y_23.seq, iv y_23.next, iv y_23.time, .slice y_23.a2 y_23.hist.length y_23.c2, .slice y_23.a3 y_23.seen.length y_23.c3, .bool y_23.room]) rfl rfl rfl rfl kX rfl rfl (lb rfl) rfl) ?_
  rintro _ _ rfl
  refine jA (jG (v := .bool ((y_16.dat.backK id n).2)) rfl) <| jD <| jB <| jC <| jC <| jE <| jK (jg 0 (vs := [.slice y_23.a0 y_23.store.length y_23.c0, .slice y_23.a1 y_23.txs.length y_23.c1, .slice y_23.dk.a y_23.dk.l.length y_23.dk.c, str y_23.dk.jt, iv y_23.dk.js, iv y_23.seq, iv y_23.next, iv y_23.time, .slice y_23.a2 y_23.hist.length y_23.c2, .slice y_23.a3 y_23.seen.length y_23.c3, .bool y_23.room]) rfl rfl kj kX rfl rfl) <| jK (jg 4 (vs := [.slice y_10.a0 y_10.store.length y_10.c0, .slice y_10.a1 y_10.txs.length y_10.c1, .slice y_10.dk.a y_10.dk.l.length y_10.dk.c, str y_10.dk.jt, iv y_10.dk.js, iv y_10.seq, iv y_10.next, iv y_10.time, .slice y_10.a2 y_10.hist.length y_10.c2, .slice y_10.a3 y_10.seen.length y_10.c3, .bool y_10.room]) rfl rfl kj kX rfl rfl) ?_
  refine jH rfl (jU [] Tryz.call12 rfl (C_eqKernel y_23 y_10 hl_25) rfl (fun w hw => ⟨hw.seeRows 1 rfl, hw.seeRows 5 rfl⟩)) ?_
  rintro _ _ ⟨_, ⟨rfl, rfl⟩, rfl⟩
  refine jA (kE rfl) <| jA (jF (v := .bool (!(decide (y_23.dat = y_10.dat)))) rfl) ?_
  have h_29 : y_23.dat = y_10.dat := (by simp only [hy_5, hy_11, hy_17, hy_24])
  refine jW rfl rfl rfl (cB (cN (dT h_29))) (jY (jh (jF (v := .bool ((y_16.dat.backK id n).2)) rfl))) ?_
  rintro _ _ ⟨rfl, rfl⟩
  refine jW rfl rfl rfl (cB (cN (dT h_29))) (jY (jh (jF (v := .bool ((y_4.dat.backK id n).2)) rfl))) ?_
  rintro _ _ ⟨rfl, rfl⟩
  refine jW rfl rfl rfl (cB (cN (dT h_29))) (jY (jh (PO.neqB Tryz.underlying4 rfl rfl))) ?_
  rintro _ _ ⟨rfl, rfl⟩
  refine jA (jx (v := .bool (!(decide (((y_16.dat.backK id n).2) = ((y_4.dat.backK id n).2))))) (cB (cN (dT h_29))) rfl) <| jD <| jB ?_
  have h_30 : ((y_16.dat.backK id n).2) = ((y_4.dat.backK id n).2) := (by simp only [hy_5, hy_11, hy_17, hy_24])
  refine jP (cB (cN (dT h_30))) <| jQ <| jB <| jC <| jC <| kG [bk b_28 42 [.slice y_23.a0 y_23.store.length y_23.c0, .slice y_23.a1 y_23.txs.length y_23.c1, .slice y_23.dk.a y_23.dk.l.length y_23.dk.c, str y_23.dk.jt, iv y_23.dk.js, iv y_23.seq, iv y_23.next, iv y_23.time, .slice y_23.a2 y_23.hist.length y_23.c2, .slice y_23.a3 y_23.seen.length y_23.c3, .bool y_23.room], Res.rows (rdsN y_23), bk b_22 42 [.slice y_16.a0 y_16.store.length y_16.c0, .slice y_16.a1 y_16.txs.length y_16.c1, .slice y_16.dk.a y_16.dk.l.length y_16.dk.c, str y_16.dk.jt, iv y_16.dk.js, iv y_16.seq, iv y_16.next, iv y_16.time, .slice y_16.a2 y_16.hist.length y_16.c2, .slice y_16.a3 y_16.seen.length y_16.c3, .bool y_16.room], Res.rows (rdsN y_16), bk b_15 42 [.slice y_10.a0 y_10.store.length y_10.c0, .slice y_10.a1 y_10.txs.length y_10.c1, .slice y_10.dk.a y_10.dk.l.length y_10.dk.c, str y_10.dk.jt, iv y_10.dk.js, iv y_10.seq, iv y_10.next, iv y_10.time, .slice y_10.a2 y_10.hist.length y_10.c2, .slice y_10.a3 y_10.seen.length y_10.c3, .bool y_10.room], Res.rows (rdsN y_10), Res.rows (rdsN y_4), bk b_1 32 [.slice k.a0 k.store.length k.c0, .slice k.a1 k.txs.length k.c1, .slice k.dk.a k.dk.l.length k.dk.c, str k.dk.jt, iv k.dk.js, iv k.seq, iv k.next, iv k.time, .slice k.a2 k.hist.length k.c2, .slice k.a3 k.seen.length k.c3, .bool k.room]] 1000 mixed (by simp) <| jw 0 rfl (jg 2 (vs := [.slice y_16.a0 y_16.store.length y_16.c0, .slice y_16.a1 y_16.txs.length y_16.c1, .slice y_16.dk.a y_16.dk.l.length y_16.dk.c, str y_16.dk.jt, iv y_16.dk.js, iv y_16.seq, iv y_16.next, iv y_16.time, .slice y_16.a2 y_16.hist.length y_16.c2, .slice y_16.a3 y_16.seen.length y_16.c3, .bool y_16.room]) rfl rfl kj kX rfl rfl) <| jw 1 rfl (jg 7 (vs := [.slice k.a0 k.store.length k.c0, .slice k.a1 k.txs.length k.c1, .slice k.dk.a k.dk.l.length k.dk.c, str k.dk.jt, iv k.dk.js, iv k.seq, iv k.next, iv k.time, .slice k.a2 k.hist.length k.c2, .slice k.a3 k.seen.length k.c3, .bool k.room]) rfl rfl Tryz.isAgg32 Tryz.sizeOf32 rfl rfl) <| jq (i := 2) ?_
  refine kA rfl rfl (jU [] Tryz.call10 rfl (C_toKernel k hl) rfl (fun w hw => hw.seeOutAE hpre nMA)) ?_
  rintro _ _ ⟨_, ⟨y_37, hy_38, rfl, rfl⟩, rfl⟩
  have hzy_39 : y_37.dat.okz := KX.okz_eq hy_38 hz
  have hl_40 : y_37.dat.lim 1000000000 := by rw [hy_38]; exact hlB
  have hc_41 : y_37.dat.cnt ≤ 7340032 := by rw [hy_38]; exact hcB
  have hz_42 : y_37.cnt ≤ 7340032 := by rw [KX.cnt_dat]; omega
  refine ⟨by simp, ?_⟩
  refine jq (i := 3) ?_
  refine kA rfl rfl (jU [] Tryz.call12 rfl (C_eqKernel y_16 y_37 hl_19) rfl (fun w hw => ⟨hw.seeRows 4 rfl, hw.seeRows 0 rfl⟩)) ?_
  rintro _ _ ⟨_, ⟨rfl, rfl⟩, rfl⟩
  refine ⟨by simp, ?_⟩
  refine jT 4 rfl (kE rfl) <| kH (by kernel_rfl) <| jB ?_
  have h_43 : y_16.dat = y_37.dat := (by simp only [hy_5, hy_11, hy_17, hy_24, hy_38])
  refine jP (cB (cN (dT h_43))) <| jQ <| jB <| jC <| jE <| jA (jG (v := iv 1) rfl) <| jD <| jB <| jC <| jE ?_
  refine jK (jg 3 (vs := [.slice y_16.a0 y_16.store.length y_16.c0, .slice y_16.a1 y_16.txs.length y_16.c1, .slice y_16.dk.a y_16.dk.l.length y_16.dk.c, str y_16.dk.jt, iv y_16.dk.js, iv y_16.seq, iv y_16.next, iv y_16.time, .slice y_16.a2 y_16.hist.length y_16.c2, .slice y_16.a3 y_16.seen.length y_16.c3, .bool y_16.room]) rfl rfl kj kX rfl rfl) <| jA (jF (v := iv 1) rfl) ?_
  refine jH rfl (jU [4] Tryz.call13 rfl (C_markKernel y_16 1 (by omega) (by omega) hl_19) rfl (fun _ _ => trivial)) ?_
  rintro _ _ ⟨_, ⟨rfl, rfl⟩, rfl⟩
  refine jA (jG (v := iv ((1 + y_16.cnt : Nat) : Int)) rfl) <| jD <| jB <| jC <| jC <| jE <| jA (jF (v := iv ((1 + y_16.cnt : Nat) : Int)) rfl) <| jA (jc rfl rfl) <| jA (jF (v := .bool (decide (((1 + y_16.cnt : Nat) : Int) < 0))) rfl) ?_
  have h_44 : ¬ (((1 + y_16.cnt : Nat) : Int) < 0) := (by omega)
  refine jW rfl rfl rfl (cB (dF h_44)) (jY (jg 2 (vs := [.slice y_23.a0 y_23.store.length y_23.c0, .slice y_23.a1 y_23.txs.length y_23.c1, .slice y_23.dk.a y_23.dk.l.length y_23.dk.c, str y_23.dk.jt, iv y_23.dk.js, iv y_23.seq, iv y_23.next, iv y_23.time, .slice y_23.a2 y_23.hist.length y_23.c2, .slice y_23.a3 y_23.seen.length y_23.c3, .bool y_23.room]) rfl rfl kj kX rfl rfl)) ?_
  rintro _ _ ⟨rfl, rfl⟩
  refine jW rfl rfl rfl (cB (dF h_44)) (jY (jg 5 (vs := [.slice y_10.a0 y_10.store.length y_10.c0, .slice y_10.a1 y_10.txs.length y_10.c1, .slice y_10.dk.a y_10.dk.l.length y_10.dk.c, str y_10.dk.jt, iv y_10.dk.js, iv y_10.seq, iv y_10.next, iv y_10.time, .slice y_10.a2 y_10.hist.length y_10.c2, .slice y_10.a3 y_10.seen.length y_10.c3, .bool y_10.room]) rfl rfl kj kX rfl rfl)) ?_
  rintro _ _ ⟨rfl, rfl⟩
  refine jW rfl rfl rfl (cB (dF h_44)) (jU [] Tryz.call12 rfl (C_eqKernel y_23 y_10 hl_25) rfl (fun w hw => ⟨hw.seeRows 3 rfl, hw.seeRows 6 rfl⟩)) ?_
  rintro _ _ ⟨_, ⟨rfl, rfl⟩, rfl⟩
  refine jW rfl rfl rfl (cB (dF h_44)) (jY (jh (kE rfl))) ?_
  rintro _ _ ⟨rfl, rfl⟩
  refine jA (jx (v := .bool (!(decide (y_23.dat = y_10.dat)))) (cB (dF h_44)) rfl) <| jA (jF (v := .bool (!(decide (y_23.dat = y_10.dat)))) rfl) <| jW rfl rfl rfl (cB (cN (dT h_29))) (jY (jh (jF (v := .bool ((y_16.dat.backK id n).2)) rfl))) ?_
  rintro _ _ ⟨rfl, rfl⟩
  refine jW rfl rfl rfl (cB (cN (dT h_29))) (jY (jh (jF (v := .bool ((y_4.dat.backK id n).2)) rfl))) ?_
  rintro _ _ ⟨rfl, rfl⟩
  refine jW rfl rfl rfl (cB (cN (dT h_29))) (jY (jh (PO.neqB Tryz.underlying4 rfl rfl))) ?_
  rintro _ _ ⟨rfl, rfl⟩
  refine jA (jx (v := .bool (!(decide (((y_16.dat.backK id n).2) = ((y_4.dat.backK id n).2))))) (cB (cN (dT h_29))) rfl) <| jD <| jB <| jP (cB (cN (dT h_30))) <| jQ <| jB <| jC <| jE <| jA (jG (v := iv 1) rfl) <| jD ?_
  refine jB <| jC <| jE <| jK (jg 2 (vs := [.slice y_23.a0 y_23.store.length y_23.c0, .slice y_23.a1 y_23.txs.length y_23.c1, .slice y_23.dk.a y_23.dk.l.length y_23.dk.c, str y_23.dk.jt, iv y_23.dk.js, iv y_23.seq, iv y_23.next, iv y_23.time, .slice y_23.a2 y_23.hist.length y_23.c2, .slice y_23.a3 y_23.seen.length y_23.c3, .bool y_23.room]) rfl rfl kj kX rfl rfl) <| jA (jF (v := iv 1) rfl) ?_
  refine jH rfl (jU [3] Tryz.call13 rfl (C_markKernel y_23 1 (by omega) (by omega) hl_25) rfl (fun _ _ => trivial)) ?_
  rintro _ _ ⟨_, ⟨rfl, rfl⟩, rfl⟩
  refine jA (jG (v := iv ((1 + y_23.cnt : Nat) : Int)) rfl) <| jD <| jB <| jC <| jE <| jA (jG (v := iv 1) rfl) <| jD <| jB <| jC <| jE ?_
  refine jK (jg 3 (vs := [.slice y_23.a0 y_23.store.length y_23.c0, .slice y_23.a1 y_23.txs.length y_23.c1, .slice y_23.dk.a y_23.dk.l.length y_23.dk.c, str y_23.dk.jt, iv y_23.dk.js, iv y_23.seq, iv y_23.next, iv y_23.time, .slice y_23.a2 y_23.hist.length y_23.c2, .slice y_23.a3 y_23.seen.length y_23.c3, .bool y_23.room]) rfl rfl kj kX rfl rfl) <| jA (jF (v := iv 1) rfl) ?_
  refine jH rfl (jU [] Tryz.call14 rfl (C_heldKernel y_23 1 (by omega) (by omega) hl_25) rfl (fun w hw => hw.seeRows 0 rfl)) ?_
  rintro _ _ ⟨_, ⟨rfl, rfl⟩, rfl⟩
  refine jA (jG (v := iv ((1 + y_23.cnt : Nat) : Int)) rfl) <| jD <| jB <| jC <| jC <| jE <| jA (jF (v := iv ((1 + y_23.cnt : Nat) : Int)) rfl) <| jA (jc rfl rfl) <| jD <| jB ?_
  have h_45 : ¬ (((1 + y_23.cnt : Nat) : Int) < 0) := (by omega)
  refine jP (cB (dF h_45)) <| jQ <| jB <| jC <| jC <| jE <| jA (jF (v := iv ((1 + y_23.cnt : Nat) : Int)) rfl) <| jA (jF (v := iv ((1 + y_23.cnt : Nat) : Int)) rfl) <| jA (jz rfl rfl) <| jD ?_
  refine jB <| jP (cB (cN (dT rfl))) <| jQ <| jB <| jC <| jE <| jK (jg 8 (vs := [.slice k.a0 k.store.length k.c0, .slice k.a1 k.txs.length k.c1, .slice k.dk.a k.dk.l.length k.dk.c, str k.dk.jt, iv k.dk.js, iv k.seq, iv k.next, iv k.time, .slice k.a2 k.hist.length k.c2, .slice k.a3 k.seen.length k.c3, .bool k.room]) rfl rfl Tryz.isAgg32 Tryz.sizeOf32 rfl rfl) ?_
  refine jH rfl (jU [] Tryz.call10 rfl (C_toKernel k hl) rfl (fun w hw => hw.seeOutAE hpre nMA)) ?_
  rintro _ _ ⟨_, ⟨y_46, hy_47, rfl, rfl⟩, rfl⟩
  have hzy_48 : y_46.dat.okz := KX.okz_eq hy_47 hz
  have hl_49 : y_46.dat.lim 1000000000 := by rw [hy_47]; exact hlB
  have hc_50 : y_46.dat.cnt ≤ 7340032 := by rw [hy_47]; exact hcB
  have hz_51 : y_46.cnt ≤ 7340032 := by rw [KX.cnt_dat]; omega
  refine jA (jF (v := iv id) rfl) <| jA (jF (v := iv n) rfl) ?_
  refine jH rfl (jU [] Tryz.call26 rfl (Y_implBack y_46 hzy_48 hl_49 id n (by omega)) rfl (fun w hw => hw.seeRows 0 rfl)) ?_
  rintro _ _ ⟨_, ⟨y_52, hy_53, rfl, rfl⟩, rfl⟩
  have hl_54 : y_52.dat.lim 1000000000 := by rw [hy_53]; exact (KD.act_lim hl_49 (fun _ h_ => TD.back_lim h_))
  have hc_55 : y_52.dat.cnt ≤ 7340032 + (7340032 + 10) := by rw [hy_53]; exact (Nat.le_trans (KD.act_cnt (TD.back_cnt _)) (Nat.add_le_add hc_50 (Nat.add_le_add hc_50 (Nat.le_refl 10))))
  have hz_56 : y_52.cnt ≤ 7340032 + (7340032 + 10) := by rw [KX.cnt_dat]; omega
  refine jA (jF (v := .tuple #[.agg #[.slice y_52.a0 y_52.store.length y_52.c0, .slice y_52.a1 y_52.txs.length y_52.c1, .slice y_52.dk.a y_52.dk.l.length y_52.dk.c, str y_52.dk.jt, iv y_52.dk.js, iv y_52.seq, iv y_52.next, iv y_52.time, .slice y_52.a2 y_52.hist.length y_52.c2, .slice y_52.a3 y_52.seen.length y_52.c3, .bool y_52.room], .bool ((y_46.dat.backK id n).2)]) rfl) <| jA (PO.extract (v := .agg #[.slice y_52.a0 y_52.store.length y_52.c0, .slice y_52.a1 y_52.txs.length y_52.c1, .slice y_52.dk.a y_52.dk.l.length y_52.dk.c, str y_52.dk.jt, iv y_52.dk.js, iv y_52.seq, iv y_52.next, iv y_52.time, .slice y_52.a2 y_52.hist.length y_52.c2, .slice y_52.a3 y_52.seen.length y_52.c3, .bool y_52.room]) rfl rfl) <| jA (PO.extract (v := .bool ((y_46.dat.backK id n).2)) rfl rfl) ?_
  refine jH rfl (kB (z := .agg #[.slice none 0 0, .slice none 0 0, .slice none 0 0, str [], iv 0, iv 0, iv 0, iv 0, .slice none 0 0, .slice none 0 0, .bool false]) (cs := [.slice none 0 0, .slice none 0 0, .slice none 0 0, str [], iv 0, iv 0, iv 0, iv 0, .slice none 0 0, .slice none 0 0, .bool false]) Tryz.zeroValue42 rfl) ?_
  rintro _ _ ⟨b_57, rfl, rfl⟩
  refine jH rfl (jd 0 (vs := [.slice y_52.a0 y_52.store.length y_52.c0, .slice y_52.a1 y_52.txs.length y_52.c1, .slice y_52.dk.a y_52.dk.l.length y_52.dk.c, str y_52.dk.jt, iv y_52.dk.js, iv y_52.seq, iv y_52.next, iv y_52.time, .slice y_52.a2 y_52.hist.length y_52.c2, .slice y_52.a3 y_52.seen.length y_52.c3, .bool y_52.room]) (cs' := [.slice y_52.a0 y_52.store.length y_52.c0, .slice y_52.a1 y_52.txs.length y_52.c1, .slice y_52.dk.a y_52.dk.l.length y_52.dk.c, str y_52.dk.jt, iv y_52.dk.js, iv y_52.seq, iv y_52.next, iv y_52.time, .slice y_52.a2 y_52.hist.length y_52.c2, .slice y_52.a3 y_52.seen.length y_52.c3, .bool y_52.room]) rfl rfl rfl rfl kX rfl rfl (lb rfl) rfl) ?_
  rintro _ _ rfl
  refine jA (jG (v := .bool ((y_46.dat.backK id n).2)) rfl) <| jD <| jB <| jC <| jC <| jE <| jK (jg 0 (vs := [.slice y_52.a0 y_52.store.length y_52.c0, .slice y_52.a1 y_52.txs.length y_52.c1, .slice y_52.dk.a y_52.dk.l.length y_52.dk.c, str y_52.dk.jt, iv y_52.dk.js, iv y_52.seq, iv y_52.next, iv y_52.time, .slice y_52.a2 y_52.hist.length y_52.c2, .slice y_52.a3 y_52.seen.length y_52.c3, .bool y_52.room]) rfl rfl kj kX rfl rfl) <| jK (jg 8 (vs := [.slice y_10.a0 y_10.store.length y_10.c0, .slice y_10.a1 y_10.txs.length y_10.c1, .slice y_10.dk.a y_10.dk.l.length y_10.dk.c, str y_10.dk.jt, iv y_10.dk.js, iv y_10.seq, iv y_10.next, iv y_10.time, .slice y_10.a2 y_10.hist.length y_10.c2, .slice y_10.a3 y_10.seen.length y_10.c3, .bool y_10.room]) rfl rfl kj kX rfl rfl) ?_
  refine jH rfl (jU [] Tryz.call12 rfl (C_eqKernel y_52 y_10 hl_54) rfl (fun w hw => ⟨hw.seeRows 1 rfl, hw.seeRows 9 rfl⟩)) ?_
  rintro _ _ ⟨_, ⟨rfl, rfl⟩, rfl⟩
  refine jA (kE rfl) <| jA (jF (v := .bool (!(decide (y_52.dat = y_10.dat)))) rfl) ?_
  have h_58 : y_52.dat = y_10.dat := (by simp only [hy_5, hy_11, hy_17, hy_24, hy_38, hy_47, hy_53])
  refine jW rfl rfl rfl (cB (cN (dT h_58))) (jY (jh (jF (v := .bool ((y_46.dat.backK id n).2)) rfl))) ?_
  rintro _ _ ⟨rfl, rfl⟩
  refine jW rfl rfl rfl (cB (cN (dT h_58))) (jY (jh (jF (v := .bool ((y_4.dat.backK id n).2)) rfl))) ?_
  rintro _ _ ⟨rfl, rfl⟩
  refine jW rfl rfl rfl (cB (cN (dT h_58))) (jY (jh (PO.neqB Tryz.underlying4 rfl rfl))) ?_
  rintro _ _ ⟨rfl, rfl⟩
  refine jA (jx (v := .bool (!(decide (((y_46.dat.backK id n).2) = ((y_4.dat.backK id n).2))))) (cB (cN (dT h_58))) rfl) <| jD <| jB ?_
  have h_59 : ((y_46.dat.backK id n).2) = ((y_4.dat.backK id n).2) := (by simp only [hy_5, hy_11, hy_17, hy_24, hy_38, hy_47, hy_53])
  refine jP (cB (cN (dT h_59))) <| jQ <| jB <| jC <| jE <| jA (jG (v := iv 1) rfl) <| jD <| jB <| jC <| jE ?_
  refine jK (jg 6 (vs := [.slice y_23.a0 y_23.store.length y_23.c0, .slice y_23.a1 y_23.txs.length y_23.c1, .slice y_23.dk.a y_23.dk.l.length y_23.dk.c, str y_23.dk.jt, iv y_23.dk.js, iv y_23.seq, iv y_23.next, iv y_23.time, .slice y_23.a2 y_23.hist.length y_23.c2, .slice y_23.a3 y_23.seen.length y_23.c3, .bool y_23.room]) rfl rfl kj kX rfl rfl) <| jA (jF (v := iv 1) rfl) ?_
  refine jH rfl (jU [] Tryz.call14 rfl (C_heldKernel y_23 1 (by omega) (by omega) hl_25) rfl (fun w hw => hw.seeRows 3 rfl)) ?_
  rintro _ _ ⟨_, ⟨rfl, rfl⟩, rfl⟩
  refine jA (jG (v := iv ((1 + y_23.cnt : Nat) : Int)) rfl) <| jD <| jB <| jC <| jC <| jE <| jA (jF (v := iv ((1 + y_23.cnt : Nat) : Int)) rfl) <| jA (jc rfl rfl) <| jD <| jB ?_
  refine jP (cB (dF h_45)) <| jQ <| jB <| jC <| jC <| jE <| jA (jF (v := iv ((1 + y_23.cnt : Nat) : Int)) rfl) <| jA (jF (v := iv ((1 + y_23.cnt : Nat) : Int)) rfl) <| jA (jz rfl rfl) <| jD ?_
  refine jB <| jP (cB (cN (dT rfl))) <| jQ <| jB <| jC <| jE <| jA (jG (v := .bool true) rfl) <| jD <| jB <| jJ ?_
  refine jL (.inl rfl) rfl (jM (v := .bool true) rfl) (List.nil_sublist _) ?_
  exact ⟨rfl, rfl⟩

end Go.Proofs.YtkmpmjficoohkaaGreat
