/-
  laws.FnExactWithTx walked: it returns true.
-/
import Derived.Test.YtkmpmjficoohkaaGreatS44KTX
set_option linter.unusedSimpArgs false
set_option linter.unusedVariables false
set_option linter.unnecessarySimpa false
namespace Go.Proofs.YtkmpmjficoohkaaGreat
open Go Go.RowKit
attribute [local irreducible] JL JC JQ JO LO PO JA JX Ct

set_option maxRecDepth 4000 in
set_option maxHeartbeats 2000000 in
theorem L_WithTx (k : KX) (hz : k.dat.okz) (p : TX) (hzp : p.t.okz) :
    Ct Tryz.prog 4 [.agg #[.slice k.a0 k.store.length k.c0, .slice k.a1 k.txs.length k.c1, .slice k.dk.a k.dk.l.length k.dk.c, str k.dk.jt, .int .i64 k.dk.js, .int .i64 k.seq, .int .i64 k.next, .int .i64 k.time, .slice k.a2 k.hist.length k.c2, .slice k.a3 k.seen.length k.c3, .bool k.room], .agg #[.int .i64 p.t.id, .int .i64 p.t.age, .int .i64 p.t.proc, .int .i64 p.t.began, .slice p.x.a0 p.t.calls.length p.x.c0, .slice p.x.a1 p.t.ans.length p.x.c1, .slice p.x.a2 p.t.rd.length p.x.c2, .slice p.x.a3 p.t.wr.length p.x.c3, .slice p.x.a4 p.t.marks.length p.x.c4, .int .i64 p.t.state]] [] (fun w => SeesAE w (rdsN k) ∧ SeesAE w (rdsX p)) (fun v A' => v = .bool true ∧ A' = []) := by
  refine Ct.intro Tryz.func4 rfl Tryz.ntmps4 (Nat.le_of_ble_eq_true rfl) fun w0 hpre => ?_
  refine JC.seq ?_
  refine JC.region ?_
  refine JL.op rfl (JO.box (cs := [.slice k.a0 k.store.length k.c0, .slice k.a1 k.txs.length k.c1, .slice k.dk.a k.dk.l.length k.dk.c, str k.dk.jt, .int .i64 k.dk.js, .int .i64 k.seq, .int .i64 k.next, .int .i64 k.time, .slice k.a2 k.hist.length k.c2, .slice k.a3 k.seen.length k.c3, .bool k.room]) rfl rfl) ?_
  rintro _ _ ⟨b_1, rfl, rfl⟩
  refine JL.op rfl (JO.box (cs := [.int .i64 p.t.id, .int .i64 p.t.age, .int .i64 p.t.proc, .int .i64 p.t.began, .slice p.x.a0 p.t.calls.length p.x.c0, .slice p.x.a1 p.t.ans.length p.x.c1, .slice p.x.a2 p.t.rd.length p.x.c2, .slice p.x.a3 p.t.wr.length p.x.c3, .slice p.x.a4 p.t.marks.length p.x.c4, .int .i64 p.t.state]) rfl rfl) ?_
  rintro _ _ ⟨b_2, rfl, rfl⟩
  refine JL.pure rfl (PO.assign (v := .bool false) rfl) ?_
  refine JL.nil ?_
  refine JQ.seq ?_
  refine JC.seq ?_
  refine JC.region ?_
  refine JL.pure rfl (PO.assign (v := .int .i64 1048576) rfl) ?_
  refine JL.nil ?_
  refine JQ.seq ?_
  refine JC.seq ?_
  refine JC.region ?_
  refine JL.ld rfl (LO.loadK 1 (vs := [.slice k.a0 k.store.length k.c0, .slice k.a1 k.txs.length k.c1, .slice k.dk.a k.dk.l.length k.dk.c, str k.dk.jt, .int .i64 k.dk.js, .int .i64 k.seq, .int .i64 k.next, .int .i64 k.time, .slice k.a2 k.hist.length k.c2, .slice k.a3 k.seen.length k.c3, .bool k.room]) rfl rfl Tryz.isAgg32 Tryz.sizeOf32 rfl rfl) ?_
  refine JL.pure rfl (PO.move (v := .int .i64 1048576) rfl) ?_
  refine JL.op rfl (JO.call [] Tryz.call8 rfl (C_szKernel k 1048576 (by omega) (by omega) hz) rfl (fun w hw => hw.seeOutAE hpre.1 nMA)) ?_
  rintro _ _ ⟨_, ⟨rfl, rfl⟩, rfl⟩
  have hle_3 := szKernelF_le k.dat 1048576 (by omega)
  refine JL.pure rfl (PO.assign (v := .int .i64 (szKernelF k.dat 1048576)) rfl) ?_
  refine JL.nil ?_
  refine JQ.seq ?_
  refine JC.seq ?_
  refine JC.seq ?_
  refine JC.region ?_
  refine JL.pure rfl (PO.move (v := .int .i64 (szKernelF k.dat 1048576)) rfl) ?_
  refine JL.pure rfl (PO.lss rfl rfl) ?_
  refine JL.nil ?_
  refine JQ.seq ?_
  by_cases h_4 : (szKernelF k.dat 1048576) < 0
  · skip
    refine JC.condT (congrArg Value.bool (decide_eq_true h_4)) ?_
    refine JC.seq ?_
    refine JC.region ?_
    refine JL.pure rfl (PO.assign (v := .bool true) rfl) ?_
    refine JL.nil ?_
    refine JQ.seq ?_
    refine JC.ret ?_
    refine JQ.thenRet ?_
    refine Done.one (.inl rfl) rfl (RV.tmp (v := .bool true) rfl) (List.nil_sublist _) ?_
    exact ⟨rfl, rfl⟩
  · skip
    obtain ⟨hl, hc, hjt⟩ := szKernelF_all (n := 1048576) (by omega) (by omega) h_4
    have hlB : k.dat.lim 1000000000 := hl.mono (by omega)
    have hcB : k.dat.cnt ≤ 7340032 := by omega
    refine JC.condF (congrArg Value.bool (decide_eq_false h_4)) ?_
    refine JC.skip ?_
    refine JQ.seq ?_
    refine JC.seq ?_
    refine JC.region ?_
    refine JL.ld rfl (LO.loadK 0 (vs := [.int .i64 p.t.id, .int .i64 p.t.age, .int .i64 p.t.proc, .int .i64 p.t.began, .slice p.x.a0 p.t.calls.length p.x.c0, .slice p.x.a1 p.t.ans.length p.x.c1, .slice p.x.a2 p.t.rd.length p.x.c2, .slice p.x.a3 p.t.wr.length p.x.c3, .slice p.x.a4 p.t.marks.length p.x.c4, .int .i64 p.t.state]) rfl rfl Tryz.isAgg54 Tryz.sizeOf54 rfl rfl) ?_
    refine JL.pure rfl (PO.move (v := .int .i64 (szKernelF k.dat 1048576)) rfl) ?_
    refine JL.op rfl (JO.call [] Tryz.call15 rfl (C_szTx p (szKernelF k.dat 1048576) (by omega) (by omega) hzp) rfl (fun w hw => hw.seeOutAE hpre.2 nMA)) ?_
    rintro _ _ ⟨_, ⟨rfl, rfl⟩, rfl⟩
    have hle_5 := szTxF_le p.t (szKernelF k.dat 1048576) (by omega)
    refine JL.pure rfl (PO.assign (v := .int .i64 (szTxF p.t (szKernelF k.dat 1048576))) rfl) ?_
    refine JL.nil ?_
    refine JQ.seq ?_
    refine JC.seq ?_
    refine JC.seq ?_
    refine JC.region ?_
    refine JL.pure rfl (PO.move (v := .int .i64 (szTxF p.t (szKernelF k.dat 1048576))) rfl) ?_
    refine JL.pure rfl (PO.lss rfl rfl) ?_
    refine JL.nil ?_
    refine JQ.seq ?_
    by_cases h_6 : (szTxF p.t (szKernelF k.dat 1048576)) < 0
    · skip
      refine JC.condT (congrArg Value.bool (decide_eq_true h_6)) ?_
      refine JC.seq ?_
      refine JC.region ?_
      refine JL.pure rfl (PO.assign (v := .bool true) rfl) ?_
      refine JL.nil ?_
      refine JQ.seq ?_
      refine JC.ret ?_
      refine JQ.thenRet ?_
      refine Done.one (.inl rfl) rfl (RV.tmp (v := .bool true) rfl) (List.nil_sublist _) ?_
      exact ⟨rfl, rfl⟩
    · skip
      have hxl : p.t.lim 1048576 := szTxF_lim (n := 1048576) (by omega) (by omega) h_6
      have hxB : p.t.lim 1000000000 := hxl.mono (by omega)
      have hcX : cntXd p.t ≤ 7340039 := by have := (szTxF_all (by omega) h_6).2.2.2.2.2; omega
      refine JC.condF (congrArg Value.bool (decide_eq_false h_6)) ?_
      refine JC.skip ?_
      refine JQ.seq ?_
      refine JC.seq ?_
      refine JC.cut (fun e_ L_ => ∃ y_7 : KX, ∃ y_12 : TX, ∃ y_21 : KX, ∃ b_26 : Nat, (y_7.dat = k.dat) ∧ (y_7.dat.lim 1000000000) ∧ (y_7.dat.cnt ≤ 7340032) ∧ (y_7.cnt ≤ 7340032) ∧ (y_12.t = p.t) ∧ (y_12.t.lim 1000000000) ∧ (cntXd y_12.t ≤ 7340039) ∧ (y_12.t.calls.length ≤ 1048576) ∧ (y_12.t.ans.length ≤ 1048576) ∧ (y_12.t.rd.length ≤ 1048576) ∧ (y_12.t.wr.length ≤ 1048576) ∧ (y_12.t.marks.length ≤ 1048576) ∧ (y_21.dat = y_7.dat.withT y_12.t) ∧ (y_21.dat.lim 1000000000) ∧ (y_21.dat.cnt ≤ 7340032 + 7340039) ∧ (y_21.cnt ≤ 7340032 + 7340039) ∧ e_ 2 = .pointer (some ⟨b_1, 0, none⟩) ∧ e_ 3 = .pointer (some ⟨b_2, 0, none⟩) ∧ e_ 4 = .bool false ∧ e_ 6 = .pointer (some ⟨b_26, 0, none⟩) ∧ L_ = [bk b_26 42 [.slice y_21.a0 y_21.store.length y_21.c0, .slice y_21.a1 y_21.txs.length y_21.c1, .slice y_21.dk.a y_21.dk.l.length y_21.dk.c, str y_21.dk.jt, .int .i64 y_21.dk.js, .int .i64 y_21.seq, .int .i64 y_21.next, .int .i64 y_21.time, .slice y_21.a2 y_21.hist.length y_21.c2, .slice y_21.a3 y_21.seen.length y_21.c3, .bool y_21.room], Res.rows (rdsN y_21), Res.rows (rdsX y_12), Res.rows (rdsN y_7), bk b_2 54 [.int .i64 p.t.id, .int .i64 p.t.age, .int .i64 p.t.proc, .int .i64 p.t.began, .slice p.x.a0 p.t.calls.length p.x.c0, .slice p.x.a1 p.t.ans.length p.x.c1, .slice p.x.a2 p.t.rd.length p.x.c2, .slice p.x.a3 p.t.wr.length p.x.c3, .slice p.x.a4 p.t.marks.length p.x.c4, .int .i64 p.t.state], bk b_1 32 [.slice k.a0 k.store.length k.c0, .slice k.a1 k.txs.length k.c1, .slice k.dk.a k.dk.l.length k.dk.c, str k.dk.jt, .int .i64 k.dk.js, .int .i64 k.seq, .int .i64 k.next, .int .i64 k.time, .slice k.a2 k.hist.length k.c2, .slice k.a3 k.seen.length k.c3, .bool k.room]]) ?_ ?_
      · skip
        refine JC.regionA [bk b_2 54 [.int .i64 p.t.id, .int .i64 p.t.age, .int .i64 p.t.proc, .int .i64 p.t.began, .slice p.x.a0 p.t.calls.length p.x.c0, .slice p.x.a1 p.t.ans.length p.x.c1, .slice p.x.a2 p.t.rd.length p.x.c2, .slice p.x.a3 p.t.wr.length p.x.c3, .slice p.x.a4 p.t.marks.length p.x.c4, .int .i64 p.t.state], bk b_1 32 [.slice k.a0 k.store.length k.c0, .slice k.a1 k.txs.length k.c1, .slice k.dk.a k.dk.l.length k.dk.c, str k.dk.jt, .int .i64 k.dk.js, .int .i64 k.seq, .int .i64 k.next, .int .i64 k.time, .slice k.a2 k.hist.length k.c2, .slice k.a3 k.seen.length k.c3, .bool k.room]] 6 mixed (by simp) ?_
        refine JA.take 0 rfl (by kernel_rfl) NP.cut (by kernel_rfl) (by kernel_rfl) (by kernel_rfl) rfl (LO.loadK 1 (vs := [.slice k.a0 k.store.length k.c0, .slice k.a1 k.txs.length k.c1, .slice k.dk.a k.dk.l.length k.dk.c, str k.dk.jt, .int .i64 k.dk.js, .int .i64 k.seq, .int .i64 k.next, .int .i64 k.time, .slice k.a2 k.hist.length k.c2, .slice k.a3 k.seen.length k.c3, .bool k.room]) rfl rfl Tryz.isAgg32 Tryz.sizeOf32 rfl rfl) ?_
        refine JA.take 2 rfl (by kernel_rfl) NP.cut (by kernel_rfl) (by kernel_rfl) (by kernel_rfl) rfl (LO.loadK 0 (vs := [.int .i64 p.t.id, .int .i64 p.t.age, .int .i64 p.t.proc, .int .i64 p.t.began, .slice p.x.a0 p.t.calls.length p.x.c0, .slice p.x.a1 p.t.ans.length p.x.c1, .slice p.x.a2 p.t.rd.length p.x.c2, .slice p.x.a3 p.t.wr.length p.x.c3, .slice p.x.a4 p.t.marks.length p.x.c4, .int .i64 p.t.state]) rfl rfl Tryz.isAgg54 Tryz.sizeOf54 rfl rfl) ?_
        refine JA.two (i := 1) (j := 5) (by kernel_rfl) ?_ ?_
        · skip
          refine JX.op rfl rfl (JO.call [] Tryz.call10 rfl (C_toKernel k hl) rfl (fun w hw => hw.seeOutAE hpre.1 nMA)) ?_
          rintro _ _ ⟨_, ⟨y_38, hy_39, rfl, rfl⟩, rfl⟩
          have hl_40 : y_38.dat.lim 1000000000 := by rw [hy_39]; exact hlB
          have hc_41 : y_38.dat.cnt ≤ 7340032 := by rw [hy_39]; exact hcB
          have hz_42 : y_38.cnt ≤ 7340032 := by rw [KX.cnt_dat]; omega
          refine ⟨by simp, ?_⟩
          refine JA.two (i := 3) (j := 5) (by kernel_rfl) ?_ ?_
          · skip
            refine JX.op rfl rfl (JO.call [] Tryz.call17 rfl (C_toTx p hxl) rfl (fun w hw => hw.seeOutAE hpre.2 nMA)) ?_
            rintro _ _ ⟨_, ⟨y_53, hy_54, rfl, rfl⟩, rfl⟩
            have hl_55 : y_53.t.lim 1000000000 := by rw [hy_54]; exact hxB
            have hcx_56 : cntXd y_53.t ≤ 7340039 := by rw [hy_54]; exact hcX
            obtain ⟨hb_57, hb_58, hb_59, hb_60, hb_61⟩ : y_53.t.lim 1048576 := by rw [hy_54]; exact hxl
            refine ⟨by simp, ?_⟩
            refine JA.two (i := 4) (j := 5) (by kernel_rfl) ?_ ?_
            · skip
              refine JX.op rfl rfl (JO.call [] Tryz.call16 rfl (Z_specWithTx y_38 y_53 hl_40 hl_55) rfl (fun w hw => ⟨hw.seeRows 1 rfl, hw.seeRows 0 rfl⟩)) ?_
              rintro _ _ ⟨_, ⟨y_68, hy_69, rfl, rfl⟩, rfl⟩
              have hl_70 : y_68.dat.lim 1000000000 := by rw [hy_69]; exact (KD.withT_lim hl_40 hl_55)
              have hc_71 : y_68.dat.cnt ≤ 7340032 + 7340039 := by rw [hy_69]; exact (Nat.le_trans (KD.withT_cnt _ _) (Nat.add_le_add hc_41 hcx_56))
              have hz_72 : y_68.cnt ≤ 7340032 + 7340039 := by rw [KX.cnt_dat]; omega
              refine ⟨by simp, ?_⟩
              refine JA.one (i := 5) (by kernel_rfl) ?_
              refine JX.op rfl rfl (JO.alloc (z := .agg #[.slice none 0 0, .slice none 0 0, .slice none 0 0, str [], .int .i64 0, .int .i64 0, .int .i64 0, .int .i64 0, .slice none 0 0, .slice none 0 0, .bool false]) (cs := [.slice none 0 0, .slice none 0 0, .slice none 0 0, str [], .int .i64 0, .int .i64 0, .int .i64 0, .int .i64 0, .slice none 0 0, .slice none 0 0, .bool false]) Tryz.zeroValue42 rfl) ?_
              rintro _ _ ⟨b_74, rfl, rfl⟩
              refine ⟨by simp, ?_⟩
              refine JA.one (i := 6) (by kernel_rfl) ?_
              refine JX.last rfl rfl (by decide) (by kernel_rfl) (JO.store 0 (vs := [.slice y_68.a0 y_68.store.length y_68.c0, .slice y_68.a1 y_68.txs.length y_68.c1, .slice y_68.dk.a y_68.dk.l.length y_68.dk.c, str y_68.dk.jt, .int .i64 y_68.dk.js, .int .i64 y_68.seq, .int .i64 y_68.next, .int .i64 y_68.time, .slice y_68.a2 y_68.hist.length y_68.c2, .slice y_68.a3 y_68.seen.length y_68.c3, .bool y_68.room]) (cs' := [.slice y_68.a0 y_68.store.length y_68.c0, .slice y_68.a1 y_68.txs.length y_68.c1, .slice y_68.dk.a y_68.dk.l.length y_68.dk.c, str y_68.dk.jt, .int .i64 y_68.dk.js, .int .i64 y_68.seq, .int .i64 y_68.next, .int .i64 y_68.time, .slice y_68.a2 y_68.hist.length y_68.c2, .slice y_68.a3 y_68.seen.length y_68.c3, .bool y_68.room]) rfl rfl rfl rfl Tryz.sizeOf42 rfl rfl (Nat.le_of_ble_eq_true rfl) rfl) ?_
              rintro _ _ rfl
              refine JQ.pick [0, 0, 0, 0, 0, 0] (A := [bk b_74 42 [.slice y_68.a0 y_68.store.length y_68.c0, .slice y_68.a1 y_68.txs.length y_68.c1, .slice y_68.dk.a y_68.dk.l.length y_68.dk.c, str y_68.dk.jt, .int .i64 y_68.dk.js, .int .i64 y_68.seq, .int .i64 y_68.next, .int .i64 y_68.time, .slice y_68.a2 y_68.hist.length y_68.c2, .slice y_68.a3 y_68.seen.length y_68.c3, .bool y_68.room], Res.rows (rdsN y_68), Res.rows (rdsX y_53), Res.rows (rdsN y_38), bk b_2 54 [.int .i64 p.t.id, .int .i64 p.t.age, .int .i64 p.t.proc, .int .i64 p.t.began, .slice p.x.a0 p.t.calls.length p.x.c0, .slice p.x.a1 p.t.ans.length p.x.c1, .slice p.x.a2 p.t.rd.length p.x.c2, .slice p.x.a3 p.t.wr.length p.x.c3, .slice p.x.a4 p.t.marks.length p.x.c4, .int .i64 p.t.state], bk b_1 32 [.slice k.a0 k.store.length k.c0, .slice k.a1 k.txs.length k.c1, .slice k.dk.a k.dk.l.length k.dk.c, str k.dk.jt, .int .i64 k.dk.js, .int .i64 k.seq, .int .i64 k.next, .int .i64 k.time, .slice k.a2 k.hist.length k.c2, .slice k.a3 k.seen.length k.c3, .bool k.room]]) rfl ?_
              exact JQ.cut ⟨y_38, y_53, y_68, b_74, hy_39, hl_40, hc_41, hz_42, hy_54, hl_55, hcx_56, hb_57, hb_58, hb_59, hb_60, hb_61, hy_69, hl_70, hc_71, hz_72, rfl, rfl, rfl, rfl, rfl⟩
            · skip
              refine JX.op rfl rfl (JO.alloc (z := .agg #[.slice none 0 0, .slice none 0 0, .slice none 0 0, str [], .int .i64 0, .int .i64 0, .int .i64 0, .int .i64 0, .slice none 0 0, .slice none 0 0, .bool false]) (cs := [.slice none 0 0, .slice none 0 0, .slice none 0 0, str [], .int .i64 0, .int .i64 0, .int .i64 0, .int .i64 0, .slice none 0 0, .slice none 0 0, .bool false]) Tryz.zeroValue42 rfl) ?_
              rintro _ _ ⟨b_75, rfl, rfl⟩
              refine ⟨by simp, ?_⟩
              refine JA.one (i := 4) (by kernel_rfl) ?_
              refine JX.op rfl rfl (JO.call [] Tryz.call16 rfl (Z_specWithTx y_38 y_53 hl_40 hl_55) rfl (fun w hw => ⟨hw.seeRows 2 rfl, hw.seeRows 1 rfl⟩)) ?_
              rintro _ _ ⟨_, ⟨y_81, hy_82, rfl, rfl⟩, rfl⟩
              have hl_83 : y_81.dat.lim 1000000000 := by rw [hy_82]; exact (KD.withT_lim hl_40 hl_55)
              have hc_84 : y_81.dat.cnt ≤ 7340032 + 7340039 := by rw [hy_82]; exact (Nat.le_trans (KD.withT_cnt _ _) (Nat.add_le_add hc_41 hcx_56))
              have hz_85 : y_81.cnt ≤ 7340032 + 7340039 := by rw [KX.cnt_dat]; omega
              refine ⟨by simp, ?_⟩
              refine JA.one (i := 6) (by kernel_rfl) ?_
              refine JX.last rfl rfl (by decide) (by kernel_rfl) (JO.store 1 (vs := [.slice y_81.a0 y_81.store.length y_81.c0, .slice y_81.a1 y_81.txs.length y_81.c1, .slice y_81.dk.a y_81.dk.l.length y_81.dk.c, str y_81.dk.jt, .int .i64 y_81.dk.js, .int .i64 y_81.seq, .int .i64 y_81.next, .int .i64 y_81.time, .slice y_81.a2 y_81.hist.length y_81.c2, .slice y_81.a3 y_81.seen.length y_81.c3, .bool y_81.room]) (cs' := [.slice y_81.a0 y_81.store.length y_81.c0, .slice y_81.a1 y_81.txs.length y_81.c1, .slice y_81.dk.a y_81.dk.l.length y_81.dk.c, str y_81.dk.jt, .int .i64 y_81.dk.js, .int .i64 y_81.seq, .int .i64 y_81.next, .int .i64 y_81.time, .slice y_81.a2 y_81.hist.length y_81.c2, .slice y_81.a3 y_81.seen.length y_81.c3, .bool y_81.room]) rfl rfl rfl rfl Tryz.sizeOf42 rfl rfl (Nat.le_of_ble_eq_true rfl) rfl) ?_
              rintro _ _ rfl
              refine JQ.pick [1, 0, 0, 0, 0, 0] (A := [bk b_75 42 [.slice y_81.a0 y_81.store.length y_81.c0, .slice y_81.a1 y_81.txs.length y_81.c1, .slice y_81.dk.a y_81.dk.l.length y_81.dk.c, str y_81.dk.jt, .int .i64 y_81.dk.js, .int .i64 y_81.seq, .int .i64 y_81.next, .int .i64 y_81.time, .slice y_81.a2 y_81.hist.length y_81.c2, .slice y_81.a3 y_81.seen.length y_81.c3, .bool y_81.room], Res.rows (rdsN y_81), Res.rows (rdsX y_53), Res.rows (rdsN y_38), bk b_2 54 [.int .i64 p.t.id, .int .i64 p.t.age, .int .i64 p.t.proc, .int .i64 p.t.began, .slice p.x.a0 p.t.calls.length p.x.c0, .slice p.x.a1 p.t.ans.length p.x.c1, .slice p.x.a2 p.t.rd.length p.x.c2, .slice p.x.a3 p.t.wr.length p.x.c3, .slice p.x.a4 p.t.marks.length p.x.c4, .int .i64 p.t.state], bk b_1 32 [.slice k.a0 k.store.length k.c0, .slice k.a1 k.txs.length k.c1, .slice k.dk.a k.dk.l.length k.dk.c, str k.dk.jt, .int .i64 k.dk.js, .int .i64 k.seq, .int .i64 k.next, .int .i64 k.time, .slice k.a2 k.hist.length k.c2, .slice k.a3 k.seen.length k.c3, .bool k.room]]) rfl ?_
              exact JQ.cut ⟨y_38, y_53, y_81, b_75, hy_39, hl_40, hc_41, hz_42, hy_54, hl_55, hcx_56, hb_57, hb_58, hb_59, hb_60, hb_61, hy_82, hl_83, hc_84, hz_85, rfl, rfl, rfl, rfl, rfl⟩
          · skip
            refine JX.op rfl rfl (JO.alloc (z := .agg #[.slice none 0 0, .slice none 0 0, .slice none 0 0, str [], .int .i64 0, .int .i64 0, .int .i64 0, .int .i64 0, .slice none 0 0, .slice none 0 0, .bool false]) (cs := [.slice none 0 0, .slice none 0 0, .slice none 0 0, str [], .int .i64 0, .int .i64 0, .int .i64 0, .int .i64 0, .slice none 0 0, .slice none 0 0, .bool false]) Tryz.zeroValue42 rfl) ?_
            rintro _ _ ⟨b_86, rfl, rfl⟩
            refine ⟨by simp, ?_⟩
            refine JA.one (i := 3) (by kernel_rfl) ?_
            refine JX.op rfl rfl (JO.call [] Tryz.call17 rfl (C_toTx p hxl) rfl (fun w hw => hw.seeOutAE hpre.2 nMA)) ?_
            rintro _ _ ⟨_, ⟨y_96, hy_97, rfl, rfl⟩, rfl⟩
            have hl_98 : y_96.t.lim 1000000000 := by rw [hy_97]; exact hxB
            have hcx_99 : cntXd y_96.t ≤ 7340039 := by rw [hy_97]; exact hcX
            obtain ⟨hb_100, hb_101, hb_102, hb_103, hb_104⟩ : y_96.t.lim 1048576 := by rw [hy_97]; exact hxl
            refine ⟨by simp, ?_⟩
            refine JA.one (i := 4) (by kernel_rfl) ?_
            refine JX.op rfl rfl (JO.call [] Tryz.call16 rfl (Z_specWithTx y_38 y_96 hl_40 hl_98) rfl (fun w hw => ⟨hw.seeRows 2 rfl, hw.seeRows 0 rfl⟩)) ?_
            rintro _ _ ⟨_, ⟨y_110, hy_111, rfl, rfl⟩, rfl⟩
            have hl_112 : y_110.dat.lim 1000000000 := by rw [hy_111]; exact (KD.withT_lim hl_40 hl_98)
            have hc_113 : y_110.dat.cnt ≤ 7340032 + 7340039 := by rw [hy_111]; exact (Nat.le_trans (KD.withT_cnt _ _) (Nat.add_le_add hc_41 hcx_99))
            have hz_114 : y_110.cnt ≤ 7340032 + 7340039 := by rw [KX.cnt_dat]; omega
            refine ⟨by simp, ?_⟩
            refine JA.one (i := 6) (by kernel_rfl) ?_
            refine JX.last rfl rfl (by decide) (by kernel_rfl) (JO.store 2 (vs := [.slice y_110.a0 y_110.store.length y_110.c0, .slice y_110.a1 y_110.txs.length y_110.c1, .slice y_110.dk.a y_110.dk.l.length y_110.dk.c, str y_110.dk.jt, .int .i64 y_110.dk.js, .int .i64 y_110.seq, .int .i64 y_110.next, .int .i64 y_110.time, .slice y_110.a2 y_110.hist.length y_110.c2, .slice y_110.a3 y_110.seen.length y_110.c3, .bool y_110.room]) (cs' := [.slice y_110.a0 y_110.store.length y_110.c0, .slice y_110.a1 y_110.txs.length y_110.c1, .slice y_110.dk.a y_110.dk.l.length y_110.dk.c, str y_110.dk.jt, .int .i64 y_110.dk.js, .int .i64 y_110.seq, .int .i64 y_110.next, .int .i64 y_110.time, .slice y_110.a2 y_110.hist.length y_110.c2, .slice y_110.a3 y_110.seen.length y_110.c3, .bool y_110.room]) rfl rfl rfl rfl Tryz.sizeOf42 rfl rfl (Nat.le_of_ble_eq_true rfl) rfl) ?_
            rintro _ _ rfl
            refine JQ.pick [2, 0, 0, 0, 0, 0] (A := [bk b_86 42 [.slice y_110.a0 y_110.store.length y_110.c0, .slice y_110.a1 y_110.txs.length y_110.c1, .slice y_110.dk.a y_110.dk.l.length y_110.dk.c, str y_110.dk.jt, .int .i64 y_110.dk.js, .int .i64 y_110.seq, .int .i64 y_110.next, .int .i64 y_110.time, .slice y_110.a2 y_110.hist.length y_110.c2, .slice y_110.a3 y_110.seen.length y_110.c3, .bool y_110.room], Res.rows (rdsN y_110), Res.rows (rdsX y_96), Res.rows (rdsN y_38), bk b_2 54 [.int .i64 p.t.id, .int .i64 p.t.age, .int .i64 p.t.proc, .int .i64 p.t.began, .slice p.x.a0 p.t.calls.length p.x.c0, .slice p.x.a1 p.t.ans.length p.x.c1, .slice p.x.a2 p.t.rd.length p.x.c2, .slice p.x.a3 p.t.wr.length p.x.c3, .slice p.x.a4 p.t.marks.length p.x.c4, .int .i64 p.t.state], bk b_1 32 [.slice k.a0 k.store.length k.c0, .slice k.a1 k.txs.length k.c1, .slice k.dk.a k.dk.l.length k.dk.c, str k.dk.jt, .int .i64 k.dk.js, .int .i64 k.seq, .int .i64 k.next, .int .i64 k.time, .slice k.a2 k.hist.length k.c2, .slice k.a3 k.seen.length k.c3, .bool k.room]]) rfl ?_
            exact JQ.cut ⟨y_38, y_96, y_110, b_86, hy_39, hl_40, hc_41, hz_42, hy_97, hl_98, hcx_99, hb_100, hb_101, hb_102, hb_103, hb_104, hy_111, hl_112, hc_113, hz_114, rfl, rfl, rfl, rfl, rfl⟩
        · skip
          refine JX.op rfl rfl (JO.alloc (z := .agg #[.slice none 0 0, .slice none 0 0, .slice none 0 0, str [], .int .i64 0, .int .i64 0, .int .i64 0, .int .i64 0, .slice none 0 0, .slice none 0 0, .bool false]) (cs := [.slice none 0 0, .slice none 0 0, .slice none 0 0, str [], .int .i64 0, .int .i64 0, .int .i64 0, .int .i64 0, .slice none 0 0, .slice none 0 0, .bool false]) Tryz.zeroValue42 rfl) ?_
          rintro _ _ ⟨b_115, rfl, rfl⟩
          refine ⟨by simp, ?_⟩
          refine JA.one (i := 1) (by kernel_rfl) ?_
          refine JX.op rfl rfl (JO.call [] Tryz.call10 rfl (C_toKernel k hl) rfl (fun w hw => hw.seeOutAE hpre.1 nMA)) ?_
          rintro _ _ ⟨_, ⟨y_121, hy_122, rfl, rfl⟩, rfl⟩
          have hl_123 : y_121.dat.lim 1000000000 := by rw [hy_122]; exact hlB
          have hc_124 : y_121.dat.cnt ≤ 7340032 := by rw [hy_122]; exact hcB
          have hz_125 : y_121.cnt ≤ 7340032 := by rw [KX.cnt_dat]; omega
          refine ⟨by simp, ?_⟩
          refine JA.one (i := 3) (by kernel_rfl) ?_
          refine JX.op rfl rfl (JO.call [] Tryz.call17 rfl (C_toTx p hxl) rfl (fun w hw => hw.seeOutAE hpre.2 nMA)) ?_
          rintro _ _ ⟨_, ⟨y_135, hy_136, rfl, rfl⟩, rfl⟩
          have hl_137 : y_135.t.lim 1000000000 := by rw [hy_136]; exact hxB
          have hcx_138 : cntXd y_135.t ≤ 7340039 := by rw [hy_136]; exact hcX
          obtain ⟨hb_139, hb_140, hb_141, hb_142, hb_143⟩ : y_135.t.lim 1048576 := by rw [hy_136]; exact hxl
          refine ⟨by simp, ?_⟩
          refine JA.one (i := 4) (by kernel_rfl) ?_
          refine JX.op rfl rfl (JO.call [] Tryz.call16 rfl (Z_specWithTx y_121 y_135 hl_123 hl_137) rfl (fun w hw => ⟨hw.seeRows 1 rfl, hw.seeRows 0 rfl⟩)) ?_
          rintro _ _ ⟨_, ⟨y_149, hy_150, rfl, rfl⟩, rfl⟩
          have hl_151 : y_149.dat.lim 1000000000 := by rw [hy_150]; exact (KD.withT_lim hl_123 hl_137)
          have hc_152 : y_149.dat.cnt ≤ 7340032 + 7340039 := by rw [hy_150]; exact (Nat.le_trans (KD.withT_cnt _ _) (Nat.add_le_add hc_124 hcx_138))
          have hz_153 : y_149.cnt ≤ 7340032 + 7340039 := by rw [KX.cnt_dat]; omega
          refine ⟨by simp, ?_⟩
          refine JA.one (i := 6) (by kernel_rfl) ?_
          refine JX.last rfl rfl (by decide) (by kernel_rfl) (JO.store 3 (vs := [.slice y_149.a0 y_149.store.length y_149.c0, .slice y_149.a1 y_149.txs.length y_149.c1, .slice y_149.dk.a y_149.dk.l.length y_149.dk.c, str y_149.dk.jt, .int .i64 y_149.dk.js, .int .i64 y_149.seq, .int .i64 y_149.next, .int .i64 y_149.time, .slice y_149.a2 y_149.hist.length y_149.c2, .slice y_149.a3 y_149.seen.length y_149.c3, .bool y_149.room]) (cs' := [.slice y_149.a0 y_149.store.length y_149.c0, .slice y_149.a1 y_149.txs.length y_149.c1, .slice y_149.dk.a y_149.dk.l.length y_149.dk.c, str y_149.dk.jt, .int .i64 y_149.dk.js, .int .i64 y_149.seq, .int .i64 y_149.next, .int .i64 y_149.time, .slice y_149.a2 y_149.hist.length y_149.c2, .slice y_149.a3 y_149.seen.length y_149.c3, .bool y_149.room]) rfl rfl rfl rfl Tryz.sizeOf42 rfl rfl (Nat.le_of_ble_eq_true rfl) rfl) ?_
          rintro _ _ rfl
          refine JQ.pick [3, 0, 0, 0, 0, 0] (A := [bk b_115 42 [.slice y_149.a0 y_149.store.length y_149.c0, .slice y_149.a1 y_149.txs.length y_149.c1, .slice y_149.dk.a y_149.dk.l.length y_149.dk.c, str y_149.dk.jt, .int .i64 y_149.dk.js, .int .i64 y_149.seq, .int .i64 y_149.next, .int .i64 y_149.time, .slice y_149.a2 y_149.hist.length y_149.c2, .slice y_149.a3 y_149.seen.length y_149.c3, .bool y_149.room], Res.rows (rdsN y_149), Res.rows (rdsX y_135), Res.rows (rdsN y_121), bk b_2 54 [.int .i64 p.t.id, .int .i64 p.t.age, .int .i64 p.t.proc, .int .i64 p.t.began, .slice p.x.a0 p.t.calls.length p.x.c0, .slice p.x.a1 p.t.ans.length p.x.c1, .slice p.x.a2 p.t.rd.length p.x.c2, .slice p.x.a3 p.t.wr.length p.x.c3, .slice p.x.a4 p.t.marks.length p.x.c4, .int .i64 p.t.state], bk b_1 32 [.slice k.a0 k.store.length k.c0, .slice k.a1 k.txs.length k.c1, .slice k.dk.a k.dk.l.length k.dk.c, str k.dk.jt, .int .i64 k.dk.js, .int .i64 k.seq, .int .i64 k.next, .int .i64 k.time, .slice k.a2 k.hist.length k.c2, .slice k.a3 k.seen.length k.c3, .bool k.room]]) rfl ?_
          exact JQ.cut ⟨y_121, y_135, y_149, b_115, hy_122, hl_123, hc_124, hz_125, hy_136, hl_137, hcx_138, hb_139, hb_140, hb_141, hb_142, hb_143, hy_150, hl_151, hc_152, hz_153, rfl, rfl, rfl, rfl, rfl⟩
      · skip
        rintro e_154 _ ⟨y_7, y_12, y_21, b_26, hy_8, hl_9, hc_10, hz_11, hy_13, hl_14, hcx_15, hb_16, hb_17, hb_18, hb_19, hb_20, hy_22, hl_23, hc_24, hz_25, he_155, he_156, he_157, he_158, rfl⟩
        refine JQ.seq ?_
        refine JC.seq ?_
        refine JC.region ?_
        refine JL.ld rfl (LO.loadK 5 (vs := [.slice k.a0 k.store.length k.c0, .slice k.a1 k.txs.length k.c1, .slice k.dk.a k.dk.l.length k.dk.c, str k.dk.jt, .int .i64 k.dk.js, .int .i64 k.seq, .int .i64 k.next, .int .i64 k.time, .slice k.a2 k.hist.length k.c2, .slice k.a3 k.seen.length k.c3, .bool k.room]) rfl he_155 Tryz.isAgg32 Tryz.sizeOf32 rfl rfl) ?_
        refine JL.op rfl (JO.call [] Tryz.call10 rfl (C_toKernel k hl) rfl (fun w hw => hw.seeOutAE hpre.1 nMA)) ?_
        rintro _ _ ⟨_, ⟨y_159, hy_160, rfl, rfl⟩, rfl⟩
        have hl_161 : y_159.dat.lim 1000000000 := by rw [hy_160]; exact hlB
        have hc_162 : y_159.dat.cnt ≤ 7340032 := by rw [hy_160]; exact hcB
        have hz_163 : y_159.cnt ≤ 7340032 := by rw [KX.cnt_dat]; omega
        refine JL.op rfl (JO.alloc (z := .agg #[.slice none 0 0, .slice none 0 0, .slice none 0 0, str [], .int .i64 0, .int .i64 0, .int .i64 0, .int .i64 0, .slice none 0 0, .slice none 0 0, .bool false]) (cs := [.slice none 0 0, .slice none 0 0, .slice none 0 0, str [], .int .i64 0, .int .i64 0, .int .i64 0, .int .i64 0, .slice none 0 0, .slice none 0 0, .bool false]) Tryz.zeroValue42 rfl) ?_
        rintro _ _ ⟨b_164, rfl, rfl⟩
        refine JL.op rfl (JO.store 0 (vs := [.slice y_159.a0 y_159.store.length y_159.c0, .slice y_159.a1 y_159.txs.length y_159.c1, .slice y_159.dk.a y_159.dk.l.length y_159.dk.c, str y_159.dk.jt, .int .i64 y_159.dk.js, .int .i64 y_159.seq, .int .i64 y_159.next, .int .i64 y_159.time, .slice y_159.a2 y_159.hist.length y_159.c2, .slice y_159.a3 y_159.seen.length y_159.c3, .bool y_159.room]) (cs' := [.slice y_159.a0 y_159.store.length y_159.c0, .slice y_159.a1 y_159.txs.length y_159.c1, .slice y_159.dk.a y_159.dk.l.length y_159.dk.c, str y_159.dk.jt, .int .i64 y_159.dk.js, .int .i64 y_159.seq, .int .i64 y_159.next, .int .i64 y_159.time, .slice y_159.a2 y_159.hist.length y_159.c2, .slice y_159.a3 y_159.seen.length y_159.c3, .bool y_159.room]) rfl rfl rfl rfl Tryz.sizeOf42 rfl rfl (Nat.le_of_ble_eq_true rfl) rfl) ?_
        rintro _ _ rfl
        refine JL.nil ?_
        refine JQ.seq ?_
        refine JC.seq ?_
        refine JC.region ?_
        refine JL.ld rfl (LO.loadK 6 (vs := [.int .i64 p.t.id, .int .i64 p.t.age, .int .i64 p.t.proc, .int .i64 p.t.began, .slice p.x.a0 p.t.calls.length p.x.c0, .slice p.x.a1 p.t.ans.length p.x.c1, .slice p.x.a2 p.t.rd.length p.x.c2, .slice p.x.a3 p.t.wr.length p.x.c3, .slice p.x.a4 p.t.marks.length p.x.c4, .int .i64 p.t.state]) rfl he_156 Tryz.isAgg54 Tryz.sizeOf54 rfl rfl) ?_
        refine JL.op rfl (JO.call [] Tryz.call17 rfl (C_toTx p hxl) rfl (fun w hw => hw.seeOutAE hpre.2 nMA)) ?_
        rintro _ _ ⟨_, ⟨y_165, hy_166, rfl, rfl⟩, rfl⟩
        have hl_167 : y_165.t.lim 1000000000 := by rw [hy_166]; exact hxB
        have hcx_168 : cntXd y_165.t ≤ 7340039 := by rw [hy_166]; exact hcX
        obtain ⟨hb_169, hb_170, hb_171, hb_172, hb_173⟩ : y_165.t.lim 1048576 := by rw [hy_166]; exact hxl
        refine JL.op rfl (JO.alloc (z := .agg #[.int .i64 0, .int .i64 0, .int .i64 0, .int .i64 0, .slice none 0 0, .slice none 0 0, .slice none 0 0, .slice none 0 0, .slice none 0 0, .int .i64 0]) (cs := [.int .i64 0, .int .i64 0, .int .i64 0, .int .i64 0, .slice none 0 0, .slice none 0 0, .slice none 0 0, .slice none 0 0, .slice none 0 0, .int .i64 0]) Tryz.zeroValue61 rfl) ?_
        rintro _ _ ⟨b_174, rfl, rfl⟩
        refine JL.op rfl (JO.store 0 (vs := [.int .i64 y_165.t.id, .int .i64 y_165.t.age, .int .i64 y_165.t.proc, .int .i64 y_165.t.began, .slice y_165.x.a0 y_165.t.calls.length y_165.x.c0, .slice y_165.x.a1 y_165.t.ans.length y_165.x.c1, .slice y_165.x.a2 y_165.t.rd.length y_165.x.c2, .slice y_165.x.a3 y_165.t.wr.length y_165.x.c3, .slice y_165.x.a4 y_165.t.marks.length y_165.x.c4, .int .i64 y_165.t.state]) (cs' := [.int .i64 y_165.t.id, .int .i64 y_165.t.age, .int .i64 y_165.t.proc, .int .i64 y_165.t.began, .slice y_165.x.a0 y_165.t.calls.length y_165.x.c0, .slice y_165.x.a1 y_165.t.ans.length y_165.x.c1, .slice y_165.x.a2 y_165.t.rd.length y_165.x.c2, .slice y_165.x.a3 y_165.t.wr.length y_165.x.c3, .slice y_165.x.a4 y_165.t.marks.length y_165.x.c4, .int .i64 y_165.t.state]) rfl rfl rfl rfl Tryz.sizeOf61 rfl rfl (Nat.le_of_ble_eq_true rfl) rfl) ?_
        rintro _ _ rfl
        refine JL.nil ?_
        refine JQ.seq ?_
        refine JC.seq ?_
        refine JC.region ?_
        refine JL.ld rfl (LO.loadK 2 (vs := [.slice y_159.a0 y_159.store.length y_159.c0, .slice y_159.a1 y_159.txs.length y_159.c1, .slice y_159.dk.a y_159.dk.l.length y_159.dk.c, str y_159.dk.jt, .int .i64 y_159.dk.js, .int .i64 y_159.seq, .int .i64 y_159.next, .int .i64 y_159.time, .slice y_159.a2 y_159.hist.length y_159.c2, .slice y_159.a3 y_159.seen.length y_159.c3, .bool y_159.room]) rfl rfl Tryz.isAgg42 Tryz.sizeOf42 rfl rfl) ?_
        refine JL.ld rfl (LO.loadK 0 (vs := [.int .i64 y_165.t.id, .int .i64 y_165.t.age, .int .i64 y_165.t.proc, .int .i64 y_165.t.began, .slice y_165.x.a0 y_165.t.calls.length y_165.x.c0, .slice y_165.x.a1 y_165.t.ans.length y_165.x.c1, .slice y_165.x.a2 y_165.t.rd.length y_165.x.c2, .slice y_165.x.a3 y_165.t.wr.length y_165.x.c3, .slice y_165.x.a4 y_165.t.marks.length y_165.x.c4, .int .i64 y_165.t.state]) rfl rfl Tryz.isAgg61 Tryz.sizeOf61 rfl rfl) ?_
        refine JL.op rfl (JO.call [] Tryz.call18 rfl (Z_implWithTx y_159 y_165 hl_161 hl_167) rfl (fun w hw => ⟨hw.seeRows 3 rfl, hw.seeRows 1 rfl⟩)) ?_
        rintro _ _ ⟨_, ⟨y_175, hy_176, rfl, rfl⟩, rfl⟩
        have hl_177 : y_175.dat.lim 1000000000 := by rw [hy_176]; exact (KD.withT_lim hl_161 hl_167)
        have hc_178 : y_175.dat.cnt ≤ 7340032 + 7340039 := by rw [hy_176]; exact (Nat.le_trans (KD.withT_cnt _ _) (Nat.add_le_add hc_162 hcx_168))
        have hz_179 : y_175.cnt ≤ 7340032 + 7340039 := by rw [KX.cnt_dat]; omega
        refine JL.op rfl (JO.alloc (z := .agg #[.slice none 0 0, .slice none 0 0, .slice none 0 0, str [], .int .i64 0, .int .i64 0, .int .i64 0, .int .i64 0, .slice none 0 0, .slice none 0 0, .bool false]) (cs := [.slice none 0 0, .slice none 0 0, .slice none 0 0, str [], .int .i64 0, .int .i64 0, .int .i64 0, .int .i64 0, .slice none 0 0, .slice none 0 0, .bool false]) Tryz.zeroValue42 rfl) ?_
        rintro _ _ ⟨b_180, rfl, rfl⟩
        refine JL.op rfl (JO.store 0 (vs := [.slice y_175.a0 y_175.store.length y_175.c0, .slice y_175.a1 y_175.txs.length y_175.c1, .slice y_175.dk.a y_175.dk.l.length y_175.dk.c, str y_175.dk.jt, .int .i64 y_175.dk.js, .int .i64 y_175.seq, .int .i64 y_175.next, .int .i64 y_175.time, .slice y_175.a2 y_175.hist.length y_175.c2, .slice y_175.a3 y_175.seen.length y_175.c3, .bool y_175.room]) (cs' := [.slice y_175.a0 y_175.store.length y_175.c0, .slice y_175.a1 y_175.txs.length y_175.c1, .slice y_175.dk.a y_175.dk.l.length y_175.dk.c, str y_175.dk.jt, .int .i64 y_175.dk.js, .int .i64 y_175.seq, .int .i64 y_175.next, .int .i64 y_175.time, .slice y_175.a2 y_175.hist.length y_175.c2, .slice y_175.a3 y_175.seen.length y_175.c3, .bool y_175.room]) rfl rfl rfl rfl Tryz.sizeOf42 rfl rfl (Nat.le_of_ble_eq_true rfl) rfl) ?_
        rintro _ _ rfl
        refine JL.nil ?_
        refine JQ.seq ?_
        refine JC.seq ?_
        refine JC.seq ?_
        refine JC.region ?_
        refine JL.ld rfl (LO.loadK 0 (vs := [.slice y_175.a0 y_175.store.length y_175.c0, .slice y_175.a1 y_175.txs.length y_175.c1, .slice y_175.dk.a y_175.dk.l.length y_175.dk.c, str y_175.dk.jt, .int .i64 y_175.dk.js, .int .i64 y_175.seq, .int .i64 y_175.next, .int .i64 y_175.time, .slice y_175.a2 y_175.hist.length y_175.c2, .slice y_175.a3 y_175.seen.length y_175.c3, .bool y_175.room]) rfl rfl Tryz.isAgg42 Tryz.sizeOf42 rfl rfl) ?_
        refine JL.ld rfl (LO.loadK 6 (vs := [.slice y_21.a0 y_21.store.length y_21.c0, .slice y_21.a1 y_21.txs.length y_21.c1, .slice y_21.dk.a y_21.dk.l.length y_21.dk.c, str y_21.dk.jt, .int .i64 y_21.dk.js, .int .i64 y_21.seq, .int .i64 y_21.next, .int .i64 y_21.time, .slice y_21.a2 y_21.hist.length y_21.c2, .slice y_21.a3 y_21.seen.length y_21.c3, .bool y_21.room]) rfl he_158 Tryz.isAgg42 Tryz.sizeOf42 rfl rfl) ?_
        refine JL.op rfl (JO.call [] Tryz.call12 rfl (C_eqKernel y_175 y_21 hl_177) rfl (fun w hw => ⟨hw.seeRows 1 rfl, hw.seeRows 7 rfl⟩)) ?_
        rintro _ _ ⟨_, ⟨rfl, rfl⟩, rfl⟩
        refine JL.pure rfl (PO.not rfl) ?_
        refine JL.nil ?_
        refine JQ.seq ?_
        have h_181 : y_175.dat = y_21.dat := (by simp only [hy_8, hy_13, hy_22, hy_160, hy_166, hy_176])
        refine JC.condF (congrArg Value.bool (congrArg Bool.not (decide_eq_true h_181))) ?_
        refine JC.skip ?_
        refine JQ.seq ?_
        refine JC.seq ?_
        refine JC.seq ?_
        refine JC.regionA [bk b_180 42 [.slice y_175.a0 y_175.store.length y_175.c0, .slice y_175.a1 y_175.txs.length y_175.c1, .slice y_175.dk.a y_175.dk.l.length y_175.dk.c, str y_175.dk.jt, .int .i64 y_175.dk.js, .int .i64 y_175.seq, .int .i64 y_175.next, .int .i64 y_175.time, .slice y_175.a2 y_175.hist.length y_175.c2, .slice y_175.a3 y_175.seen.length y_175.c3, .bool y_175.room], Res.rows (rdsN y_175), bk b_174 61 [.int .i64 y_165.t.id, .int .i64 y_165.t.age, .int .i64 y_165.t.proc, .int .i64 y_165.t.began, .slice y_165.x.a0 y_165.t.calls.length y_165.x.c0, .slice y_165.x.a1 y_165.t.ans.length y_165.x.c1, .slice y_165.x.a2 y_165.t.rd.length y_165.x.c2, .slice y_165.x.a3 y_165.t.wr.length y_165.x.c3, .slice y_165.x.a4 y_165.t.marks.length y_165.x.c4, .int .i64 y_165.t.state], Res.rows (rdsX y_165), bk b_164 42 [.slice y_159.a0 y_159.store.length y_159.c0, .slice y_159.a1 y_159.txs.length y_159.c1, .slice y_159.dk.a y_159.dk.l.length y_159.dk.c, str y_159.dk.jt, .int .i64 y_159.dk.js, .int .i64 y_159.seq, .int .i64 y_159.next, .int .i64 y_159.time, .slice y_159.a2 y_159.hist.length y_159.c2, .slice y_159.a3 y_159.seen.length y_159.c3, .bool y_159.room], Res.rows (rdsN y_159), bk b_26 42 [.slice y_21.a0 y_21.store.length y_21.c0, .slice y_21.a1 y_21.txs.length y_21.c1, .slice y_21.dk.a y_21.dk.l.length y_21.dk.c, str y_21.dk.jt, .int .i64 y_21.dk.js, .int .i64 y_21.seq, .int .i64 y_21.next, .int .i64 y_21.time, .slice y_21.a2 y_21.hist.length y_21.c2, .slice y_21.a3 y_21.seen.length y_21.c3, .bool y_21.room], Res.rows (rdsN y_21), Res.rows (rdsX y_12), Res.rows (rdsN y_7), bk b_2 54 [.int .i64 p.t.id, .int .i64 p.t.age, .int .i64 p.t.proc, .int .i64 p.t.began, .slice p.x.a0 p.t.calls.length p.x.c0, .slice p.x.a1 p.t.ans.length p.x.c1, .slice p.x.a2 p.t.rd.length p.x.c2, .slice p.x.a3 p.t.wr.length p.x.c3, .slice p.x.a4 p.t.marks.length p.x.c4, .int .i64 p.t.state], bk b_1 32 [.slice k.a0 k.store.length k.c0, .slice k.a1 k.txs.length k.c1, .slice k.dk.a k.dk.l.length k.dk.c, str k.dk.jt, .int .i64 k.dk.js, .int .i64 k.seq, .int .i64 k.next, .int .i64 k.time, .slice k.a2 k.hist.length k.c2, .slice k.a3 k.seen.length k.c3, .bool k.room]] 1000 mixed (by simp) ?_
        refine JA.take 0 rfl (by kernel_rfl) (NP.th (NP.th NP.body)) (by kernel_rfl) (by kernel_rfl) (by kernel_rfl) rfl (LO.loadK 4 (vs := [.slice y_159.a0 y_159.store.length y_159.c0, .slice y_159.a1 y_159.txs.length y_159.c1, .slice y_159.dk.a y_159.dk.l.length y_159.dk.c, str y_159.dk.jt, .int .i64 y_159.dk.js, .int .i64 y_159.seq, .int .i64 y_159.next, .int .i64 y_159.time, .slice y_159.a2 y_159.hist.length y_159.c2, .slice y_159.a3 y_159.seen.length y_159.c3, .bool y_159.room]) rfl rfl Tryz.isAgg42 Tryz.sizeOf42 rfl rfl) ?_
        refine JA.take 1 rfl (by kernel_rfl) (NP.th (NP.th NP.body)) (by kernel_rfl) (by kernel_rfl) (by kernel_rfl) rfl (LO.loadK 11 (vs := [.slice k.a0 k.store.length k.c0, .slice k.a1 k.txs.length k.c1, .slice k.dk.a k.dk.l.length k.dk.c, str k.dk.jt, .int .i64 k.dk.js, .int .i64 k.seq, .int .i64 k.next, .int .i64 k.time, .slice k.a2 k.hist.length k.c2, .slice k.a3 k.seen.length k.c3, .bool k.room]) rfl he_155 Tryz.isAgg32 Tryz.sizeOf32 rfl rfl) ?_
        refine JA.one (i := 2) (by kernel_rfl) ?_
        refine JX.op rfl rfl (JO.call [] Tryz.call10 rfl (C_toKernel k hl) rfl (fun w hw => hw.seeOutAE hpre.1 nMA)) ?_
        rintro _ _ ⟨_, ⟨y_187, hy_188, rfl, rfl⟩, rfl⟩
        have hl_189 : y_187.dat.lim 1000000000 := by rw [hy_188]; exact hlB
        have hc_190 : y_187.dat.cnt ≤ 7340032 := by rw [hy_188]; exact hcB
        have hz_191 : y_187.cnt ≤ 7340032 := by rw [KX.cnt_dat]; omega
        refine ⟨by simp, ?_⟩
        refine JA.one (i := 3) (by kernel_rfl) ?_
        refine JX.op rfl rfl (JO.call [] Tryz.call12 rfl (C_eqKernel y_159 y_187 hl_161) rfl (fun w hw => ⟨hw.seeRows 6 rfl, hw.seeRows 0 rfl⟩)) ?_
        rintro _ _ ⟨_, ⟨rfl, rfl⟩, rfl⟩
        refine ⟨by simp, ?_⟩
        refine JA.takeP 4 rfl (by kernel_rfl) (NP.th (NP.th NP.body)) (by kernel_rfl) (by kernel_rfl) rfl (PO.not rfl) ?_
        refine JA.done (by kernel_rfl) ?_
        refine JQ.seq ?_
        have h_192 : y_159.dat = y_187.dat := (by simp only [hy_8, hy_13, hy_22, hy_160, hy_166, hy_176, hy_188])
        refine JC.condF (congrArg Value.bool (congrArg Bool.not (decide_eq_true h_192))) ?_
        refine JC.skip ?_
        refine JQ.seq ?_
        refine JC.seq ?_
        refine JC.seq ?_
        refine JC.regionA [Res.rows (rdsN y_187), bk b_180 42 [.slice y_175.a0 y_175.store.length y_175.c0, .slice y_175.a1 y_175.txs.length y_175.c1, .slice y_175.dk.a y_175.dk.l.length y_175.dk.c, str y_175.dk.jt, .int .i64 y_175.dk.js, .int .i64 y_175.seq, .int .i64 y_175.next, .int .i64 y_175.time, .slice y_175.a2 y_175.hist.length y_175.c2, .slice y_175.a3 y_175.seen.length y_175.c3, .bool y_175.room], Res.rows (rdsN y_175), bk b_174 61 [.int .i64 y_165.t.id, .int .i64 y_165.t.age, .int .i64 y_165.t.proc, .int .i64 y_165.t.began, .slice y_165.x.a0 y_165.t.calls.length y_165.x.c0, .slice y_165.x.a1 y_165.t.ans.length y_165.x.c1, .slice y_165.x.a2 y_165.t.rd.length y_165.x.c2, .slice y_165.x.a3 y_165.t.wr.length y_165.x.c3, .slice y_165.x.a4 y_165.t.marks.length y_165.x.c4, .int .i64 y_165.t.state], Res.rows (rdsX y_165), bk b_164 42 [.slice y_159.a0 y_159.store.length y_159.c0, .slice y_159.a1 y_159.txs.length y_159.c1, .slice y_159.dk.a y_159.dk.l.length y_159.dk.c, str y_159.dk.jt, .int .i64 y_159.dk.js, .int .i64 y_159.seq, .int .i64 y_159.next, .int .i64 y_159.time, .slice y_159.a2 y_159.hist.length y_159.c2, .slice y_159.a3 y_159.seen.length y_159.c3, .bool y_159.room], Res.rows (rdsN y_159), bk b_26 42 [.slice y_21.a0 y_21.store.length y_21.c0, .slice y_21.a1 y_21.txs.length y_21.c1, .slice y_21.dk.a y_21.dk.l.length y_21.dk.c, str y_21.dk.jt, .int .i64 y_21.dk.js, .int .i64 y_21.seq, .int .i64 y_21.next, .int .i64 y_21.time, .slice y_21.a2 y_21.hist.length y_21.c2, .slice y_21.a3 y_21.seen.length y_21.c3, .bool y_21.room], Res.rows (rdsN y_21), Res.rows (rdsX y_12), Res.rows (rdsN y_7), bk b_2 54 [.int .i64 p.t.id, .int .i64 p.t.age, .int .i64 p.t.proc, .int .i64 p.t.began, .slice p.x.a0 p.t.calls.length p.x.c0, .slice p.x.a1 p.t.ans.length p.x.c1, .slice p.x.a2 p.t.rd.length p.x.c2, .slice p.x.a3 p.t.wr.length p.x.c3, .slice p.x.a4 p.t.marks.length p.x.c4, .int .i64 p.t.state], bk b_1 32 [.slice k.a0 k.store.length k.c0, .slice k.a1 k.txs.length k.c1, .slice k.dk.a k.dk.l.length k.dk.c, str k.dk.jt, .int .i64 k.dk.js, .int .i64 k.seq, .int .i64 k.next, .int .i64 k.time, .slice k.a2 k.hist.length k.c2, .slice k.a3 k.seen.length k.c3, .bool k.room]] 1000 mixed (by simp) ?_
        refine JA.take 0 rfl (by kernel_rfl) (NP.th (NP.th NP.body)) (by kernel_rfl) (by kernel_rfl) (by kernel_rfl) rfl (LO.loadK 3 (vs := [.int .i64 y_165.t.id, .int .i64 y_165.t.age, .int .i64 y_165.t.proc, .int .i64 y_165.t.began, .slice y_165.x.a0 y_165.t.calls.length y_165.x.c0, .slice y_165.x.a1 y_165.t.ans.length y_165.x.c1, .slice y_165.x.a2 y_165.t.rd.length y_165.x.c2, .slice y_165.x.a3 y_165.t.wr.length y_165.x.c3, .slice y_165.x.a4 y_165.t.marks.length y_165.x.c4, .int .i64 y_165.t.state]) rfl rfl Tryz.isAgg61 Tryz.sizeOf61 rfl rfl) ?_
        refine JA.take 1 rfl (by kernel_rfl) (NP.th (NP.th NP.body)) (by kernel_rfl) (by kernel_rfl) (by kernel_rfl) rfl (LO.loadK 11 (vs := [.int .i64 p.t.id, .int .i64 p.t.age, .int .i64 p.t.proc, .int .i64 p.t.began, .slice p.x.a0 p.t.calls.length p.x.c0, .slice p.x.a1 p.t.ans.length p.x.c1, .slice p.x.a2 p.t.rd.length p.x.c2, .slice p.x.a3 p.t.wr.length p.x.c3, .slice p.x.a4 p.t.marks.length p.x.c4, .int .i64 p.t.state]) rfl he_156 Tryz.isAgg54 Tryz.sizeOf54 rfl rfl) ?_
        refine JA.one (i := 2) (by kernel_rfl) ?_
        refine JX.op rfl rfl (JO.call [] Tryz.call17 rfl (C_toTx p hxl) rfl (fun w hw => hw.seeOutAE hpre.2 nMA)) ?_
        rintro _ _ ⟨_, ⟨y_202, hy_203, rfl, rfl⟩, rfl⟩
        have hl_204 : y_202.t.lim 1000000000 := by rw [hy_203]; exact hxB
        have hcx_205 : cntXd y_202.t ≤ 7340039 := by rw [hy_203]; exact hcX
        obtain ⟨hb_206, hb_207, hb_208, hb_209, hb_210⟩ : y_202.t.lim 1048576 := by rw [hy_203]; exact hxl
        refine ⟨by simp, ?_⟩
        refine JA.one (i := 3) (by kernel_rfl) ?_
        refine JX.op rfl rfl (JO.call [] Tryz.call19 rfl (C_eqTx y_165 y_202 hl_167) rfl (fun w hw => ⟨hw.seeRows 5 rfl, hw.seeRows 0 rfl⟩)) ?_
        rintro _ _ ⟨_, ⟨rfl, rfl⟩, rfl⟩
        refine ⟨by simp, ?_⟩
        refine JA.takeP 4 rfl (by kernel_rfl) (NP.th (NP.th NP.body)) (by kernel_rfl) (by kernel_rfl) rfl (PO.not rfl) ?_
        refine JA.done (by kernel_rfl) ?_
        refine JQ.seq ?_
        have h_211 : y_165.t = y_202.t := (by simp only [hy_8, hy_13, hy_22, hy_160, hy_166, hy_176, hy_188, hy_203])
        refine JC.condF (congrArg Value.bool (congrArg Bool.not (decide_eq_true h_211))) ?_
        refine JC.skip ?_
        refine JQ.seq ?_
        refine JC.seq ?_
        refine JC.region ?_
        refine JL.pure rfl (PO.assign (v := .int .i64 1) rfl) ?_
        refine JL.nil ?_
        refine JQ.seq ?_
        refine JC.seq ?_
        refine JC.region ?_
        refine JL.ld rfl (LO.loadK 6 (vs := [.slice y_159.a0 y_159.store.length y_159.c0, .slice y_159.a1 y_159.txs.length y_159.c1, .slice y_159.dk.a y_159.dk.l.length y_159.dk.c, str y_159.dk.jt, .int .i64 y_159.dk.js, .int .i64 y_159.seq, .int .i64 y_159.next, .int .i64 y_159.time, .slice y_159.a2 y_159.hist.length y_159.c2, .slice y_159.a3 y_159.seen.length y_159.c3, .bool y_159.room]) rfl rfl Tryz.isAgg42 Tryz.sizeOf42 rfl rfl) ?_
        refine JL.pure rfl (PO.move (v := .int .i64 1) rfl) ?_
        refine JL.op rfl (JO.call [7] Tryz.call13 rfl (C_markKernel y_159 1 (by omega) (by omega) hl_161) rfl (fun _ _ => trivial)) ?_
        rintro _ _ ⟨_, ⟨rfl, rfl⟩, rfl⟩
        refine JL.pure rfl (PO.assign (v := .int .i64 ((1 + y_159.cnt : Nat) : Int)) rfl) ?_
        refine JL.nil ?_
        refine JQ.seq ?_
        refine JC.seq ?_
        refine JC.region ?_
        refine JL.ld rfl (LO.loadK 5 (vs := [.int .i64 y_165.t.id, .int .i64 y_165.t.age, .int .i64 y_165.t.proc, .int .i64 y_165.t.began, .slice y_165.x.a0 y_165.t.calls.length y_165.x.c0, .slice y_165.x.a1 y_165.t.ans.length y_165.x.c1, .slice y_165.x.a2 y_165.t.rd.length y_165.x.c2, .slice y_165.x.a3 y_165.t.wr.length y_165.x.c3, .slice y_165.x.a4 y_165.t.marks.length y_165.x.c4, .int .i64 y_165.t.state]) rfl rfl Tryz.isAgg61 Tryz.sizeOf61 rfl rfl) ?_
        refine JL.pure rfl (PO.move (v := .int .i64 ((1 + y_159.cnt : Nat) : Int)) rfl) ?_
        refine JL.op rfl (JO.call [6] Tryz.call20 rfl (C_markTx y_165 (1 + y_159.cnt) (by omega) (by omega)) rfl (fun _ _ => trivial)) ?_
        rintro _ _ ⟨_, ⟨rs_212, rfl, rfl⟩, rfl⟩
        refine JL.pure rfl (PO.assign (v := .int .i64 ((1 + y_159.cnt + 6 * y_165.t.calls.length + 3 * y_165.t.ans.length + y_165.t.rd.length + y_165.t.wr.length + 1 * y_165.t.marks.length : Nat) : Int)) rfl) ?_
        refine JL.nil ?_
        refine JQ.seq ?_
        refine JC.seq ?_
        refine JC.seq ?_
        refine JC.region ?_
        refine JL.pure rfl (PO.move (v := .int .i64 ((1 + y_159.cnt + 6 * y_165.t.calls.length + 3 * y_165.t.ans.length + y_165.t.rd.length + y_165.t.wr.length + 1 * y_165.t.marks.length : Nat) : Int)) rfl) ?_
        refine JL.pure rfl (PO.lss rfl rfl) ?_
        refine JL.pure rfl (PO.move (v := .bool (decide (((1 + y_159.cnt + 6 * y_165.t.calls.length + 3 * y_165.t.ans.length + y_165.t.rd.length + y_165.t.wr.length + 1 * y_165.t.marks.length : Nat) : Int) < 0))) rfl) ?_
        have h_213 : ¬ (((1 + y_159.cnt + 6 * y_165.t.calls.length + 3 * y_165.t.ans.length + y_165.t.rd.length + y_165.t.wr.length + 1 * y_165.t.marks.length : Nat) : Int) < 0) := (by omega)
        refine JL.guardOn rfl rfl rfl (congrArg Value.bool (decide_eq_false h_213)) (JO.ofLO (LO.loadK 4 (vs := [.slice y_175.a0 y_175.store.length y_175.c0, .slice y_175.a1 y_175.txs.length y_175.c1, .slice y_175.dk.a y_175.dk.l.length y_175.dk.c, str y_175.dk.jt, .int .i64 y_175.dk.js, .int .i64 y_175.seq, .int .i64 y_175.next, .int .i64 y_175.time, .slice y_175.a2 y_175.hist.length y_175.c2, .slice y_175.a3 y_175.seen.length y_175.c3, .bool y_175.room]) rfl rfl Tryz.isAgg42 Tryz.sizeOf42 rfl rfl)) ?_
        rintro _ _ ⟨rfl, rfl⟩
        refine JL.guardOn rfl rfl rfl (congrArg Value.bool (decide_eq_false h_213)) (JO.ofLO (LO.loadK 8 (vs := [.slice y_21.a0 y_21.store.length y_21.c0, .slice y_21.a1 y_21.txs.length y_21.c1, .slice y_21.dk.a y_21.dk.l.length y_21.dk.c, str y_21.dk.jt, .int .i64 y_21.dk.js, .int .i64 y_21.seq, .int .i64 y_21.next, .int .i64 y_21.time, .slice y_21.a2 y_21.hist.length y_21.c2, .slice y_21.a3 y_21.seen.length y_21.c3, .bool y_21.room]) rfl he_158 Tryz.isAgg42 Tryz.sizeOf42 rfl rfl)) ?_
        rintro _ _ ⟨rfl, rfl⟩
        refine JL.guardOn rfl rfl rfl (congrArg Value.bool (decide_eq_false h_213)) (JO.call [] Tryz.call12 rfl (C_eqKernel y_175 y_21 hl_177) rfl (fun w hw => ⟨hw.seeRows 5 rfl, hw.seeRows 9 rfl⟩)) ?_
        rintro _ _ ⟨_, ⟨rfl, rfl⟩, rfl⟩
        refine JL.guardOn rfl rfl rfl (congrArg Value.bool (decide_eq_false h_213)) (JO.ofLO (LO.pure (PO.not rfl))) ?_
        rintro _ _ ⟨rfl, rfl⟩
        refine JL.pure rfl (PO.pickF (v := .bool (!(decide (y_175.dat = y_21.dat)))) (congrArg Value.bool (decide_eq_false h_213)) rfl) ?_
        refine JL.nil ?_
        refine JQ.seq ?_
        refine JC.condF (congrArg Value.bool (congrArg Bool.not (decide_eq_true h_181))) ?_
        refine JC.skip ?_
        refine JQ.seq ?_
        refine JC.seq ?_
        refine JC.region ?_
        refine JL.pure rfl (PO.assign (v := .int .i64 1) rfl) ?_
        refine JL.nil ?_
        refine JQ.seq ?_
        refine JC.seq ?_
        refine JC.region ?_
        refine JL.ld rfl (LO.loadK 4 (vs := [.slice y_175.a0 y_175.store.length y_175.c0, .slice y_175.a1 y_175.txs.length y_175.c1, .slice y_175.dk.a y_175.dk.l.length y_175.dk.c, str y_175.dk.jt, .int .i64 y_175.dk.js, .int .i64 y_175.seq, .int .i64 y_175.next, .int .i64 y_175.time, .slice y_175.a2 y_175.hist.length y_175.c2, .slice y_175.a3 y_175.seen.length y_175.c3, .bool y_175.room]) rfl rfl Tryz.isAgg42 Tryz.sizeOf42 rfl rfl) ?_
        refine JL.pure rfl (PO.move (v := .int .i64 1) rfl) ?_
        refine JL.op rfl (JO.call [5] Tryz.call13 rfl (C_markKernel y_175 1 (by omega) (by omega) hl_177) rfl (fun _ _ => trivial)) ?_
        rintro _ _ ⟨_, ⟨rfl, rfl⟩, rfl⟩
        refine JL.pure rfl (PO.assign (v := .int .i64 ((1 + y_175.cnt : Nat) : Int)) rfl) ?_
        refine JL.nil ?_
        refine JQ.seq ?_
        refine JC.seq ?_
        refine JC.region ?_
        refine JL.pure rfl (PO.assign (v := .int .i64 1) rfl) ?_
        refine JL.nil ?_
        refine JQ.seq ?_
        refine JC.seq ?_
        refine JC.region ?_
        refine JL.ld rfl (LO.loadK 5 (vs := [.slice y_175.a0 y_175.store.length y_175.c0, .slice y_175.a1 y_175.txs.length y_175.c1, .slice y_175.dk.a y_175.dk.l.length y_175.dk.c, str y_175.dk.jt, .int .i64 y_175.dk.js, .int .i64 y_175.seq, .int .i64 y_175.next, .int .i64 y_175.time, .slice y_175.a2 y_175.hist.length y_175.c2, .slice y_175.a3 y_175.seen.length y_175.c3, .bool y_175.room]) rfl rfl Tryz.isAgg42 Tryz.sizeOf42 rfl rfl) ?_
        refine JL.pure rfl (PO.move (v := .int .i64 1) rfl) ?_
        refine JL.op rfl (JO.call [] Tryz.call14 rfl (C_heldKernel y_175 1 (by omega) (by omega) hl_177) rfl (fun w hw => hw.seeRows 0 rfl)) ?_
        rintro _ _ ⟨_, ⟨rfl, rfl⟩, rfl⟩
        refine JL.pure rfl (PO.assign (v := .int .i64 ((1 + y_175.cnt : Nat) : Int)) rfl) ?_
        refine JL.nil ?_
        refine JQ.seq ?_
        refine JC.seq ?_
        refine JC.seq ?_
        refine JC.region ?_
        refine JL.pure rfl (PO.move (v := .int .i64 ((1 + y_175.cnt : Nat) : Int)) rfl) ?_
        refine JL.pure rfl (PO.lss rfl rfl) ?_
        refine JL.nil ?_
        refine JQ.seq ?_
        have h_214 : ¬ (((1 + y_175.cnt : Nat) : Int) < 0) := (by omega)
        refine JC.condF (congrArg Value.bool (decide_eq_false h_214)) ?_
        refine JC.skip ?_
        refine JQ.seq ?_
        refine JC.seq ?_
        refine JC.seq ?_
        refine JC.region ?_
        refine JL.pure rfl (PO.move (v := .int .i64 ((1 + y_175.cnt : Nat) : Int)) rfl) ?_
        refine JL.pure rfl (PO.move (v := .int .i64 ((1 + y_175.cnt : Nat) : Int)) rfl) ?_
        refine JL.pure rfl (PO.neqI rfl rfl) ?_
        refine JL.nil ?_
        refine JQ.seq ?_
        refine JC.condF (congrArg Value.bool (congrArg Bool.not (decide_eq_true rfl))) ?_
        refine JC.skip ?_
        refine JQ.seq ?_
        refine JC.seq ?_
        refine JC.cut (fun e_ L_ => ∃ y_215 : KX, ∃ y_220 : TX, ∃ y_229 : KX, ∃ b_234 : Nat, (y_215.dat = k.dat) ∧ (y_215.dat.lim 1000000000) ∧ (y_215.dat.cnt ≤ 7340032) ∧ (y_215.cnt ≤ 7340032) ∧ (y_220.t = p.t) ∧ (y_220.t.lim 1000000000) ∧ (cntXd y_220.t ≤ 7340039) ∧ (y_220.t.calls.length ≤ 1048576) ∧ (y_220.t.ans.length ≤ 1048576) ∧ (y_220.t.rd.length ≤ 1048576) ∧ (y_220.t.wr.length ≤ 1048576) ∧ (y_220.t.marks.length ≤ 1048576) ∧ (y_229.dat = y_215.dat.withT y_220.t) ∧ (y_229.dat.lim 1000000000) ∧ (y_229.dat.cnt ≤ 7340032 + 7340039) ∧ (y_229.cnt ≤ 7340032 + 7340039) ∧ e_ 4 = .bool false ∧ e_ 6 = .pointer (some ⟨b_26, 0, none⟩) ∧ e_ 9 = .pointer (some ⟨b_180, 0, none⟩) ∧ e_ 11 = .int .i64 ((1 + y_175.cnt : Nat) : Int) ∧ e_ 12 = .int .i64 ((1 + y_175.cnt : Nat) : Int) ∧ e_ 13 = .pointer (some ⟨b_234, 0, none⟩) ∧ L_ = [bk b_234 42 [.slice y_229.a0 y_229.store.length y_229.c0, .slice y_229.a1 y_229.txs.length y_229.c1, .slice y_229.dk.a y_229.dk.l.length y_229.dk.c, str y_229.dk.jt, .int .i64 y_229.dk.js, .int .i64 y_229.seq, .int .i64 y_229.next, .int .i64 y_229.time, .slice y_229.a2 y_229.hist.length y_229.c2, .slice y_229.a3 y_229.seen.length y_229.c3, .bool y_229.room], Res.rows (rdsN y_229), Res.rows (rdsX y_220), Res.rows (rdsN y_215), Res.rows (rdsN (mkN y_175 1)), Res.rows (rs_212), Res.rows (rdsN (mkN y_159 1)), Res.rows (rdsX y_202), Res.rows (rdsN y_187), bk b_180 42 [.slice y_175.a0 y_175.store.length y_175.c0, .slice y_175.a1 y_175.txs.length y_175.c1, .slice y_175.dk.a y_175.dk.l.length y_175.dk.c, str y_175.dk.jt, .int .i64 y_175.dk.js, .int .i64 y_175.seq, .int .i64 y_175.next, .int .i64 y_175.time, .slice y_175.a2 y_175.hist.length y_175.c2, .slice y_175.a3 y_175.seen.length y_175.c3, .bool y_175.room], bk b_174 61 [.int .i64 y_165.t.id, .int .i64 y_165.t.age, .int .i64 y_165.t.proc, .int .i64 y_165.t.began, .slice y_165.x.a0 y_165.t.calls.length y_165.x.c0, .slice y_165.x.a1 y_165.t.ans.length y_165.x.c1, .slice y_165.x.a2 y_165.t.rd.length y_165.x.c2, .slice y_165.x.a3 y_165.t.wr.length y_165.x.c3, .slice y_165.x.a4 y_165.t.marks.length y_165.x.c4, .int .i64 y_165.t.state], bk b_164 42 [.slice y_159.a0 y_159.store.length y_159.c0, .slice y_159.a1 y_159.txs.length y_159.c1, .slice y_159.dk.a y_159.dk.l.length y_159.dk.c, str y_159.dk.jt, .int .i64 y_159.dk.js, .int .i64 y_159.seq, .int .i64 y_159.next, .int .i64 y_159.time, .slice y_159.a2 y_159.hist.length y_159.c2, .slice y_159.a3 y_159.seen.length y_159.c3, .bool y_159.room], bk b_26 42 [.slice y_21.a0 y_21.store.length y_21.c0, .slice y_21.a1 y_21.txs.length y_21.c1, .slice y_21.dk.a y_21.dk.l.length y_21.dk.c, str y_21.dk.jt, .int .i64 y_21.dk.js, .int .i64 y_21.seq, .int .i64 y_21.next, .int .i64 y_21.time, .slice y_21.a2 y_21.hist.length y_21.c2, .slice y_21.a3 y_21.seen.length y_21.c3, .bool y_21.room], Res.rows (rdsN y_21), Res.rows (rdsX y_12), Res.rows (rdsN y_7), bk b_2 54 [.int .i64 p.t.id, .int .i64 p.t.age, .int .i64 p.t.proc, .int .i64 p.t.began, .slice p.x.a0 p.t.calls.length p.x.c0, .slice p.x.a1 p.t.ans.length p.x.c1, .slice p.x.a2 p.t.rd.length p.x.c2, .slice p.x.a3 p.t.wr.length p.x.c3, .slice p.x.a4 p.t.marks.length p.x.c4, .int .i64 p.t.state], bk b_1 32 [.slice k.a0 k.store.length k.c0, .slice k.a1 k.txs.length k.c1, .slice k.dk.a k.dk.l.length k.dk.c, str k.dk.jt, .int .i64 k.dk.js, .int .i64 k.seq, .int .i64 k.next, .int .i64 k.time, .slice k.a2 k.hist.length k.c2, .slice k.a3 k.seen.length k.c3, .bool k.room]]) ?_ ?_
        · skip
          refine JC.regionA [Res.rows (rdsN (mkN y_175 1)), Res.rows (rs_212), Res.rows (rdsN (mkN y_159 1)), Res.rows (rdsX y_202), Res.rows (rdsN y_187), bk b_180 42 [.slice y_175.a0 y_175.store.length y_175.c0, .slice y_175.a1 y_175.txs.length y_175.c1, .slice y_175.dk.a y_175.dk.l.length y_175.dk.c, str y_175.dk.jt, .int .i64 y_175.dk.js, .int .i64 y_175.seq, .int .i64 y_175.next, .int .i64 y_175.time, .slice y_175.a2 y_175.hist.length y_175.c2, .slice y_175.a3 y_175.seen.length y_175.c3, .bool y_175.room], bk b_174 61 [.int .i64 y_165.t.id, .int .i64 y_165.t.age, .int .i64 y_165.t.proc, .int .i64 y_165.t.began, .slice y_165.x.a0 y_165.t.calls.length y_165.x.c0, .slice y_165.x.a1 y_165.t.ans.length y_165.x.c1, .slice y_165.x.a2 y_165.t.rd.length y_165.x.c2, .slice y_165.x.a3 y_165.t.wr.length y_165.x.c3, .slice y_165.x.a4 y_165.t.marks.length y_165.x.c4, .int .i64 y_165.t.state], bk b_164 42 [.slice y_159.a0 y_159.store.length y_159.c0, .slice y_159.a1 y_159.txs.length y_159.c1, .slice y_159.dk.a y_159.dk.l.length y_159.dk.c, str y_159.dk.jt, .int .i64 y_159.dk.js, .int .i64 y_159.seq, .int .i64 y_159.next, .int .i64 y_159.time, .slice y_159.a2 y_159.hist.length y_159.c2, .slice y_159.a3 y_159.seen.length y_159.c3, .bool y_159.room], bk b_26 42 [.slice y_21.a0 y_21.store.length y_21.c0, .slice y_21.a1 y_21.txs.length y_21.c1, .slice y_21.dk.a y_21.dk.l.length y_21.dk.c, str y_21.dk.jt, .int .i64 y_21.dk.js, .int .i64 y_21.seq, .int .i64 y_21.next, .int .i64 y_21.time, .slice y_21.a2 y_21.hist.length y_21.c2, .slice y_21.a3 y_21.seen.length y_21.c3, .bool y_21.room], Res.rows (rdsN y_21), Res.rows (rdsX y_12), Res.rows (rdsN y_7), bk b_2 54 [.int .i64 p.t.id, .int .i64 p.t.age, .int .i64 p.t.proc, .int .i64 p.t.began, .slice p.x.a0 p.t.calls.length p.x.c0, .slice p.x.a1 p.t.ans.length p.x.c1, .slice p.x.a2 p.t.rd.length p.x.c2, .slice p.x.a3 p.t.wr.length p.x.c3, .slice p.x.a4 p.t.marks.length p.x.c4, .int .i64 p.t.state], bk b_1 32 [.slice k.a0 k.store.length k.c0, .slice k.a1 k.txs.length k.c1, .slice k.dk.a k.dk.l.length k.dk.c, str k.dk.jt, .int .i64 k.dk.js, .int .i64 k.seq, .int .i64 k.next, .int .i64 k.time, .slice k.a2 k.hist.length k.c2, .slice k.a3 k.seen.length k.c3, .bool k.room]] 6 mixed (by simp) ?_
          refine JA.take 0 rfl (by kernel_rfl) NP.cut (by kernel_rfl) (by kernel_rfl) (by kernel_rfl) rfl (LO.loadK 13 (vs := [.slice k.a0 k.store.length k.c0, .slice k.a1 k.txs.length k.c1, .slice k.dk.a k.dk.l.length k.dk.c, str k.dk.jt, .int .i64 k.dk.js, .int .i64 k.seq, .int .i64 k.next, .int .i64 k.time, .slice k.a2 k.hist.length k.c2, .slice k.a3 k.seen.length k.c3, .bool k.room]) rfl he_155 Tryz.isAgg32 Tryz.sizeOf32 rfl rfl) ?_
          refine JA.take 2 rfl (by kernel_rfl) NP.cut (by kernel_rfl) (by kernel_rfl) (by kernel_rfl) rfl (LO.loadK 12 (vs := [.int .i64 p.t.id, .int .i64 p.t.age, .int .i64 p.t.proc, .int .i64 p.t.began, .slice p.x.a0 p.t.calls.length p.x.c0, .slice p.x.a1 p.t.ans.length p.x.c1, .slice p.x.a2 p.t.rd.length p.x.c2, .slice p.x.a3 p.t.wr.length p.x.c3, .slice p.x.a4 p.t.marks.length p.x.c4, .int .i64 p.t.state]) rfl he_156 Tryz.isAgg54 Tryz.sizeOf54 rfl rfl) ?_
          refine JA.two (i := 1) (j := 5) (by kernel_rfl) ?_ ?_
          · skip
            refine JX.op rfl rfl (JO.call [] Tryz.call10 rfl (C_toKernel k hl) rfl (fun w hw => hw.seeOutAE hpre.1 nMA)) ?_
            rintro _ _ ⟨_, ⟨y_246, hy_247, rfl, rfl⟩, rfl⟩
            have hl_248 : y_246.dat.lim 1000000000 := by rw [hy_247]; exact hlB
            have hc_249 : y_246.dat.cnt ≤ 7340032 := by rw [hy_247]; exact hcB
            have hz_250 : y_246.cnt ≤ 7340032 := by rw [KX.cnt_dat]; omega
            refine ⟨by simp, ?_⟩
            refine JA.two (i := 3) (j := 5) (by kernel_rfl) ?_ ?_
            · skip
              refine JX.op rfl rfl (JO.call [] Tryz.call17 rfl (C_toTx p hxl) rfl (fun w hw => hw.seeOutAE hpre.2 nMA)) ?_
              rintro _ _ ⟨_, ⟨y_261, hy_262, rfl, rfl⟩, rfl⟩
              have hl_263 : y_261.t.lim 1000000000 := by rw [hy_262]; exact hxB
              have hcx_264 : cntXd y_261.t ≤ 7340039 := by rw [hy_262]; exact hcX
              obtain ⟨hb_265, hb_266, hb_267, hb_268, hb_269⟩ : y_261.t.lim 1048576 := by rw [hy_262]; exact hxl
              refine ⟨by simp, ?_⟩
              refine JA.two (i := 4) (j := 5) (by kernel_rfl) ?_ ?_
              · skip
                refine JX.op rfl rfl (JO.call [] Tryz.call18 rfl (Z_implWithTx y_246 y_261 hl_248 hl_263) rfl (fun w hw => ⟨hw.seeRows 1 rfl, hw.seeRows 0 rfl⟩)) ?_
                rintro _ _ ⟨_, ⟨y_276, hy_277, rfl, rfl⟩, rfl⟩
                have hl_278 : y_276.dat.lim 1000000000 := by rw [hy_277]; exact (KD.withT_lim hl_248 hl_263)
                have hc_279 : y_276.dat.cnt ≤ 7340032 + 7340039 := by rw [hy_277]; exact (Nat.le_trans (KD.withT_cnt _ _) (Nat.add_le_add hc_249 hcx_264))
                have hz_280 : y_276.cnt ≤ 7340032 + 7340039 := by rw [KX.cnt_dat]; omega
                refine ⟨by simp, ?_⟩
                refine JA.one (i := 5) (by kernel_rfl) ?_
                refine JX.op rfl rfl (JO.alloc (z := .agg #[.slice none 0 0, .slice none 0 0, .slice none 0 0, str [], .int .i64 0, .int .i64 0, .int .i64 0, .int .i64 0, .slice none 0 0, .slice none 0 0, .bool false]) (cs := [.slice none 0 0, .slice none 0 0, .slice none 0 0, str [], .int .i64 0, .int .i64 0, .int .i64 0, .int .i64 0, .slice none 0 0, .slice none 0 0, .bool false]) Tryz.zeroValue42 rfl) ?_
                rintro _ _ ⟨b_282, rfl, rfl⟩
                refine ⟨by simp, ?_⟩
                refine JA.one (i := 6) (by kernel_rfl) ?_
                refine JX.last rfl rfl (by decide) (by kernel_rfl) (JO.store 0 (vs := [.slice y_276.a0 y_276.store.length y_276.c0, .slice y_276.a1 y_276.txs.length y_276.c1, .slice y_276.dk.a y_276.dk.l.length y_276.dk.c, str y_276.dk.jt, .int .i64 y_276.dk.js, .int .i64 y_276.seq, .int .i64 y_276.next, .int .i64 y_276.time, .slice y_276.a2 y_276.hist.length y_276.c2, .slice y_276.a3 y_276.seen.length y_276.c3, .bool y_276.room]) (cs' := [.slice y_276.a0 y_276.store.length y_276.c0, .slice y_276.a1 y_276.txs.length y_276.c1, .slice y_276.dk.a y_276.dk.l.length y_276.dk.c, str y_276.dk.jt, .int .i64 y_276.dk.js, .int .i64 y_276.seq, .int .i64 y_276.next, .int .i64 y_276.time, .slice y_276.a2 y_276.hist.length y_276.c2, .slice y_276.a3 y_276.seen.length y_276.c3, .bool y_276.room]) rfl rfl rfl rfl Tryz.sizeOf42 rfl rfl (Nat.le_of_ble_eq_true rfl) rfl) ?_
                rintro _ _ rfl
                refine JQ.pick [0, 0, 0, 0, 0, 0, 0, 0, 0, 0, 0, 0, 0, 0, 0, 0, 0, 0] (A := [bk b_282 42 [.slice y_276.a0 y_276.store.length y_276.c0, .slice y_276.a1 y_276.txs.length y_276.c1, .slice y_276.dk.a y_276.dk.l.length y_276.dk.c, str y_276.dk.jt, .int .i64 y_276.dk.js, .int .i64 y_276.seq, .int .i64 y_276.next, .int .i64 y_276.time, .slice y_276.a2 y_276.hist.length y_276.c2, .slice y_276.a3 y_276.seen.length y_276.c3, .bool y_276.room], Res.rows (rdsN y_276), Res.rows (rdsX y_261), Res.rows (rdsN y_246), Res.rows (rdsN (mkN y_175 1)), Res.rows (rs_212), Res.rows (rdsN (mkN y_159 1)), Res.rows (rdsX y_202), Res.rows (rdsN y_187), bk b_180 42 [.slice y_175.a0 y_175.store.length y_175.c0, .slice y_175.a1 y_175.txs.length y_175.c1, .slice y_175.dk.a y_175.dk.l.length y_175.dk.c, str y_175.dk.jt, .int .i64 y_175.dk.js, .int .i64 y_175.seq, .int .i64 y_175.next, .int .i64 y_175.time, .slice y_175.a2 y_175.hist.length y_175.c2, .slice y_175.a3 y_175.seen.length y_175.c3, .bool y_175.room], bk b_174 61 [.int .i64 y_165.t.id, .int .i64 y_165.t.age, .int .i64 y_165.t.proc, .int .i64 y_165.t.began, .slice y_165.x.a0 y_165.t.calls.length y_165.x.c0, .slice y_165.x.a1 y_165.t.ans.length y_165.x.c1, .slice y_165.x.a2 y_165.t.rd.length y_165.x.c2, .slice y_165.x.a3 y_165.t.wr.length y_165.x.c3, .slice y_165.x.a4 y_165.t.marks.length y_165.x.c4, .int .i64 y_165.t.state], bk b_164 42 [.slice y_159.a0 y_159.store.length y_159.c0, .slice y_159.a1 y_159.txs.length y_159.c1, .slice y_159.dk.a y_159.dk.l.length y_159.dk.c, str y_159.dk.jt, .int .i64 y_159.dk.js, .int .i64 y_159.seq, .int .i64 y_159.next, .int .i64 y_159.time, .slice y_159.a2 y_159.hist.length y_159.c2, .slice y_159.a3 y_159.seen.length y_159.c3, .bool y_159.room], bk b_26 42 [.slice y_21.a0 y_21.store.length y_21.c0, .slice y_21.a1 y_21.txs.length y_21.c1, .slice y_21.dk.a y_21.dk.l.length y_21.dk.c, str y_21.dk.jt, .int .i64 y_21.dk.js, .int .i64 y_21.seq, .int .i64 y_21.next, .int .i64 y_21.time, .slice y_21.a2 y_21.hist.length y_21.c2, .slice y_21.a3 y_21.seen.length y_21.c3, .bool y_21.room], Res.rows (rdsN y_21), Res.rows (rdsX y_12), Res.rows (rdsN y_7), bk b_2 54 [.int .i64 p.t.id, .int .i64 p.t.age, .int .i64 p.t.proc, .int .i64 p.t.began, .slice p.x.a0 p.t.calls.length p.x.c0, .slice p.x.a1 p.t.ans.length p.x.c1, .slice p.x.a2 p.t.rd.length p.x.c2, .slice p.x.a3 p.t.wr.length p.x.c3, .slice p.x.a4 p.t.marks.length p.x.c4, .int .i64 p.t.state], bk b_1 32 [.slice k.a0 k.store.length k.c0, .slice k.a1 k.txs.length k.c1, .slice k.dk.a k.dk.l.length k.dk.c, str k.dk.jt, .int .i64 k.dk.js, .int .i64 k.seq, .int .i64 k.next, .int .i64 k.time, .slice k.a2 k.hist.length k.c2, .slice k.a3 k.seen.length k.c3, .bool k.room]]) (F := []) (by kernel_rfl) ?_
                exact JQ.cut ⟨y_246, y_261, y_276, b_282, hy_247, hl_248, hc_249, hz_250, hy_262, hl_263, hcx_264, hb_265, hb_266, hb_267, hb_268, hb_269, hy_277, hl_278, hc_279, hz_280, he_157, he_158, rfl, rfl, rfl, rfl, rfl⟩
              · skip
                refine JX.op rfl rfl (JO.alloc (z := .agg #[.slice none 0 0, .slice none 0 0, .slice none 0 0, str [], .int .i64 0, .int .i64 0, .int .i64 0, .int .i64 0, .slice none 0 0, .slice none 0 0, .bool false]) (cs := [.slice none 0 0, .slice none 0 0, .slice none 0 0, str [], .int .i64 0, .int .i64 0, .int .i64 0, .int .i64 0, .slice none 0 0, .slice none 0 0, .bool false]) Tryz.zeroValue42 rfl) ?_
                rintro _ _ ⟨b_283, rfl, rfl⟩
                refine ⟨by simp, ?_⟩
                refine JA.one (i := 4) (by kernel_rfl) ?_
                refine JX.op rfl rfl (JO.call [] Tryz.call18 rfl (Z_implWithTx y_246 y_261 hl_248 hl_263) rfl (fun w hw => ⟨hw.seeRows 2 rfl, hw.seeRows 1 rfl⟩)) ?_
                rintro _ _ ⟨_, ⟨y_289, hy_290, rfl, rfl⟩, rfl⟩
                have hl_291 : y_289.dat.lim 1000000000 := by rw [hy_290]; exact (KD.withT_lim hl_248 hl_263)
                have hc_292 : y_289.dat.cnt ≤ 7340032 + 7340039 := by rw [hy_290]; exact (Nat.le_trans (KD.withT_cnt _ _) (Nat.add_le_add hc_249 hcx_264))
                have hz_293 : y_289.cnt ≤ 7340032 + 7340039 := by rw [KX.cnt_dat]; omega
                refine ⟨by simp, ?_⟩
                refine JA.one (i := 6) (by kernel_rfl) ?_
                refine JX.last rfl rfl (by decide) (by kernel_rfl) (JO.store 1 (vs := [.slice y_289.a0 y_289.store.length y_289.c0, .slice y_289.a1 y_289.txs.length y_289.c1, .slice y_289.dk.a y_289.dk.l.length y_289.dk.c, str y_289.dk.jt, .int .i64 y_289.dk.js, .int .i64 y_289.seq, .int .i64 y_289.next, .int .i64 y_289.time, .slice y_289.a2 y_289.hist.length y_289.c2, .slice y_289.a3 y_289.seen.length y_289.c3, .bool y_289.room]) (cs' := [.slice y_289.a0 y_289.store.length y_289.c0, .slice y_289.a1 y_289.txs.length y_289.c1, .slice y_289.dk.a y_289.dk.l.length y_289.dk.c, str y_289.dk.jt, .int .i64 y_289.dk.js, .int .i64 y_289.seq, .int .i64 y_289.next, .int .i64 y_289.time, .slice y_289.a2 y_289.hist.length y_289.c2, .slice y_289.a3 y_289.seen.length y_289.c3, .bool y_289.room]) rfl rfl rfl rfl Tryz.sizeOf42 rfl rfl (Nat.le_of_ble_eq_true rfl) rfl) ?_
                rintro _ _ rfl
                refine JQ.pick [1, 0, 0, 0, 0, 0, 0, 0, 0, 0, 0, 0, 0, 0, 0, 0, 0, 0] (A := [bk b_283 42 [.slice y_289.a0 y_289.store.length y_289.c0, .slice y_289.a1 y_289.txs.length y_289.c1, .slice y_289.dk.a y_289.dk.l.length y_289.dk.c, str y_289.dk.jt, .int .i64 y_289.dk.js, .int .i64 y_289.seq, .int .i64 y_289.next, .int .i64 y_289.time, .slice y_289.a2 y_289.hist.length y_289.c2, .slice y_289.a3 y_289.seen.length y_289.c3, .bool y_289.room], Res.rows (rdsN y_289), Res.rows (rdsX y_261), Res.rows (rdsN y_246), Res.rows (rdsN (mkN y_175 1)), Res.rows (rs_212), Res.rows (rdsN (mkN y_159 1)), Res.rows (rdsX y_202), Res.rows (rdsN y_187), bk b_180 42 [.slice y_175.a0 y_175.store.length y_175.c0, .slice y_175.a1 y_175.txs.length y_175.c1, .slice y_175.dk.a y_175.dk.l.length y_175.dk.c, str y_175.dk.jt, .int .i64 y_175.dk.js, .int .i64 y_175.seq, .int .i64 y_175.next, .int .i64 y_175.time, .slice y_175.a2 y_175.hist.length y_175.c2, .slice y_175.a3 y_175.seen.length y_175.c3, .bool y_175.room], bk b_174 61 [.int .i64 y_165.t.id, .int .i64 y_165.t.age, .int .i64 y_165.t.proc, .int .i64 y_165.t.began, .slice y_165.x.a0 y_165.t.calls.length y_165.x.c0, .slice y_165.x.a1 y_165.t.ans.length y_165.x.c1, .slice y_165.x.a2 y_165.t.rd.length y_165.x.c2, .slice y_165.x.a3 y_165.t.wr.length y_165.x.c3, .slice y_165.x.a4 y_165.t.marks.length y_165.x.c4, .int .i64 y_165.t.state], bk b_164 42 [.slice y_159.a0 y_159.store.length y_159.c0, .slice y_159.a1 y_159.txs.length y_159.c1, .slice y_159.dk.a y_159.dk.l.length y_159.dk.c, str y_159.dk.jt, .int .i64 y_159.dk.js, .int .i64 y_159.seq, .int .i64 y_159.next, .int .i64 y_159.time, .slice y_159.a2 y_159.hist.length y_159.c2, .slice y_159.a3 y_159.seen.length y_159.c3, .bool y_159.room], bk b_26 42 [.slice y_21.a0 y_21.store.length y_21.c0, .slice y_21.a1 y_21.txs.length y_21.c1, .slice y_21.dk.a y_21.dk.l.length y_21.dk.c, str y_21.dk.jt, .int .i64 y_21.dk.js, .int .i64 y_21.seq, .int .i64 y_21.next, .int .i64 y_21.time, .slice y_21.a2 y_21.hist.length y_21.c2, .slice y_21.a3 y_21.seen.length y_21.c3, .bool y_21.room], Res.rows (rdsN y_21), Res.rows (rdsX y_12), Res.rows (rdsN y_7), bk b_2 54 [.int .i64 p.t.id, .int .i64 p.t.age, .int .i64 p.t.proc, .int .i64 p.t.began, .slice p.x.a0 p.t.calls.length p.x.c0, .slice p.x.a1 p.t.ans.length p.x.c1, .slice p.x.a2 p.t.rd.length p.x.c2, .slice p.x.a3 p.t.wr.length p.x.c3, .slice p.x.a4 p.t.marks.length p.x.c4, .int .i64 p.t.state], bk b_1 32 [.slice k.a0 k.store.length k.c0, .slice k.a1 k.txs.length k.c1, .slice k.dk.a k.dk.l.length k.dk.c, str k.dk.jt, .int .i64 k.dk.js, .int .i64 k.seq, .int .i64 k.next, .int .i64 k.time, .slice k.a2 k.hist.length k.c2, .slice k.a3 k.seen.length k.c3, .bool k.room]]) (F := []) (by kernel_rfl) ?_
                exact JQ.cut ⟨y_246, y_261, y_289, b_283, hy_247, hl_248, hc_249, hz_250, hy_262, hl_263, hcx_264, hb_265, hb_266, hb_267, hb_268, hb_269, hy_290, hl_291, hc_292, hz_293, he_157, he_158, rfl, rfl, rfl, rfl, rfl⟩
            · skip
              refine JX.op rfl rfl (JO.alloc (z := .agg #[.slice none 0 0, .slice none 0 0, .slice none 0 0, str [], .int .i64 0, .int .i64 0, .int .i64 0, .int .i64 0, .slice none 0 0, .slice none 0 0, .bool false]) (cs := [.slice none 0 0, .slice none 0 0, .slice none 0 0, str [], .int .i64 0, .int .i64 0, .int .i64 0, .int .i64 0, .slice none 0 0, .slice none 0 0, .bool false]) Tryz.zeroValue42 rfl) ?_
              rintro _ _ ⟨b_294, rfl, rfl⟩
              refine ⟨by simp, ?_⟩
              refine JA.one (i := 3) (by kernel_rfl) ?_
              refine JX.op rfl rfl (JO.call [] Tryz.call17 rfl (C_toTx p hxl) rfl (fun w hw => hw.seeOutAE hpre.2 nMA)) ?_
              rintro _ _ ⟨_, ⟨y_304, hy_305, rfl, rfl⟩, rfl⟩
              have hl_306 : y_304.t.lim 1000000000 := by rw [hy_305]; exact hxB
              have hcx_307 : cntXd y_304.t ≤ 7340039 := by rw [hy_305]; exact hcX
              obtain ⟨hb_308, hb_309, hb_310, hb_311, hb_312⟩ : y_304.t.lim 1048576 := by rw [hy_305]; exact hxl
              refine ⟨by simp, ?_⟩
              refine JA.one (i := 4) (by kernel_rfl) ?_
              refine JX.op rfl rfl (JO.call [] Tryz.call18 rfl (Z_implWithTx y_246 y_304 hl_248 hl_306) rfl (fun w hw => ⟨hw.seeRows 2 rfl, hw.seeRows 0 rfl⟩)) ?_
              rintro _ _ ⟨_, ⟨y_318, hy_319, rfl, rfl⟩, rfl⟩
              have hl_320 : y_318.dat.lim 1000000000 := by rw [hy_319]; exact (KD.withT_lim hl_248 hl_306)
              have hc_321 : y_318.dat.cnt ≤ 7340032 + 7340039 := by rw [hy_319]; exact (Nat.le_trans (KD.withT_cnt _ _) (Nat.add_le_add hc_249 hcx_307))
              have hz_322 : y_318.cnt ≤ 7340032 + 7340039 := by rw [KX.cnt_dat]; omega
              refine ⟨by simp, ?_⟩
              refine JA.one (i := 6) (by kernel_rfl) ?_
              refine JX.last rfl rfl (by decide) (by kernel_rfl) (JO.store 2 (vs := [.slice y_318.a0 y_318.store.length y_318.c0, .slice y_318.a1 y_318.txs.length y_318.c1, .slice y_318.dk.a y_318.dk.l.length y_318.dk.c, str y_318.dk.jt, .int .i64 y_318.dk.js, .int .i64 y_318.seq, .int .i64 y_318.next, .int .i64 y_318.time, .slice y_318.a2 y_318.hist.length y_318.c2, .slice y_318.a3 y_318.seen.length y_318.c3, .bool y_318.room]) (cs' := [.slice y_318.a0 y_318.store.length y_318.c0, .slice y_318.a1 y_318.txs.length y_318.c1, .slice y_318.dk.a y_318.dk.l.length y_318.dk.c, str y_318.dk.jt, .int .i64 y_318.dk.js, .int .i64 y_318.seq, .int .i64 y_318.next, .int .i64 y_318.time, .slice y_318.a2 y_318.hist.length y_318.c2, .slice y_318.a3 y_318.seen.length y_318.c3, .bool y_318.room]) rfl rfl rfl rfl Tryz.sizeOf42 rfl rfl (Nat.le_of_ble_eq_true rfl) rfl) ?_
              rintro _ _ rfl
              refine JQ.pick [2, 0, 0, 0, 0, 0, 0, 0, 0, 0, 0, 0, 0, 0, 0, 0, 0, 0] (A := [bk b_294 42 [.slice y_318.a0 y_318.store.length y_318.c0, .slice y_318.a1 y_318.txs.length y_318.c1, .slice y_318.dk.a y_318.dk.l.length y_318.dk.c, str y_318.dk.jt, .int .i64 y_318.dk.js, .int .i64 y_318.seq, .int .i64 y_318.next, .int .i64 y_318.time, .slice y_318.a2 y_318.hist.length y_318.c2, .slice y_318.a3 y_318.seen.length y_318.c3, .bool y_318.room], Res.rows (rdsN y_318), Res.rows (rdsX y_304), Res.rows (rdsN y_246), Res.rows (rdsN (mkN y_175 1)), Res.rows (rs_212), Res.rows (rdsN (mkN y_159 1)), Res.rows (rdsX y_202), Res.rows (rdsN y_187), bk b_180 42 [.slice y_175.a0 y_175.store.length y_175.c0, .slice y_175.a1 y_175.txs.length y_175.c1, .slice y_175.dk.a y_175.dk.l.length y_175.dk.c, str y_175.dk.jt, .int .i64 y_175.dk.js, .int .i64 y_175.seq, .int .i64 y_175.next, .int .i64 y_175.time, .slice y_175.a2 y_175.hist.length y_175.c2, .slice y_175.a3 y_175.seen.length y_175.c3, .bool y_175.room], bk b_174 61 [.int .i64 y_165.t.id, .int .i64 y_165.t.age, .int .i64 y_165.t.proc, .int .i64 y_165.t.began, .slice y_165.x.a0 y_165.t.calls.length y_165.x.c0, .slice y_165.x.a1 y_165.t.ans.length y_165.x.c1, .slice y_165.x.a2 y_165.t.rd.length y_165.x.c2, .slice y_165.x.a3 y_165.t.wr.length y_165.x.c3, .slice y_165.x.a4 y_165.t.marks.length y_165.x.c4, .int .i64 y_165.t.state], bk b_164 42 [.slice y_159.a0 y_159.store.length y_159.c0, .slice y_159.a1 y_159.txs.length y_159.c1, .slice y_159.dk.a y_159.dk.l.length y_159.dk.c, str y_159.dk.jt, .int .i64 y_159.dk.js, .int .i64 y_159.seq, .int .i64 y_159.next, .int .i64 y_159.time, .slice y_159.a2 y_159.hist.length y_159.c2, .slice y_159.a3 y_159.seen.length y_159.c3, .bool y_159.room], bk b_26 42 [.slice y_21.a0 y_21.store.length y_21.c0, .slice y_21.a1 y_21.txs.length y_21.c1, .slice y_21.dk.a y_21.dk.l.length y_21.dk.c, str y_21.dk.jt, .int .i64 y_21.dk.js, .int .i64 y_21.seq, .int .i64 y_21.next, .int .i64 y_21.time, .slice y_21.a2 y_21.hist.length y_21.c2, .slice y_21.a3 y_21.seen.length y_21.c3, .bool y_21.room], Res.rows (rdsN y_21), Res.rows (rdsX y_12), Res.rows (rdsN y_7), bk b_2 54 [.int .i64 p.t.id, .int .i64 p.t.age, .int .i64 p.t.proc, .int .i64 p.t.began, .slice p.x.a0 p.t.calls.length p.x.c0, .slice p.x.a1 p.t.ans.length p.x.c1, .slice p.x.a2 p.t.rd.length p.x.c2, .slice p.x.a3 p.t.wr.length p.x.c3, .slice p.x.a4 p.t.marks.length p.x.c4, .int .i64 p.t.state], bk b_1 32 [.slice k.a0 k.store.length k.c0, .slice k.a1 k.txs.length k.c1, .slice k.dk.a k.dk.l.length k.dk.c, str k.dk.jt, .int .i64 k.dk.js, .int .i64 k.seq, .int .i64 k.next, .int .i64 k.time, .slice k.a2 k.hist.length k.c2, .slice k.a3 k.seen.length k.c3, .bool k.room]]) (F := []) (by kernel_rfl) ?_
              exact JQ.cut ⟨y_246, y_304, y_318, b_294, hy_247, hl_248, hc_249, hz_250, hy_305, hl_306, hcx_307, hb_308, hb_309, hb_310, hb_311, hb_312, hy_319, hl_320, hc_321, hz_322, he_157, he_158, rfl, rfl, rfl, rfl, rfl⟩
          · skip
            refine JX.op rfl rfl (JO.alloc (z := .agg #[.slice none 0 0, .slice none 0 0, .slice none 0 0, str [], .int .i64 0, .int .i64 0, .int .i64 0, .int .i64 0, .slice none 0 0, .slice none 0 0, .bool false]) (cs := [.slice none 0 0, .slice none 0 0, .slice none 0 0, str [], .int .i64 0, .int .i64 0, .int .i64 0, .int .i64 0, .slice none 0 0, .slice none 0 0, .bool false]) Tryz.zeroValue42 rfl) ?_
            rintro _ _ ⟨b_323, rfl, rfl⟩
            refine ⟨by simp, ?_⟩
            refine JA.one (i := 1) (by kernel_rfl) ?_
            refine JX.op rfl rfl (JO.call [] Tryz.call10 rfl (C_toKernel k hl) rfl (fun w hw => hw.seeOutAE hpre.1 nMA)) ?_
            rintro _ _ ⟨_, ⟨y_329, hy_330, rfl, rfl⟩, rfl⟩
            have hl_331 : y_329.dat.lim 1000000000 := by rw [hy_330]; exact hlB
            have hc_332 : y_329.dat.cnt ≤ 7340032 := by rw [hy_330]; exact hcB
            have hz_333 : y_329.cnt ≤ 7340032 := by rw [KX.cnt_dat]; omega
            refine ⟨by simp, ?_⟩
            refine JA.one (i := 3) (by kernel_rfl) ?_
            refine JX.op rfl rfl (JO.call [] Tryz.call17 rfl (C_toTx p hxl) rfl (fun w hw => hw.seeOutAE hpre.2 nMA)) ?_
            rintro _ _ ⟨_, ⟨y_343, hy_344, rfl, rfl⟩, rfl⟩
            have hl_345 : y_343.t.lim 1000000000 := by rw [hy_344]; exact hxB
            have hcx_346 : cntXd y_343.t ≤ 7340039 := by rw [hy_344]; exact hcX
            obtain ⟨hb_347, hb_348, hb_349, hb_350, hb_351⟩ : y_343.t.lim 1048576 := by rw [hy_344]; exact hxl
            refine ⟨by simp, ?_⟩
            refine JA.one (i := 4) (by kernel_rfl) ?_
            refine JX.op rfl rfl (JO.call [] Tryz.call18 rfl (Z_implWithTx y_329 y_343 hl_331 hl_345) rfl (fun w hw => ⟨hw.seeRows 1 rfl, hw.seeRows 0 rfl⟩)) ?_
            rintro _ _ ⟨_, ⟨y_357, hy_358, rfl, rfl⟩, rfl⟩
            have hl_359 : y_357.dat.lim 1000000000 := by rw [hy_358]; exact (KD.withT_lim hl_331 hl_345)
            have hc_360 : y_357.dat.cnt ≤ 7340032 + 7340039 := by rw [hy_358]; exact (Nat.le_trans (KD.withT_cnt _ _) (Nat.add_le_add hc_332 hcx_346))
            have hz_361 : y_357.cnt ≤ 7340032 + 7340039 := by rw [KX.cnt_dat]; omega
            refine ⟨by simp, ?_⟩
            refine JA.one (i := 6) (by kernel_rfl) ?_
            refine JX.last rfl rfl (by decide) (by kernel_rfl) (JO.store 3 (vs := [.slice y_357.a0 y_357.store.length y_357.c0, .slice y_357.a1 y_357.txs.length y_357.c1, .slice y_357.dk.a y_357.dk.l.length y_357.dk.c, str y_357.dk.jt, .int .i64 y_357.dk.js, .int .i64 y_357.seq, .int .i64 y_357.next, .int .i64 y_357.time, .slice y_357.a2 y_357.hist.length y_357.c2, .slice y_357.a3 y_357.seen.length y_357.c3, .bool y_357.room]) (cs' := [.slice y_357.a0 y_357.store.length y_357.c0, .slice y_357.a1 y_357.txs.length y_357.c1, .slice y_357.dk.a y_357.dk.l.length y_357.dk.c, str y_357.dk.jt, .int .i64 y_357.dk.js, .int .i64 y_357.seq, .int .i64 y_357.next, .int .i64 y_357.time, .slice y_357.a2 y_357.hist.length y_357.c2, .slice y_357.a3 y_357.seen.length y_357.c3, .bool y_357.room]) rfl rfl rfl rfl Tryz.sizeOf42 rfl rfl (Nat.le_of_ble_eq_true rfl) rfl) ?_
            rintro _ _ rfl
            refine JQ.pick [3, 0, 0, 0, 0, 0, 0, 0, 0, 0, 0, 0, 0, 0, 0, 0, 0, 0] (A := [bk b_323 42 [.slice y_357.a0 y_357.store.length y_357.c0, .slice y_357.a1 y_357.txs.length y_357.c1, .slice y_357.dk.a y_357.dk.l.length y_357.dk.c, str y_357.dk.jt, .int .i64 y_357.dk.js, .int .i64 y_357.seq, .int .i64 y_357.next, .int .i64 y_357.time, .slice y_357.a2 y_357.hist.length y_357.c2, .slice y_357.a3 y_357.seen.length y_357.c3, .bool y_357.room], Res.rows (rdsN y_357), Res.rows (rdsX y_343), Res.rows (rdsN y_329), Res.rows (rdsN (mkN y_175 1)), Res.rows (rs_212), Res.rows (rdsN (mkN y_159 1)), Res.rows (rdsX y_202), Res.rows (rdsN y_187), bk b_180 42 [.slice y_175.a0 y_175.store.length y_175.c0, .slice y_175.a1 y_175.txs.length y_175.c1, .slice y_175.dk.a y_175.dk.l.length y_175.dk.c, str y_175.dk.jt, .int .i64 y_175.dk.js, .int .i64 y_175.seq, .int .i64 y_175.next, .int .i64 y_175.time, .slice y_175.a2 y_175.hist.length y_175.c2, .slice y_175.a3 y_175.seen.length y_175.c3, .bool y_175.room], bk b_174 61 [.int .i64 y_165.t.id, .int .i64 y_165.t.age, .int .i64 y_165.t.proc, .int .i64 y_165.t.began, .slice y_165.x.a0 y_165.t.calls.length y_165.x.c0, .slice y_165.x.a1 y_165.t.ans.length y_165.x.c1, .slice y_165.x.a2 y_165.t.rd.length y_165.x.c2, .slice y_165.x.a3 y_165.t.wr.length y_165.x.c3, .slice y_165.x.a4 y_165.t.marks.length y_165.x.c4, .int .i64 y_165.t.state], bk b_164 42 [.slice y_159.a0 y_159.store.length y_159.c0, .slice y_159.a1 y_159.txs.length y_159.c1, .slice y_159.dk.a y_159.dk.l.length y_159.dk.c, str y_159.dk.jt, .int .i64 y_159.dk.js, .int .i64 y_159.seq, .int .i64 y_159.next, .int .i64 y_159.time, .slice y_159.a2 y_159.hist.length y_159.c2, .slice y_159.a3 y_159.seen.length y_159.c3, .bool y_159.room], bk b_26 42 [.slice y_21.a0 y_21.store.length y_21.c0, .slice y_21.a1 y_21.txs.length y_21.c1, .slice y_21.dk.a y_21.dk.l.length y_21.dk.c, str y_21.dk.jt, .int .i64 y_21.dk.js, .int .i64 y_21.seq, .int .i64 y_21.next, .int .i64 y_21.time, .slice y_21.a2 y_21.hist.length y_21.c2, .slice y_21.a3 y_21.seen.length y_21.c3, .bool y_21.room], Res.rows (rdsN y_21), Res.rows (rdsX y_12), Res.rows (rdsN y_7), bk b_2 54 [.int .i64 p.t.id, .int .i64 p.t.age, .int .i64 p.t.proc, .int .i64 p.t.began, .slice p.x.a0 p.t.calls.length p.x.c0, .slice p.x.a1 p.t.ans.length p.x.c1, .slice p.x.a2 p.t.rd.length p.x.c2, .slice p.x.a3 p.t.wr.length p.x.c3, .slice p.x.a4 p.t.marks.length p.x.c4, .int .i64 p.t.state], bk b_1 32 [.slice k.a0 k.store.length k.c0, .slice k.a1 k.txs.length k.c1, .slice k.dk.a k.dk.l.length k.dk.c, str k.dk.jt, .int .i64 k.dk.js, .int .i64 k.seq, .int .i64 k.next, .int .i64 k.time, .slice k.a2 k.hist.length k.c2, .slice k.a3 k.seen.length k.c3, .bool k.room]]) (F := []) (by kernel_rfl) ?_
            exact JQ.cut ⟨y_329, y_343, y_357, b_323, hy_330, hl_331, hc_332, hz_333, hy_344, hl_345, hcx_346, hb_347, hb_348, hb_349, hb_350, hb_351, hy_358, hl_359, hc_360, hz_361, he_157, he_158, rfl, rfl, rfl, rfl, rfl⟩
        · skip
          rintro e_362 _ ⟨y_215, y_220, y_229, b_234, hy_216, hl_217, hc_218, hz_219, hy_221, hl_222, hcx_223, hb_224, hb_225, hb_226, hb_227, hb_228, hy_230, hl_231, hc_232, hz_233, he_363, he_364, he_365, he_366, he_367, he_368, rfl⟩
          refine JQ.seq ?_
          refine JC.seq ?_
          refine JC.seq ?_
          refine JC.region ?_
          refine JL.ld rfl (LO.loadK 0 (vs := [.slice y_229.a0 y_229.store.length y_229.c0, .slice y_229.a1 y_229.txs.length y_229.c1, .slice y_229.dk.a y_229.dk.l.length y_229.dk.c, str y_229.dk.jt, .int .i64 y_229.dk.js, .int .i64 y_229.seq, .int .i64 y_229.next, .int .i64 y_229.time, .slice y_229.a2 y_229.hist.length y_229.c2, .slice y_229.a3 y_229.seen.length y_229.c3, .bool y_229.room]) rfl he_368 Tryz.isAgg42 Tryz.sizeOf42 rfl rfl) ?_
          refine JL.ld rfl (LO.loadK 12 (vs := [.slice y_21.a0 y_21.store.length y_21.c0, .slice y_21.a1 y_21.txs.length y_21.c1, .slice y_21.dk.a y_21.dk.l.length y_21.dk.c, str y_21.dk.jt, .int .i64 y_21.dk.js, .int .i64 y_21.seq, .int .i64 y_21.next, .int .i64 y_21.time, .slice y_21.a2 y_21.hist.length y_21.c2, .slice y_21.a3 y_21.seen.length y_21.c3, .bool y_21.room]) rfl he_364 Tryz.isAgg42 Tryz.sizeOf42 rfl rfl) ?_
          refine JL.op rfl (JO.call [] Tryz.call12 rfl (C_eqKernel y_229 y_21 hl_231) rfl (fun w hw => ⟨hw.seeRows 1 rfl, hw.seeRows 13 rfl⟩)) ?_
          rintro _ _ ⟨_, ⟨rfl, rfl⟩, rfl⟩
          refine JL.pure rfl (PO.not rfl) ?_
          refine JL.nil ?_
          refine JQ.seq ?_
          have h_369 : y_229.dat = y_21.dat := (by simp only [hy_8, hy_13, hy_22, hy_160, hy_166, hy_176, hy_188, hy_203, hy_216, hy_221, hy_230])
          refine JC.condF (congrArg Value.bool (congrArg Bool.not (decide_eq_true h_369))) ?_
          refine JC.skip ?_
          refine JQ.seq ?_
          refine JC.seq ?_
          refine JC.region ?_
          refine JL.pure rfl (PO.assign (v := .int .i64 1) rfl) ?_
          refine JL.nil ?_
          refine JQ.seq ?_
          refine JC.seq ?_
          refine JC.region ?_
          refine JL.ld rfl (LO.loadK 9 (vs := [.slice y_175.a0 y_175.store.length y_175.c0, .slice y_175.a1 y_175.txs.length y_175.c1, .slice y_175.dk.a y_175.dk.l.length y_175.dk.c, str y_175.dk.jt, .int .i64 y_175.dk.js, .int .i64 y_175.seq, .int .i64 y_175.next, .int .i64 y_175.time, .slice y_175.a2 y_175.hist.length y_175.c2, .slice y_175.a3 y_175.seen.length y_175.c3, .bool y_175.room]) rfl he_365 Tryz.isAgg42 Tryz.sizeOf42 rfl rfl) ?_
          refine JL.pure rfl (PO.move (v := .int .i64 1) rfl) ?_
          refine JL.op rfl (JO.call [] Tryz.call14 rfl (C_heldKernel y_175 1 (by omega) (by omega) hl_177) rfl (fun w hw => hw.seeRows 4 rfl)) ?_
          rintro _ _ ⟨_, ⟨rfl, rfl⟩, rfl⟩
          refine JL.pure rfl (PO.assign (v := .int .i64 ((1 + y_175.cnt : Nat) : Int)) rfl) ?_
          refine JL.nil ?_
          refine JQ.seq ?_
          refine JC.seq ?_
          refine JC.seq ?_
          refine JC.region ?_
          refine JL.pure rfl (PO.move (v := .int .i64 ((1 + y_175.cnt : Nat) : Int)) rfl) ?_
          refine JL.pure rfl (PO.lss rfl rfl) ?_
          refine JL.nil ?_
          refine JQ.seq ?_
          refine JC.condF (congrArg Value.bool (decide_eq_false h_214)) ?_
          refine JC.skip ?_
          refine JQ.seq ?_
          refine JC.seq ?_
          refine JC.seq ?_
          refine JC.region ?_
          refine JL.pure rfl (PO.move (v := .int .i64 ((1 + y_175.cnt : Nat) : Int)) rfl) ?_
          refine JL.pure rfl (PO.move (v := .int .i64 ((1 + y_175.cnt : Nat) : Int)) he_366) ?_
          refine JL.pure rfl (PO.neqI rfl rfl) ?_
          refine JL.nil ?_
          refine JQ.seq ?_
          refine JC.condF (congrArg Value.bool (congrArg Bool.not (decide_eq_true rfl))) ?_
          refine JC.skip ?_
          refine JQ.seq ?_
          refine JC.seq ?_
          refine JC.region ?_
          refine JL.pure rfl (PO.assign (v := .bool true) rfl) ?_
          refine JL.nil ?_
          refine JQ.seq ?_
          refine JC.ret ?_
          refine Done.one (.inl rfl) rfl (RV.tmp (v := .bool true) rfl) (List.nil_sublist _) ?_
          exact ⟨rfl, rfl⟩

end Go.Proofs.YtkmpmjficoohkaaGreat
