/-
  The laws' own helpers on nested rows: transactions, slots, disks, entries, kernels (part 40).
-/
import Derived.Test.YtkmpmjficoohkaaGreatS40DEEPp2
set_option linter.unusedSimpArgs false
set_option linter.unusedVariables false
set_option linter.unnecessarySimpa false
namespace Go.Proofs.YtkmpmjficoohkaaGreat
open Go Go.RowKit
attribute [local irreducible] JL JC JQ JO LO PO JA JX Ct
theorem C_eqKernel (k r : KX) (hl : k.dat.lim 1000000000) :
    Ct Tryz.prog 12 [.agg #[.slice k.a0 k.store.length k.c0, .slice k.a1 k.txs.length k.c1, .slice k.dk.a k.dk.l.length k.dk.c, str k.dk.jt, .int .i64 k.dk.js, .int .i64 k.seq, .int .i64 k.next, .int .i64 k.time, .slice k.a2 k.hist.length k.c2, .slice k.a3 k.seen.length k.c3, .bool k.room], .agg #[.slice r.a0 r.store.length r.c0, .slice r.a1 r.txs.length r.c1, .slice r.dk.a r.dk.l.length r.dk.c, str r.dk.jt, .int .i64 r.dk.js, .int .i64 r.seq, .int .i64 r.next, .int .i64 r.time, .slice r.a2 r.hist.length r.c2, .slice r.a3 r.seen.length r.c3, .bool r.room]] [] (fun w => SeesA w (rdsN k) ∧ SeesA w (rdsN r)) (fun v A' => v = .bool (decide (k.dat = r.dat)) ∧ A' = []) := by
  refine Ct.intro Tryz.func12 rfl Tryz.ntmps12 (Nat.le_of_ble_eq_true rfl) fun w0 hpre => ?_
  obtain ⟨hs_1, hs_2, hs_3, hs_4, hs_5⟩ := seesN hpre.1
  have hs_6 : Sees w0 (.slice k.a1 k.txs.length k.c1) 10 k.txs.length (k.txs.flatMap encX) := (hs_3).head
  have hi_7 : SeesA w0 (k.txs.flatMap rdsX) := (hs_3).tail
  have hs_8 : Sees w0 (.slice k.dk.a k.dk.l.length k.dk.c) 3 k.dk.l.length (k.dk.l.flatMap encO) := (hs_4).head
  have hi_9 : SeesA w0 (k.dk.l.flatMap rdsO) := (hs_4).tail
  have hs_10 : Sees w0 (.slice k.a2 k.hist.length k.c2) 8 k.hist.length (k.hist.flatMap encE) := (hs_5).head
  have hi_11 : SeesA w0 (k.hist.flatMap rdsE) := (hs_5).tail
  obtain ⟨hs_12, hs_13, hs_14, hs_15, hs_16⟩ := seesN hpre.2
  have hs_17 : Sees w0 (.slice r.a1 r.txs.length r.c1) 10 r.txs.length (r.txs.flatMap encX) := (hs_14).head
  have hi_18 : SeesA w0 (r.txs.flatMap rdsX) := (hs_14).tail
  have hs_19 : Sees w0 (.slice r.dk.a r.dk.l.length r.dk.c) 3 r.dk.l.length (r.dk.l.flatMap encO) := (hs_15).head
  have hi_20 : SeesA w0 (r.dk.l.flatMap rdsO) := (hs_15).tail
  have hs_21 : Sees w0 (.slice r.a2 r.hist.length r.c2) 8 r.hist.length (r.hist.flatMap encE) := (hs_16).head
  have hi_22 : SeesA w0 (r.hist.flatMap rdsE) := (hs_16).tail
  have hm0 : k.store.length ≤ 1000000000 := hl.l0
  have hm6 : k.seen.length ≤ 1000000000 := hl.l6
  have hm1 : k.txs.length ≤ 1000000000 := by have := hl.l1; simpa only [KX.dat, List.length_map] using this
  have hm2 : ∀ q ∈ k.txs, q.t.lim 1000000000 := fun q hq => hl.l2 _ (List.mem_map_of_mem hq)
  have hm4 : k.hist.length ≤ 1000000000 := by have := hl.l4; simpa only [KX.dat, List.length_map] using this
  have hm5 : ∀ q ∈ k.hist, q.t.lim 1000000000 := fun q hq => hl.l5 _ (List.mem_map_of_mem hq)
  refine JC.seq ?_
  refine JC.region ?_
  refine JL.op rfl (JO.box (cs := [.slice k.a0 k.store.length k.c0, .slice k.a1 k.txs.length k.c1, .slice k.dk.a k.dk.l.length k.dk.c, str k.dk.jt, .int .i64 k.dk.js, .int .i64 k.seq, .int .i64 k.next, .int .i64 k.time, .slice k.a2 k.hist.length k.c2, .slice k.a3 k.seen.length k.c3, .bool k.room]) rfl rfl) ?_
  rintro _ _ ⟨b_23, rfl, rfl⟩
  refine JL.op rfl (JO.box (cs := [.slice r.a0 r.store.length r.c0, .slice r.a1 r.txs.length r.c1, .slice r.dk.a r.dk.l.length r.dk.c, str r.dk.jt, .int .i64 r.dk.js, .int .i64 r.seq, .int .i64 r.next, .int .i64 r.time, .slice r.a2 r.hist.length r.c2, .slice r.a3 r.seen.length r.c3, .bool r.room]) rfl rfl) ?_
  rintro _ _ ⟨b_24, rfl, rfl⟩
  refine JL.pure rfl (PO.assign (v := .bool false) rfl) ?_
  refine JL.nil ?_
  refine JQ.seq ?_
  refine JC.seq ?_
  refine JC.seq ?_
  refine JC.region ?_
  refine JL.pure rfl (PO.fieldAddr fo42_0 rfl) ?_
  refine JL.ld rfl (LO.load1 1 (v := .slice k.a0 k.store.length k.c0) rfl rfl Tryz.isAgg34 rfl) ?_
  refine JL.pure rfl (PO.fieldAddr fo42_0 rfl) ?_
  refine JL.ld rfl (LO.load1 0 (v := .slice r.a0 r.store.length r.c0) rfl rfl Tryz.isAgg34 rfl) ?_
  refine JL.op rfl (JO.call [] Tryz.call39 rfl (C_eqCellS k.a0 r.a0 k.c0 r.c0 k.store r.store (by omega)) rfl (fun w hw => ⟨hw.seeOut_ hs_1 (fun _ _ => List.not_mem_nil), hw.seeOut_ hs_12 (fun _ _ => List.not_mem_nil)⟩)) ?_
  rintro _ _ ⟨_, ⟨rfl, rfl⟩, rfl⟩
  refine JL.pure rfl (PO.not rfl) ?_
  refine JL.nil ?_
  refine JQ.seq ?_
  by_cases h_25 : k.store = r.store
  · skip
    refine JC.condF (congrArg Value.bool (congrArg Bool.not (decide_eq_true h_25))) ?_
    refine JC.skip ?_
    refine JQ.seq ?_
    refine JC.seq ?_
    refine JC.seq ?_
    refine JC.region ?_
    refine JL.pure rfl (PO.fieldAddr fo42_1 rfl) ?_
    refine JL.ld rfl (LO.load1 1 (v := .slice k.a1 k.txs.length k.c1) rfl rfl Tryz.isAgg35 rfl) ?_
    refine JL.pure rfl (PO.fieldAddr fo42_1 rfl) ?_
    refine JL.ld rfl (LO.load1 0 (v := .slice r.a1 r.txs.length r.c1) rfl rfl Tryz.isAgg35 rfl) ?_
    refine JL.op rfl (JO.call [] Tryz.call40 rfl (C_eqTxS k.a1 r.a1 k.c1 r.c1 k.txs r.txs (by omega) hm2) rfl (fun w hw => ⟨SeesA.cons (hw.seeOut_ hs_6 (fun _ _ => List.not_mem_nil)) (hw.seeOutA hi_7 nMA), SeesA.cons (hw.seeOut_ hs_17 (fun _ _ => List.not_mem_nil)) (hw.seeOutA hi_18 nMA)⟩)) ?_
    rintro _ _ ⟨_, ⟨rfl, rfl⟩, rfl⟩
    refine JL.pure rfl (PO.not rfl) ?_
    refine JL.nil ?_
    refine JQ.seq ?_
    by_cases h_26 : k.txs.map TX.t = r.txs.map TX.t
    · skip
      refine JC.condF (congrArg Value.bool (congrArg Bool.not (decide_eq_true h_26))) ?_
      refine JC.skip ?_
      refine JQ.seq ?_
      refine JC.seq ?_
      refine JC.seq ?_
      refine JC.region ?_
      refine JL.pure rfl (PO.fieldAddr fo42_2 rfl) ?_
      refine JL.ld rfl (LO.loadK 1 (vs := [.slice k.dk.a k.dk.l.length k.dk.c, str k.dk.jt, .int .i64 k.dk.js]) rfl rfl Tryz.isAgg39 Tryz.sizeOf39 rfl rfl) ?_
      refine JL.pure rfl (PO.fieldAddr fo42_2 rfl) ?_
      refine JL.ld rfl (LO.loadK 0 (vs := [.slice r.dk.a r.dk.l.length r.dk.c, str r.dk.jt, .int .i64 r.dk.js]) rfl rfl Tryz.isAgg39 Tryz.sizeOf39 rfl rfl) ?_
      refine JL.op rfl (JO.call [] Tryz.call41 rfl (C_eqDisk k.dk r.dk hl.l3) rfl (fun w hw => ⟨hw.seeOutA hs_4 nMA, hw.seeOutA hs_15 nMA⟩)) ?_
      rintro _ _ ⟨_, ⟨rfl, rfl⟩, rfl⟩
      refine JL.pure rfl (PO.not rfl) ?_
      refine JL.nil ?_
      refine JQ.seq ?_
      by_cases h_27 : k.dk.dat = r.dk.dat
      · skip
        refine JC.condF (congrArg Value.bool (congrArg Bool.not (decide_eq_true h_27))) ?_
        refine JC.skip ?_
        refine JQ.seq ?_
        refine JC.seq ?_
        refine JC.seq ?_
        refine JC.region ?_
        refine JL.pure rfl (PO.fieldAddr fo42_3 rfl) ?_
        refine JL.ld rfl (LO.load1 1 (v := .int .i64 k.seq) rfl rfl Tryz.isAgg3 rfl) ?_
        refine JL.pure rfl (PO.fieldAddr fo42_3 rfl) ?_
        refine JL.ld rfl (LO.load1 0 (v := .int .i64 r.seq) rfl rfl Tryz.isAgg3 rfl) ?_
        refine JL.pure rfl (PO.neqI rfl rfl) ?_
        refine JL.nil ?_
        refine JQ.seq ?_
        by_cases h_28 : k.seq = r.seq
        · skip
          refine JC.condF (congrArg Value.bool (congrArg Bool.not (decide_eq_true h_28))) ?_
          refine JC.skip ?_
          refine JQ.seq ?_
          refine JC.seq ?_
          refine JC.seq ?_
          refine JC.region ?_
          refine JL.pure rfl (PO.fieldAddr fo42_4 rfl) ?_
          refine JL.ld rfl (LO.load1 1 (v := .int .i64 k.next) rfl rfl Tryz.isAgg3 rfl) ?_
          refine JL.pure rfl (PO.fieldAddr fo42_4 rfl) ?_
          refine JL.ld rfl (LO.load1 0 (v := .int .i64 r.next) rfl rfl Tryz.isAgg3 rfl) ?_
          refine JL.pure rfl (PO.neqI rfl rfl) ?_
          refine JL.nil ?_
          refine JQ.seq ?_
          by_cases h_29 : k.next = r.next
          · skip
            refine JC.condF (congrArg Value.bool (congrArg Bool.not (decide_eq_true h_29))) ?_
            refine JC.skip ?_
            refine JQ.seq ?_
            refine JC.seq ?_
            refine JC.seq ?_
            refine JC.region ?_
            refine JL.pure rfl (PO.fieldAddr fo42_5 rfl) ?_
            refine JL.ld rfl (LO.load1 1 (v := .int .i64 k.time) rfl rfl Tryz.isAgg3 rfl) ?_
            refine JL.pure rfl (PO.fieldAddr fo42_5 rfl) ?_
            refine JL.ld rfl (LO.load1 0 (v := .int .i64 r.time) rfl rfl Tryz.isAgg3 rfl) ?_
            refine JL.pure rfl (PO.neqI rfl rfl) ?_
            refine JL.nil ?_
            refine JQ.seq ?_
            by_cases h_30 : k.time = r.time
            · skip
              refine JC.condF (congrArg Value.bool (congrArg Bool.not (decide_eq_true h_30))) ?_
              refine JC.skip ?_
              refine JQ.seq ?_
              refine JC.seq ?_
              refine JC.seq ?_
              refine JC.region ?_
              refine JL.pure rfl (PO.fieldAddr fo42_6 rfl) ?_
              refine JL.ld rfl (LO.load1 1 (v := .slice k.a2 k.hist.length k.c2) rfl rfl Tryz.isAgg40 rfl) ?_
              refine JL.pure rfl (PO.fieldAddr fo42_6 rfl) ?_
              refine JL.ld rfl (LO.load1 0 (v := .slice r.a2 r.hist.length r.c2) rfl rfl Tryz.isAgg40 rfl) ?_
              refine JL.op rfl (JO.call [] Tryz.call42 rfl (C_eqEntryS k.a2 r.a2 k.c2 r.c2 k.hist r.hist (by omega) hm5) rfl (fun w hw => ⟨SeesA.cons (hw.seeOut_ hs_10 (fun _ _ => List.not_mem_nil)) (hw.seeOutA hi_11 nMA), SeesA.cons (hw.seeOut_ hs_21 (fun _ _ => List.not_mem_nil)) (hw.seeOutA hi_22 nMA)⟩)) ?_
              rintro _ _ ⟨_, ⟨rfl, rfl⟩, rfl⟩
              refine JL.pure rfl (PO.not rfl) ?_
              refine JL.nil ?_
              refine JQ.seq ?_
              by_cases h_31 : k.hist.map EX.t = r.hist.map EX.t
              · skip
                refine JC.condF (congrArg Value.bool (congrArg Bool.not (decide_eq_true h_31))) ?_
                refine JC.skip ?_
                refine JQ.seq ?_
                refine JC.seq ?_
                refine JC.seq ?_
                refine JC.region ?_
                refine JL.pure rfl (PO.fieldAddr fo42_7 rfl) ?_
                refine JL.ld rfl (LO.load1 1 (v := .slice k.a3 k.seen.length k.c3) rfl rfl Tryz.isAgg30 rfl) ?_
                refine JL.pure rfl (PO.fieldAddr fo42_7 rfl) ?_
                refine JL.ld rfl (LO.load1 0 (v := .slice r.a3 r.seen.length r.c3) rfl rfl Tryz.isAgg30 rfl) ?_
                refine JL.op rfl (JO.call [] Tryz.call43 rfl (C_eqStringS k.a3 r.a3 k.c3 r.c3 k.seen r.seen (by omega)) rfl (fun w hw => ⟨hw.seeOut_ hs_2 (fun _ _ => List.not_mem_nil), hw.seeOut_ hs_13 (fun _ _ => List.not_mem_nil)⟩)) ?_
                rintro _ _ ⟨_, ⟨rfl, rfl⟩, rfl⟩
                refine JL.pure rfl (PO.not rfl) ?_
                refine JL.nil ?_
                refine JQ.seq ?_
                by_cases h_32 : k.seen = r.seen
                · skip
                  refine JC.condF (congrArg Value.bool (congrArg Bool.not (decide_eq_true h_32))) ?_
                  refine JC.skip ?_
                  refine JQ.seq ?_
                  refine JC.seq ?_
                  refine JC.seq ?_
                  refine JC.region ?_
                  refine JL.pure rfl (PO.fieldAddr fo42_8 rfl) ?_
                  refine JL.ld rfl (LO.load1 1 (v := .bool k.room) rfl rfl Tryz.isAgg4 rfl) ?_
                  refine JL.pure rfl (PO.fieldAddr fo42_8 rfl) ?_
                  refine JL.ld rfl (LO.load1 0 (v := .bool r.room) rfl rfl Tryz.isAgg4 rfl) ?_
                  refine JL.pure rfl (PO.neqB Tryz.underlying4 rfl rfl) ?_
                  refine JL.nil ?_
                  refine JQ.seq ?_
                  by_cases h_33 : k.room = r.room
                  · skip
                    refine JC.condF (congrArg Value.bool (congrArg Bool.not (decide_eq_true h_33))) ?_
                    refine JC.skip ?_
                    refine JQ.seq ?_
                    refine JC.seq ?_
                    refine JC.region ?_
                    refine JL.pure rfl (PO.assign (v := .bool true) rfl) ?_
                    refine JL.nil ?_
                    refine JQ.seq ?_
                    refine JC.ret ?_
                    refine Done.one (.inl rfl) rfl (RV.tmp (v := .bool true) rfl) (List.nil_sublist _) ?_
                    exact ⟨congrArg Value.bool (decide_eq_true (KD.same.2 ⟨by assumption, by assumption, by assumption, by assumption, by assumption, by assumption, by assumption, by assumption, by assumption⟩)).symm, rfl⟩
                  · skip
                    refine JC.condT (congrArg Value.bool (congrArg Bool.not (decide_eq_false h_33))) ?_
                    refine JC.seq ?_
                    refine JC.region ?_
                    refine JL.pure rfl (PO.assign (v := .bool false) rfl) ?_
                    refine JL.nil ?_
                    refine JQ.seq ?_
                    refine JC.ret ?_
                    refine JQ.thenRet ?_
                    refine Done.one (.inl rfl) rfl (RV.tmp (v := .bool false) rfl) (List.nil_sublist _) ?_
                    exact ⟨congrArg Value.bool (decide_eq_false (fun h_ => by obtain ⟨h_0, h_1, h_2, h_3, h_4, h_5, h_6, h_7, h_8⟩ := KD.same.1 h_; first | exact absurd (show k.store = r.store from h_0) (by assumption) | exact absurd (show k.txs.map TX.t = r.txs.map TX.t from h_1) (by assumption) | exact absurd (show k.dk.dat = r.dk.dat from h_2) (by assumption) | exact absurd (show k.seq = r.seq from h_3) (by assumption) | exact absurd (show k.next = r.next from h_4) (by assumption) | exact absurd (show k.time = r.time from h_5) (by assumption) | exact absurd (show k.hist.map EX.t = r.hist.map EX.t from h_6) (by assumption) | exact absurd (show k.seen = r.seen from h_7) (by assumption) | exact absurd (show k.room = r.room from h_8) (by assumption))).symm, rfl⟩
                · skip
                  refine JC.condT (congrArg Value.bool (congrArg Bool.not (decide_eq_false h_32))) ?_
                  refine JC.seq ?_
                  refine JC.region ?_
                  refine JL.pure rfl (PO.assign (v := .bool false) rfl) ?_
                  refine JL.nil ?_
                  refine JQ.seq ?_
                  refine JC.ret ?_
                  refine JQ.thenRet ?_
                  refine Done.one (.inl rfl) rfl (RV.tmp (v := .bool false) rfl) (List.nil_sublist _) ?_
                  exact ⟨congrArg Value.bool (decide_eq_false (fun h_ => by obtain ⟨h_0, h_1, h_2, h_3, h_4, h_5, h_6, h_7, h_8⟩ := KD.same.1 h_; first | exact absurd (show k.store = r.store from h_0) (by assumption) | exact absurd (show k.txs.map TX.t = r.txs.map TX.t from h_1) (by assumption) | exact absurd (show k.dk.dat = r.dk.dat from h_2) (by assumption) | exact absurd (show k.seq = r.seq from h_3) (by assumption) | exact absurd (show k.next = r.next from h_4) (by assumption) | exact absurd (show k.time = r.time from h_5) (by assumption) | exact absurd (show k.hist.map EX.t = r.hist.map EX.t from h_6) (by assumption) | exact absurd (show k.seen = r.seen from h_7) (by assumption) | exact absurd (show k.room = r.room from h_8) (by assumption))).symm, rfl⟩
              · skip
                refine JC.condT (congrArg Value.bool (congrArg Bool.not (decide_eq_false h_31))) ?_
                refine JC.seq ?_
                refine JC.region ?_
                refine JL.pure rfl (PO.assign (v := .bool false) rfl) ?_
                refine JL.nil ?_
                refine JQ.seq ?_
                refine JC.ret ?_
                refine JQ.thenRet ?_
                refine Done.one (.inl rfl) rfl (RV.tmp (v := .bool false) rfl) (List.nil_sublist _) ?_
                exact ⟨congrArg Value.bool (decide_eq_false (fun h_ => by obtain ⟨h_0, h_1, h_2, h_3, h_4, h_5, h_6, h_7, h_8⟩ := KD.same.1 h_; first | exact absurd (show k.store = r.store from h_0) (by assumption) | exact absurd (show k.txs.map TX.t = r.txs.map TX.t from h_1) (by assumption) | exact absurd (show k.dk.dat = r.dk.dat from h_2) (by assumption) | exact absurd (show k.seq = r.seq from h_3) (by assumption) | exact absurd (show k.next = r.next from h_4) (by assumption) | exact absurd (show k.time = r.time from h_5) (by assumption) | exact absurd (show k.hist.map EX.t = r.hist.map EX.t from h_6) (by assumption) | exact absurd (show k.seen = r.seen from h_7) (by assumption) | exact absurd (show k.room = r.room from h_8) (by assumption))).symm, rfl⟩
            · skip
              refine JC.condT (congrArg Value.bool (congrArg Bool.not (decide_eq_false h_30))) ?_
              refine JC.seq ?_
              refine JC.region ?_
              refine JL.pure rfl (PO.assign (v := .bool false) rfl) ?_
              refine JL.nil ?_
              refine JQ.seq ?_
              refine JC.ret ?_
              refine JQ.thenRet ?_
              refine Done.one (.inl rfl) rfl (RV.tmp (v := .bool false) rfl) (List.nil_sublist _) ?_
              exact ⟨congrArg Value.bool (decide_eq_false (fun h_ => by obtain ⟨h_0, h_1, h_2, h_3, h_4, h_5, h_6, h_7, h_8⟩ := KD.same.1 h_; first | exact absurd (show k.store = r.store from h_0) (by assumption) | exact absurd (show k.txs.map TX.t = r.txs.map TX.t from h_1) (by assumption) | exact absurd (show k.dk.dat = r.dk.dat from h_2) (by assumption) | exact absurd (show k.seq = r.seq from h_3) (by assumption) | exact absurd (show k.next = r.next from h_4) (by assumption) | exact absurd (show k.time = r.time from h_5) (by assumption) | exact absurd (show k.hist.map EX.t = r.hist.map EX.t from h_6) (by assumption) | exact absurd (show k.seen = r.seen from h_7) (by assumption) | exact absurd (show k.room = r.room from h_8) (by assumption))).symm, rfl⟩
          · skip
            refine JC.condT (congrArg Value.bool (congrArg Bool.not (decide_eq_false h_29))) ?_
            refine JC.seq ?_
            refine JC.region ?_
            refine JL.pure rfl (PO.assign (v := .bool false) rfl) ?_
            refine JL.nil ?_
            refine JQ.seq ?_
            refine JC.ret ?_
            refine JQ.thenRet ?_
            refine Done.one (.inl rfl) rfl (RV.tmp (v := .bool false) rfl) (List.nil_sublist _) ?_
            exact ⟨congrArg Value.bool (decide_eq_false (fun h_ => by obtain ⟨h_0, h_1, h_2, h_3, h_4, h_5, h_6, h_7, h_8⟩ := KD.same.1 h_; first | exact absurd (show k.store = r.store from h_0) (by assumption) | exact absurd (show k.txs.map TX.t = r.txs.map TX.t from h_1) (by assumption) | exact absurd (show k.dk.dat = r.dk.dat from h_2) (by assumption) | exact absurd (show k.seq = r.seq from h_3) (by assumption) | exact absurd (show k.next = r.next from h_4) (by assumption) | exact absurd (show k.time = r.time from h_5) (by assumption) | exact absurd (show k.hist.map EX.t = r.hist.map EX.t from h_6) (by assumption) | exact absurd (show k.seen = r.seen from h_7) (by assumption) | exact absurd (show k.room = r.room from h_8) (by assumption))).symm, rfl⟩
        · skip
          refine JC.condT (congrArg Value.bool (congrArg Bool.not (decide_eq_false h_28))) ?_
          refine JC.seq ?_
          refine JC.region ?_
          refine JL.pure rfl (PO.assign (v := .bool false) rfl) ?_
          refine JL.nil ?_
          refine JQ.seq ?_
          refine JC.ret ?_
          refine JQ.thenRet ?_
          refine Done.one (.inl rfl) rfl (RV.tmp (v := .bool false) rfl) (List.nil_sublist _) ?_
          exact ⟨congrArg Value.bool (decide_eq_false (fun h_ => by obtain ⟨h_0, h_1, h_2, h_3, h_4, h_5, h_6, h_7, h_8⟩ := KD.same.1 h_; first | exact absurd (show k.store = r.store from h_0) (by assumption) | exact absurd (show k.txs.map TX.t = r.txs.map TX.t from h_1) (by assumption) | exact absurd (show k.dk.dat = r.dk.dat from h_2) (by assumption) | exact absurd (show k.seq = r.seq from h_3) (by assumption) | exact absurd (show k.next = r.next from h_4) (by assumption) | exact absurd (show k.time = r.time from h_5) (by assumption) | exact absurd (show k.hist.map EX.t = r.hist.map EX.t from h_6) (by assumption) | exact absurd (show k.seen = r.seen from h_7) (by assumption) | exact absurd (show k.room = r.room from h_8) (by assumption))).symm, rfl⟩
      · skip
        refine JC.condT (congrArg Value.bool (congrArg Bool.not (decide_eq_false h_27))) ?_
        refine JC.seq ?_
        refine JC.region ?_
        refine JL.pure rfl (PO.assign (v := .bool false) rfl) ?_
        refine JL.nil ?_
        refine JQ.seq ?_
        refine JC.ret ?_
        refine JQ.thenRet ?_
        refine Done.one (.inl rfl) rfl (RV.tmp (v := .bool false) rfl) (List.nil_sublist _) ?_
        exact ⟨congrArg Value.bool (decide_eq_false (fun h_ => by obtain ⟨h_0, h_1, h_2, h_3, h_4, h_5, h_6, h_7, h_8⟩ := KD.same.1 h_; first | exact absurd (show k.store = r.store from h_0) (by assumption) | exact absurd (show k.txs.map TX.t = r.txs.map TX.t from h_1) (by assumption) | exact absurd (show k.dk.dat = r.dk.dat from h_2) (by assumption) | exact absurd (show k.seq = r.seq from h_3) (by assumption) | exact absurd (show k.next = r.next from h_4) (by assumption) | exact absurd (show k.time = r.time from h_5) (by assumption) | exact absurd (show k.hist.map EX.t = r.hist.map EX.t from h_6) (by assumption) | exact absurd (show k.seen = r.seen from h_7) (by assumption) | exact absurd (show k.room = r.room from h_8) (by assumption))).symm, rfl⟩
    · skip
      refine JC.condT (congrArg Value.bool (congrArg Bool.not (decide_eq_false h_26))) ?_
      refine JC.seq ?_
      refine JC.region ?_
      refine JL.pure rfl (PO.assign (v := .bool false) rfl) ?_
      refine JL.nil ?_
      refine JQ.seq ?_
      refine JC.ret ?_
      refine JQ.thenRet ?_
      refine Done.one (.inl rfl) rfl (RV.tmp (v := .bool false) rfl) (List.nil_sublist _) ?_
      exact ⟨congrArg Value.bool (decide_eq_false (fun h_ => by obtain ⟨h_0, h_1, h_2, h_3, h_4, h_5, h_6, h_7, h_8⟩ := KD.same.1 h_; first | exact absurd (show k.store = r.store from h_0) (by assumption) | exact absurd (show k.txs.map TX.t = r.txs.map TX.t from h_1) (by assumption) | exact absurd (show k.dk.dat = r.dk.dat from h_2) (by assumption) | exact absurd (show k.seq = r.seq from h_3) (by assumption) | exact absurd (show k.next = r.next from h_4) (by assumption) | exact absurd (show k.time = r.time from h_5) (by assumption) | exact absurd (show k.hist.map EX.t = r.hist.map EX.t from h_6) (by assumption) | exact absurd (show k.seen = r.seen from h_7) (by assumption) | exact absurd (show k.room = r.room from h_8) (by assumption))).symm, rfl⟩
  · skip
    refine JC.condT (congrArg Value.bool (congrArg Bool.not (decide_eq_false h_25))) ?_
    refine JC.seq ?_
    refine JC.region ?_
    refine JL.pure rfl (PO.assign (v := .bool false) rfl) ?_
    refine JL.nil ?_
    refine JQ.seq ?_
    refine JC.ret ?_
    refine JQ.thenRet ?_
    refine Done.one (.inl rfl) rfl (RV.tmp (v := .bool false) rfl) (List.nil_sublist _) ?_
    exact ⟨congrArg Value.bool (decide_eq_false (fun h_ => by obtain ⟨h_0, h_1, h_2, h_3, h_4, h_5, h_6, h_7, h_8⟩ := KD.same.1 h_; first | exact absurd (show k.store = r.store from h_0) (by assumption) | exact absurd (show k.txs.map TX.t = r.txs.map TX.t from h_1) (by assumption) | exact absurd (show k.dk.dat = r.dk.dat from h_2) (by assumption) | exact absurd (show k.seq = r.seq from h_3) (by assumption) | exact absurd (show k.next = r.next from h_4) (by assumption) | exact absurd (show k.time = r.time from h_5) (by assumption) | exact absurd (show k.hist.map EX.t = r.hist.map EX.t from h_6) (by assumption) | exact absurd (show k.seen = r.seen from h_7) (by assumption) | exact absurd (show k.room = r.room from h_8) (by assumption))).symm, rfl⟩

theorem C_markKernel (k : KX) (m : Nat) (h0 : 0 < m) (h1 : m + k.cnt ≤ 100000000) (hl : k.dat.lim 1000000000) :
    Ct Tryz.prog 13 [.agg #[.slice k.a0 k.store.length k.c0, .slice k.a1 k.txs.length k.c1, .slice k.dk.a k.dk.l.length k.dk.c, str k.dk.jt, .int .i64 k.dk.js, .int .i64 k.seq, .int .i64 k.next, .int .i64 k.time, .slice k.a2 k.hist.length k.c2, .slice k.a3 k.seen.length k.c3, .bool k.room], .int .i64 ((m : Nat) : Int)] [Res.rows (rdsN k)] (fun _ => True) (fun v A' => v = .int .i64 ((m + k.cnt : Nat) : Int) ∧ A' = [.rows (rdsN (mkN k m))]) := by
  refine Ct.intro Tryz.func13 rfl Tryz.ntmps13 (Nat.le_of_ble_eq_true rfl) fun w0 hpre => ?_
  have hm0 : k.store.length ≤ 1000000000 := hl.l0
  have hm6 : k.seen.length ≤ 1000000000 := hl.l6
  have hm1 : k.txs.length ≤ 1000000000 := by have := hl.l1; simpa only [KX.dat, List.length_map] using this
  have hm2 : ∀ q ∈ k.txs, q.t.lim 1000000000 := fun q hq => hl.l2 _ (List.mem_map_of_mem hq)
  have hm4 : k.hist.length ≤ 1000000000 := by have := hl.l4; simpa only [KX.dat, List.length_map] using this
  have hm5 : ∀ q ∈ k.hist, q.t.lim 1000000000 := fun q hq => hl.l5 _ (List.mem_map_of_mem hq)
  have hm3 : k.dk.l.length ≤ 1000000000 := by have := hl.l3.l0; simpa only [KX.dat, DX.dat, List.length_map] using this
  have hcn : k.cnt = 2 * k.store.length + cntV cntX k.txs + cntV cntO k.dk.l + cntV cntE k.hist + k.seen.length := rfl
  refine JC.ghost (L' := [rC k.a0 k.c0 k.store, rS k.a3 k.c3 k.seen, Res.rows (rdsXS k.a1 k.c1 k.txs), Res.rows (rdsD k.dk), Res.rows (rdsES k.a2 k.c2 k.hist)]) (fun w hw => hw.openN) ?_
  refine JC.seq ?_
  refine JC.region ?_
  refine JL.op rfl (JO.box (cs := [.slice k.a0 k.store.length k.c0, .slice k.a1 k.txs.length k.c1, .slice k.dk.a k.dk.l.length k.dk.c, str k.dk.jt, .int .i64 k.dk.js, .int .i64 k.seq, .int .i64 k.next, .int .i64 k.time, .slice k.a2 k.hist.length k.c2, .slice k.a3 k.seen.length k.c3, .bool k.room]) rfl rfl) ?_
  rintro _ _ ⟨b_1, rfl, rfl⟩
  refine JL.pure rfl (PO.assign (v := .int .i64 0) rfl) ?_
  refine JL.nil ?_
  refine JQ.seq ?_
  refine JC.seq ?_
  refine JC.region ?_
  refine JL.pure rfl (PO.fieldAddr fo42_0 rfl) ?_
  refine JL.ld rfl (LO.load1 0 (v := .slice k.a0 k.store.length k.c0) rfl rfl Tryz.isAgg34 rfl) ?_
  refine JL.pure rfl (PO.move (v := .int .i64 ((m : Nat) : Int)) rfl) ?_
  refine JL.op rfl (JO.call [1] Tryz.call44 rfl (C_markCellS k.a0 k.c0 k.store m (by omega) (by omega)) rfl (fun _ _ => trivial)) ?_
  rintro _ _ ⟨_, ⟨rfl, rfl⟩, rfl⟩
  refine JL.pure rfl (PO.assign (v := .int .i64 ((m + 2 * k.store.length : Nat) : Int)) rfl) ?_
  refine JL.nil ?_
  refine JQ.seq ?_
  refine JC.seq ?_
  refine JC.region ?_
  refine JL.pure rfl (PO.fieldAddr fo42_1 rfl) ?_
  refine JL.ld rfl (LO.load1 1 (v := .slice k.a1 k.txs.length k.c1) rfl rfl Tryz.isAgg35 rfl) ?_
  refine JL.pure rfl (PO.move (v := .int .i64 ((m + 2 * k.store.length : Nat) : Int)) rfl) ?_
  refine JL.op rfl (JO.call [3] Tryz.call45 rfl (C_markTxS k.a1 k.c1 k.txs (m + 2 * k.store.length) (by omega) (by omega) (by omega)) rfl (fun _ _ => trivial)) ?_
  rintro _ _ ⟨_, ⟨rfl, rfl⟩, rfl⟩
  refine JL.pure rfl (PO.assign (v := .int .i64 ((m + 2 * k.store.length + cntV cntX k.txs : Nat) : Int)) rfl) ?_
  refine JL.nil ?_
  refine JQ.seq ?_
  refine JC.seq ?_
  refine JC.region ?_
  refine JL.pure rfl (PO.fieldAddr fo42_2 rfl) ?_
  refine JL.ld rfl (LO.loadK 2 (vs := [.slice k.dk.a k.dk.l.length k.dk.c, str k.dk.jt, .int .i64 k.dk.js]) rfl rfl Tryz.isAgg39 Tryz.sizeOf39 rfl rfl) ?_
  refine JL.pure rfl (PO.move (v := .int .i64 ((m + 2 * k.store.length + cntV cntX k.txs : Nat) : Int)) rfl) ?_
  refine JL.op rfl (JO.call [4] Tryz.call46 rfl (C_markDisk k.dk (m + 2 * k.store.length + cntV cntX k.txs) (by omega) (by omega) (by omega)) rfl (fun _ _ => trivial)) ?_
  rintro _ _ ⟨_, ⟨rfl, rfl⟩, rfl⟩
  refine JL.pure rfl (PO.assign (v := .int .i64 ((m + 2 * k.store.length + cntV cntX k.txs + cntV cntO k.dk.l : Nat) : Int)) rfl) ?_
  refine JL.nil ?_
  refine JQ.seq ?_
  refine JC.seq ?_
  refine JC.region ?_
  refine JL.pure rfl (PO.fieldAddr fo42_6 rfl) ?_
  refine JL.ld rfl (LO.load1 3 (v := .slice k.a2 k.hist.length k.c2) rfl rfl Tryz.isAgg40 rfl) ?_
  refine JL.pure rfl (PO.move (v := .int .i64 ((m + 2 * k.store.length + cntV cntX k.txs + cntV cntO k.dk.l : Nat) : Int)) rfl) ?_
  refine JL.op rfl (JO.call [5] Tryz.call47 rfl (C_markEntryS k.a2 k.c2 k.hist (m + 2 * k.store.length + cntV cntX k.txs + cntV cntO k.dk.l) (by omega) (by omega) (by omega)) rfl (fun _ _ => trivial)) ?_
  rintro _ _ ⟨_, ⟨rfl, rfl⟩, rfl⟩
  refine JL.pure rfl (PO.assign (v := .int .i64 ((m + 2 * k.store.length + cntV cntX k.txs + cntV cntO k.dk.l + cntV cntE k.hist : Nat) : Int)) rfl) ?_
  refine JL.nil ?_
  refine JQ.seq ?_
  refine JC.seq ?_
  refine JC.region ?_
  refine JL.pure rfl (PO.fieldAddr fo42_7 rfl) ?_
  refine JL.ld rfl (LO.load1 4 (v := .slice k.a3 k.seen.length k.c3) rfl rfl Tryz.isAgg30 rfl) ?_
  refine JL.pure rfl (PO.move (v := .int .i64 ((m + 2 * k.store.length + cntV cntX k.txs + cntV cntO k.dk.l + cntV cntE k.hist : Nat) : Int)) rfl) ?_
  refine JL.op rfl (JO.call [5] Tryz.call48 rfl (C_markStringS k.a3 k.c3 k.seen (m + 2 * k.store.length + cntV cntX k.txs + cntV cntO k.dk.l + cntV cntE k.hist) (by omega) (by omega)) rfl (fun _ _ => trivial)) ?_
  rintro _ _ ⟨_, ⟨rfl, rfl⟩, rfl⟩
  refine JL.pure rfl (PO.assign (v := .int .i64 ((m + 2 * k.store.length + cntV cntX k.txs + cntV cntO k.dk.l + cntV cntE k.hist + k.seen.length : Nat) : Int)) rfl) ?_
  refine JL.nil ?_
  refine JQ.seq ?_
  refine JC.seq ?_
  refine JC.region ?_
  refine JL.pure rfl (PO.move (v := .int .i64 ((m + 2 * k.store.length + cntV cntX k.txs + cntV cntO k.dk.l + cntV cntE k.hist + k.seen.length : Nat) : Int)) rfl) ?_
  refine JL.pure rfl (PO.assign (v := .int .i64 ((m + 2 * k.store.length + cntV cntX k.txs + cntV cntO k.dk.l + cntV cntE k.hist + k.seen.length : Nat) : Int)) rfl) ?_
  refine JL.nil ?_
  refine JQ.seq ?_
  refine JC.ret ?_
  refine JQ.pick [4, 0, 2, 1, 0] (A := [Res.row (.slice k.a0 k.store.length k.c0) 131 2 k.store.length ((markC k.store (m)).flatMap encC), Res.row (.slice k.a3 k.seen.length k.c3) 9 1 k.seen.length ((markS k.seen (m + 2 * k.store.length + cntV cntX k.txs + cntV cntO k.dk.l + cntV cntE k.hist)).map str), Res.rows (rdsXS k.a1 k.c1 (markV mkX cntX k.txs (m + 2 * k.store.length))), Res.rows (rdsOS k.dk.a k.dk.c (markV mkO cntO k.dk.l (m + 2 * k.store.length + cntV cntX k.txs))), Res.rows (rdsES k.a2 k.c2 (markV mkE cntE k.hist (m + 2 * k.store.length + cntV cntX k.txs + cntV cntO k.dk.l)))]) rfl ?_
  refine JQ.ghost (L' := [Res.rows (rdsN (mkN k m))]) (fun w hw => St.markN hw) ?_
  refine Done.one (.inl rfl) rfl (RV.tmp (v := .int .i64 ((m + 2 * k.store.length + cntV cntX k.txs + cntV cntO k.dk.l + cntV cntE k.hist + k.seen.length : Nat) : Int)) rfl) (List.Sublist.refl _) ?_
  exact ⟨congrArg (Value.int .i64) (by omega), rfl⟩

theorem C_heldKernel (k : KX) (m : Nat) (h0 : 0 < m) (h1 : m + k.cnt ≤ 100000000) (hl : k.dat.lim 1000000000) :
    Ct Tryz.prog 14 [.agg #[.slice k.a0 k.store.length k.c0, .slice k.a1 k.txs.length k.c1, .slice k.dk.a k.dk.l.length k.dk.c, str k.dk.jt, .int .i64 k.dk.js, .int .i64 k.seq, .int .i64 k.next, .int .i64 k.time, .slice k.a2 k.hist.length k.c2, .slice k.a3 k.seen.length k.c3, .bool k.room], .int .i64 ((m : Nat) : Int)] [] (fun w => SeesA w (rdsN (mkN k m))) (fun v A' => v = .int .i64 ((m + k.cnt : Nat) : Int) ∧ A' = []) := by
  refine Ct.intro Tryz.func14 rfl Tryz.ntmps14 (Nat.le_of_ble_eq_true rfl) fun w0 hpre => ?_
  have hm0 : k.store.length ≤ 1000000000 := hl.l0
  have hm6 : k.seen.length ≤ 1000000000 := hl.l6
  have hm1 : k.txs.length ≤ 1000000000 := by have := hl.l1; simpa only [KX.dat, List.length_map] using this
  have hm2 : ∀ q ∈ k.txs, q.t.lim 1000000000 := fun q hq => hl.l2 _ (List.mem_map_of_mem hq)
  have hm4 : k.hist.length ≤ 1000000000 := by have := hl.l4; simpa only [KX.dat, List.length_map] using this
  have hm5 : ∀ q ∈ k.hist, q.t.lim 1000000000 := fun q hq => hl.l5 _ (List.mem_map_of_mem hq)
  have hm3 : k.dk.l.length ≤ 1000000000 := by have := hl.l3.l0; simpa only [KX.dat, DX.dat, List.length_map] using this
  have hcn : k.cnt = 2 * k.store.length + cntV cntX k.txs + cntV cntO k.dk.l + cntV cntE k.hist + k.seen.length := rfl
  obtain ⟨hsa, hsb, hsc, hsd, hse⟩ := seesN_mk' hpre
  refine JC.seq ?_
  refine JC.region ?_
  refine JL.op rfl (JO.box (cs := [.slice k.a0 k.store.length k.c0, .slice k.a1 k.txs.length k.c1, .slice k.dk.a k.dk.l.length k.dk.c, str k.dk.jt, .int .i64 k.dk.js, .int .i64 k.seq, .int .i64 k.next, .int .i64 k.time, .slice k.a2 k.hist.length k.c2, .slice k.a3 k.seen.length k.c3, .bool k.room]) rfl rfl) ?_
  rintro _ _ ⟨b_1, rfl, rfl⟩
  refine JL.pure rfl (PO.assign (v := .int .i64 0) rfl) ?_
  refine JL.nil ?_
  refine JQ.seq ?_
  refine JC.seq ?_
  refine JC.region ?_
  refine JL.pure rfl (PO.fieldAddr fo42_0 rfl) ?_
  refine JL.ld rfl (LO.load1 0 (v := .slice k.a0 k.store.length k.c0) rfl rfl Tryz.isAgg34 rfl) ?_
  refine JL.pure rfl (PO.move (v := .int .i64 ((m : Nat) : Int)) rfl) ?_
  refine JL.op rfl (JO.call [] Tryz.call49 rfl (Y_heldCellS k.a0 k.c0 k.store m (by omega) (by omega)) rfl (fun w hw => hw.seeOut_ hsa (fun _ _ => List.not_mem_nil))) ?_
  rintro _ _ ⟨_, ⟨rfl, rfl⟩, rfl⟩
  refine JL.pure rfl (PO.assign (v := .int .i64 ((m + 2 * k.store.length : Nat) : Int)) rfl) ?_
  refine JL.nil ?_
  refine JQ.seq ?_
  refine JC.seq ?_
  refine JC.seq ?_
  refine JC.region ?_
  refine JL.pure rfl (PO.move (v := .int .i64 ((m + 2 * k.store.length : Nat) : Int)) rfl) ?_
  refine JL.pure rfl (PO.lss rfl rfl) ?_
  refine JL.nil ?_
  refine JQ.seq ?_
  by_cases h_2 : ((m + 2 * k.store.length : Nat) : Int) < 0
  · skip
    refine JC.condT (congrArg Value.bool (decide_eq_true h_2)) ?_
    refine JC.seq ?_
    refine JC.region ?_
    refine JL.pure rfl (PO.assign (v := .int .i64 (-1)) rfl) ?_
    refine JL.nil ?_
    refine JQ.seq ?_
    refine JC.ret ?_
    refine JQ.thenRet ?_
    refine Done.one (.inl rfl) rfl (RV.tmp (v := .int .i64 (-1)) rfl) (List.nil_sublist _) ?_
    exfalso
    omega
  · skip
    refine JC.condF (congrArg Value.bool (decide_eq_false h_2)) ?_
    refine JC.skip ?_
    refine JQ.seq ?_
    refine JC.seq ?_
    refine JC.region ?_
    refine JL.pure rfl (PO.fieldAddr fo42_1 rfl) ?_
    refine JL.ld rfl (LO.load1 0 (v := .slice k.a1 k.txs.length k.c1) rfl rfl Tryz.isAgg35 rfl) ?_
    refine JL.pure rfl (PO.move (v := .int .i64 ((m + 2 * k.store.length : Nat) : Int)) rfl) ?_
    refine JL.op rfl (JO.call [] Tryz.call50 rfl (C_heldTxS k.a1 k.c1 k.txs (m + 2 * k.store.length) (by omega) (by omega) (by omega)) rfl (fun w hw => hw.seeOutA hsc nMA)) ?_
    rintro _ _ ⟨_, ⟨rfl, rfl⟩, rfl⟩
    refine JL.pure rfl (PO.assign (v := .int .i64 ((m + 2 * k.store.length + cntV cntX k.txs : Nat) : Int)) rfl) ?_
    refine JL.nil ?_
    refine JQ.seq ?_
    refine JC.seq ?_
    refine JC.seq ?_
    refine JC.region ?_
    refine JL.pure rfl (PO.move (v := .int .i64 ((m + 2 * k.store.length + cntV cntX k.txs : Nat) : Int)) rfl) ?_
    refine JL.pure rfl (PO.lss rfl rfl) ?_
    refine JL.nil ?_
    refine JQ.seq ?_
    by_cases h_3 : ((m + 2 * k.store.length + cntV cntX k.txs : Nat) : Int) < 0
    · skip
      refine JC.condT (congrArg Value.bool (decide_eq_true h_3)) ?_
      refine JC.seq ?_
      refine JC.region ?_
      refine JL.pure rfl (PO.assign (v := .int .i64 (-1)) rfl) ?_
      refine JL.nil ?_
      refine JQ.seq ?_
      refine JC.ret ?_
      refine JQ.thenRet ?_
      refine Done.one (.inl rfl) rfl (RV.tmp (v := .int .i64 (-1)) rfl) (List.nil_sublist _) ?_
      exfalso
      omega
    · skip
      refine JC.condF (congrArg Value.bool (decide_eq_false h_3)) ?_
      refine JC.skip ?_
      refine JQ.seq ?_
      refine JC.seq ?_
      refine JC.region ?_
      refine JL.pure rfl (PO.fieldAddr fo42_2 rfl) ?_
      refine JL.ld rfl (LO.loadK 0 (vs := [.slice k.dk.a k.dk.l.length k.dk.c, str k.dk.jt, .int .i64 k.dk.js]) rfl rfl Tryz.isAgg39 Tryz.sizeOf39 rfl rfl) ?_
      refine JL.pure rfl (PO.move (v := .int .i64 ((m + 2 * k.store.length + cntV cntX k.txs : Nat) : Int)) rfl) ?_
      refine JL.op rfl (JO.call [] Tryz.call51 rfl (C_heldDisk k.dk (m + 2 * k.store.length + cntV cntX k.txs) (by omega) (by omega) (by omega)) rfl (fun w hw => hw.seeOutA hsd nMA)) ?_
      rintro _ _ ⟨_, ⟨rfl, rfl⟩, rfl⟩
      refine JL.pure rfl (PO.assign (v := .int .i64 ((m + 2 * k.store.length + cntV cntX k.txs + cntV cntO k.dk.l : Nat) : Int)) rfl) ?_
      refine JL.nil ?_
      refine JQ.seq ?_
      refine JC.seq ?_
      refine JC.seq ?_
      refine JC.region ?_
      refine JL.pure rfl (PO.move (v := .int .i64 ((m + 2 * k.store.length + cntV cntX k.txs + cntV cntO k.dk.l : Nat) : Int)) rfl) ?_
      refine JL.pure rfl (PO.lss rfl rfl) ?_
      refine JL.nil ?_
      refine JQ.seq ?_
      by_cases h_4 : ((m + 2 * k.store.length + cntV cntX k.txs + cntV cntO k.dk.l : Nat) : Int) < 0
      · skip
        refine JC.condT (congrArg Value.bool (decide_eq_true h_4)) ?_
        refine JC.seq ?_
        refine JC.region ?_
        refine JL.pure rfl (PO.assign (v := .int .i64 (-1)) rfl) ?_
        refine JL.nil ?_
        refine JQ.seq ?_
        refine JC.ret ?_
        refine JQ.thenRet ?_
        refine Done.one (.inl rfl) rfl (RV.tmp (v := .int .i64 (-1)) rfl) (List.nil_sublist _) ?_
        exfalso
        omega
      · skip
        refine JC.condF (congrArg Value.bool (decide_eq_false h_4)) ?_
        refine JC.skip ?_
        refine JQ.seq ?_
        refine JC.seq ?_
        refine JC.region ?_
        refine JL.pure rfl (PO.fieldAddr fo42_6 rfl) ?_
        refine JL.ld rfl (LO.load1 0 (v := .slice k.a2 k.hist.length k.c2) rfl rfl Tryz.isAgg40 rfl) ?_
        refine JL.pure rfl (PO.move (v := .int .i64 ((m + 2 * k.store.length + cntV cntX k.txs + cntV cntO k.dk.l : Nat) : Int)) rfl) ?_
        refine JL.op rfl (JO.call [] Tryz.call52 rfl (C_heldEntryS k.a2 k.c2 k.hist (m + 2 * k.store.length + cntV cntX k.txs + cntV cntO k.dk.l) (by omega) (by omega) (by omega)) rfl (fun w hw => hw.seeOutA hse nMA)) ?_
        rintro _ _ ⟨_, ⟨rfl, rfl⟩, rfl⟩
        refine JL.pure rfl (PO.assign (v := .int .i64 ((m + 2 * k.store.length + cntV cntX k.txs + cntV cntO k.dk.l + cntV cntE k.hist : Nat) : Int)) rfl) ?_
        refine JL.nil ?_
        refine JQ.seq ?_
        refine JC.seq ?_
        refine JC.seq ?_
        refine JC.region ?_
        refine JL.pure rfl (PO.move (v := .int .i64 ((m + 2 * k.store.length + cntV cntX k.txs + cntV cntO k.dk.l + cntV cntE k.hist : Nat) : Int)) rfl) ?_
        refine JL.pure rfl (PO.lss rfl rfl) ?_
        refine JL.nil ?_
        refine JQ.seq ?_
        by_cases h_5 : ((m + 2 * k.store.length + cntV cntX k.txs + cntV cntO k.dk.l + cntV cntE k.hist : Nat) : Int) < 0
        · skip
          refine JC.condT (congrArg Value.bool (decide_eq_true h_5)) ?_
          refine JC.seq ?_
          refine JC.region ?_
          refine JL.pure rfl (PO.assign (v := .int .i64 (-1)) rfl) ?_
          refine JL.nil ?_
          refine JQ.seq ?_
          refine JC.ret ?_
          refine JQ.thenRet ?_
          refine Done.one (.inl rfl) rfl (RV.tmp (v := .int .i64 (-1)) rfl) (List.nil_sublist _) ?_
          exfalso
          omega
        · skip
          refine JC.condF (congrArg Value.bool (decide_eq_false h_5)) ?_
          refine JC.skip ?_
          refine JQ.seq ?_
          refine JC.seq ?_
          refine JC.region ?_
          refine JL.pure rfl (PO.fieldAddr fo42_7 rfl) ?_
          refine JL.ld rfl (LO.load1 0 (v := .slice k.a3 k.seen.length k.c3) rfl rfl Tryz.isAgg30 rfl) ?_
          refine JL.pure rfl (PO.move (v := .int .i64 ((m + 2 * k.store.length + cntV cntX k.txs + cntV cntO k.dk.l + cntV cntE k.hist : Nat) : Int)) rfl) ?_
          refine JL.op rfl (JO.call [] Tryz.call53 rfl (Y_heldStringS k.a3 k.c3 k.seen (m + 2 * k.store.length + cntV cntX k.txs + cntV cntO k.dk.l + cntV cntE k.hist) (by omega) (by omega)) rfl (fun w hw => hw.seeOut_ hsb (fun _ _ => List.not_mem_nil))) ?_
          rintro _ _ ⟨_, ⟨rfl, rfl⟩, rfl⟩
          refine JL.pure rfl (PO.assign (v := .int .i64 ((m + 2 * k.store.length + cntV cntX k.txs + cntV cntO k.dk.l + cntV cntE k.hist + k.seen.length : Nat) : Int)) rfl) ?_
          refine JL.nil ?_
          refine JQ.seq ?_
          refine JC.seq ?_
          refine JC.seq ?_
          refine JC.region ?_
          refine JL.pure rfl (PO.move (v := .int .i64 ((m + 2 * k.store.length + cntV cntX k.txs + cntV cntO k.dk.l + cntV cntE k.hist + k.seen.length : Nat) : Int)) rfl) ?_
          refine JL.pure rfl (PO.lss rfl rfl) ?_
          refine JL.nil ?_
          refine JQ.seq ?_
          by_cases h_6 : ((m + 2 * k.store.length + cntV cntX k.txs + cntV cntO k.dk.l + cntV cntE k.hist + k.seen.length : Nat) : Int) < 0
          · skip
            refine JC.condT (congrArg Value.bool (decide_eq_true h_6)) ?_
            refine JC.seq ?_
            refine JC.region ?_
            refine JL.pure rfl (PO.assign (v := .int .i64 (-1)) rfl) ?_
            refine JL.nil ?_
            refine JQ.seq ?_
            refine JC.ret ?_
            refine JQ.thenRet ?_
            refine Done.one (.inl rfl) rfl (RV.tmp (v := .int .i64 (-1)) rfl) (List.nil_sublist _) ?_
            exfalso
            omega
          · skip
            refine JC.condF (congrArg Value.bool (decide_eq_false h_6)) ?_
            refine JC.skip ?_
            refine JQ.seq ?_
            refine JC.seq ?_
            refine JC.region ?_
            refine JL.pure rfl (PO.move (v := .int .i64 ((m + 2 * k.store.length + cntV cntX k.txs + cntV cntO k.dk.l + cntV cntE k.hist + k.seen.length : Nat) : Int)) rfl) ?_
            refine JL.pure rfl (PO.assign (v := .int .i64 ((m + 2 * k.store.length + cntV cntX k.txs + cntV cntO k.dk.l + cntV cntE k.hist + k.seen.length : Nat) : Int)) rfl) ?_
            refine JL.nil ?_
            refine JQ.seq ?_
            refine JC.ret ?_
            refine Done.one (.inl rfl) rfl (RV.tmp (v := .int .i64 ((m + 2 * k.store.length + cntV cntX k.txs + cntV cntO k.dk.l + cntV cntE k.hist + k.seen.length : Nat) : Int)) rfl) (List.nil_sublist _) ?_
            exact ⟨congrArg (Value.int .i64) (by omega), rfl⟩

end Go.Proofs.YtkmpmjficoohkaaGreat
