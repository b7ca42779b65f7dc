/-
  The implementation: keys, stores, spans, machines, counters (part 8).
-/
import Derived.Test.YtenfajgpdhgknaaGreatDoorS07SLICES
import Derived.Test.YtenfajgpdhgknaaGreatDoorSc
set_option linter.unusedSimpArgs false
set_option linter.unusedVariables false
set_option linter.unnecessarySimpa false
namespace Go.Proofs.YtenfajgpdhgknaaGreatDoor
open Go Go.RowKit
attribute [local irreducible] JL JC JQ JO LO PO JA JX Ct

theorem C_within (n lo hi : Int) :
    Ct Tryz.prog 143 [.int .i64 n, .int .i64 lo, .int .i64 hi] [] (fun _ => True) (fun v A' => v = .bool (decide (lo ≤ n) && decide (n ≤ hi)) ∧ A' = []) := by
  refine Ct.intro Tryz.func143 rfl Tryz.ntmps143 (Nat.le_of_ble_eq_true rfl) fun w0 hpre => ?_
  refine JC.seq ?_
  refine JC.region ?_
  refine JL.pure rfl (PO.assign (v := .bool false) rfl) ?_
  refine JL.nil ?_
  refine JQ.seq ?_
  refine JC.seq ?_
  refine JC.region ?_
  refine JL.pure rfl (PO.move (v := .int .i64 n) rfl) ?_
  refine JL.pure rfl (PO.move (v := .int .i64 lo) rfl) ?_
  refine JL.pure rfl (PO.geq rfl rfl) ?_
  refine JL.pure rfl (PO.move (v := .bool (decide (lo ≤ n))) rfl) ?_
  by_cases h_1 : lo ≤ n
  · skip
    refine JL.guardOn rfl rfl rfl (congrArg Value.bool (decide_eq_true h_1)) (JO.ofLO (LO.pure (PO.move (v := .int .i64 n) rfl))) ?_
    rintro _ _ ⟨rfl, rfl⟩
    refine JL.guardOn rfl rfl rfl (congrArg Value.bool (decide_eq_true h_1)) (JO.ofLO (LO.pure (PO.move (v := .int .i64 hi) rfl))) ?_
    rintro _ _ ⟨rfl, rfl⟩
    refine JL.guardOn rfl rfl rfl (congrArg Value.bool (decide_eq_true h_1)) (JO.ofLO (LO.pure (PO.leq rfl rfl))) ?_
    rintro _ _ ⟨rfl, rfl⟩
    refine JL.pure rfl (PO.pickT (v := .bool (decide (n ≤ hi))) (congrArg Value.bool (decide_eq_true h_1)) rfl) ?_
    refine JL.pure rfl (PO.assign (v := .bool (decide (n ≤ hi))) rfl) ?_
    refine JL.nil ?_
    refine JQ.seq ?_
    refine JC.ret ?_
    refine Done.one (.inl rfl) rfl (RV.tmp (v := .bool (decide (n ≤ hi))) rfl) (List.nil_sublist _) ?_
    refine ⟨?_, rfl⟩
    simp_all <;> omega
  · skip
    refine JL.guardOff (b := false) rfl rfl rfl (congrArg Value.bool (decide_eq_false h_1)) ?_
    refine JL.guardOff (b := false) rfl rfl rfl (congrArg Value.bool (decide_eq_false h_1)) ?_
    refine JL.guardOff (b := false) rfl rfl rfl (congrArg Value.bool (decide_eq_false h_1)) ?_
    refine JL.pure rfl (PO.pickF (v := .bool false) (congrArg Value.bool (decide_eq_false h_1)) rfl) ?_
    refine JL.pure rfl (PO.assign (v := .bool false) rfl) ?_
    refine JL.nil ?_
    refine JQ.seq ?_
    refine JC.ret ?_
    refine Done.one (.inl rfl) rfl (RV.tmp (v := .bool false) rfl) (List.nil_sublist _) ?_
    refine ⟨?_, rfl⟩
    simp_all <;> omega

theorem C_keyOk (key : Str) (hk : key.length ≤ 1000000000000) :
    Ct Tryz.prog 299 [str key] [] (fun _ => True) (fun v A' => v = .bool (keyOk key) ∧ A' = []) := by
  refine Ct.intro Tryz.func299 rfl Tryz.ntmps299 (Nat.le_of_ble_eq_true rfl) fun w0 hpre => ?_
  refine JC.seq ?_
  refine JC.region ?_
  refine JL.pure rfl (PO.assign (v := .bool false) rfl) ?_
  refine JL.nil ?_
  refine JQ.seq ?_
  refine JC.seq ?_
  refine JC.seq ?_
  refine JC.region ?_
  refine JL.pure rfl (PO.move (v := str key) rfl) ?_
  refine JL.pure rfl (PO.lenS Tryz.underlying9 rfl) ?_
  refine JL.pure rfl (PO.move (v := .int .i64 0) rfl) ?_
  refine JL.nil ?_
  refine JQ.seq ?_
  refine JC.block ?_
  refine JC.loop (fun k_ e_ L_ => ∃ j : Nat, (j ≤ key.length) ∧ (∀ i, i < j → i < key.length → keyByte (key.getD i 0) = true) ∧ e_ 0 = str key ∧ e_ 5 = .int .i64 (key.length : Int) ∧ e_ 6 = .int .i64 ((j : Nat) : Int) ∧ L_ = [] ∧ k_ = key.length - j) _ ⟨0, by omega, (fun i hi => absurd hi (Nat.not_lt_zero i)), rfl, rfl, rfl, rfl, rfl⟩ ?_
  rintro _ e_1 _ ⟨j, hj, hN, he_2, he_3, he_4, rfl, rfl⟩
  refine JC.seq ?_
  refine JC.region ?_
  refine JL.pure rfl (PO.lss he_4 he_3) ?_
  refine JL.nil ?_
  refine JQ.seq ?_
  refine JC.seq ?_
  by_cases h_5 : ((j : Nat) : Int) < (key.length : Int)
  · skip
    refine JC.condT (congrArg Value.bool (decide_eq_true h_5)) ?_
    refine JC.skip ?_
    refine JQ.seq ?_
    refine JC.seq ?_
    refine JC.block ?_
    refine JC.seq ?_
    refine JC.region ?_
    refine JL.pure rfl (PO.move (v := .int .i64 ((j : Nat) : Int)) he_4) ?_
    refine JL.pure rfl (PO.assign (v := .int .i64 ((j : Nat) : Int)) rfl) ?_
    refine JL.nil ?_
    refine JQ.seq ?_
    refine JC.seq ?_
    refine JC.region ?_
    refine JL.pure rfl (PO.move (v := str key) he_2) ?_
    refine JL.pure rfl (PO.move (v := .int .i64 ((j : Nat) : Int)) rfl) ?_
    refine JL.pure rfl (PO.indexS (i := j) (c := key.getD j 0) Tryz.underlying9 rfl rfl (getD_some (by omega))) ?_
    have hu_6 := UInt8.toNat_lt (key.getD j 0)
    refine JL.pure rfl (PO.lss rfl rfl) ?_
    refine JL.pure rfl (PO.move (v := .bool (decide (((key.getD j 0).toNat : Int) < 33))) rfl) ?_
    by_cases h_7 : ((key.getD j 0).toNat : Int) < 33
    · skip
      refine JL.guardOff (b := true) rfl rfl rfl (congrArg Value.bool (decide_eq_true h_7)) ?_
      refine JL.guardOff (b := true) rfl rfl rfl (congrArg Value.bool (decide_eq_true h_7)) ?_
      refine JL.guardOff (b := true) rfl rfl rfl (congrArg Value.bool (decide_eq_true h_7)) ?_
      refine JL.guardOff (b := true) rfl rfl rfl (congrArg Value.bool (decide_eq_true h_7)) ?_
      refine JL.pure rfl (PO.pickT (v := .bool true) (congrArg Value.bool (decide_eq_true h_7)) rfl) ?_
      refine JL.pure rfl (PO.move (v := .bool true) rfl) ?_
      refine JL.guardOff (b := true) rfl rfl rfl (congrArg Value.bool rfl) ?_
      refine JL.guardOff (b := true) rfl rfl rfl (congrArg Value.bool rfl) ?_
      refine JL.guardOff (b := true) rfl rfl rfl (congrArg Value.bool rfl) ?_
      refine JL.guardOff (b := true) rfl rfl rfl (congrArg Value.bool rfl) ?_
      refine JL.pure rfl (PO.pickT (v := .bool true) (congrArg Value.bool rfl) rfl) ?_
      refine JL.nil ?_
      refine JQ.seq ?_
      refine JC.condT (congrArg Value.bool rfl) ?_
      refine JC.seq ?_
      refine JC.region ?_
      refine JL.pure rfl (PO.assign (v := .bool false) rfl) ?_
      refine JL.nil ?_
      refine JQ.seq ?_
      refine JC.ret ?_
      refine JQ.blockRet ?_
      refine JQ.thenRet ?_
      refine JQ.thenRet ?_
      refine JQ.blockRet ?_
      refine JQ.thenRet ?_
      refine Done.one (.inl rfl) rfl (RV.tmp (v := .bool false) rfl) (List.nil_sublist _) ?_
      refine ⟨?_, rfl⟩
      rw [keyOk_bad (j := j) (by omega) (by simp only [keyByte, Bool.and_eq_true, Bool.and_eq_false_iff, decide_eq_true_eq, decide_eq_false_iff_not, Bool.not_eq_true', Bool.not_eq_false']; omega)]
    · skip
      refine JL.guardOn rfl rfl rfl (congrArg Value.bool (decide_eq_false h_7)) (JO.ofLO (LO.pure (PO.move (v := str key) he_2))) ?_
      rintro _ _ ⟨rfl, rfl⟩
      refine JL.guardOn rfl rfl rfl (congrArg Value.bool (decide_eq_false h_7)) (JO.ofLO (LO.pure (PO.move (v := .int .i64 ((j : Nat) : Int)) rfl))) ?_
      rintro _ _ ⟨rfl, rfl⟩
      refine JL.guardOn rfl rfl rfl (congrArg Value.bool (decide_eq_false h_7)) (JO.ofLO (LO.pure (PO.indexS (i := j) (c := key.getD j 0) Tryz.underlying9 rfl rfl (getD_some (by omega))))) ?_
      rintro _ _ ⟨rfl, rfl⟩
      have hu_8 := UInt8.toNat_lt (key.getD j 0)
      refine JL.guardOn rfl rfl rfl (congrArg Value.bool (decide_eq_false h_7)) (JO.ofLO (LO.pure (PO.gtr rfl rfl))) ?_
      rintro _ _ ⟨rfl, rfl⟩
      refine JL.pure rfl (PO.pickF (v := .bool (decide (126 < ((key.getD j 0).toNat : Int)))) (congrArg Value.bool (decide_eq_false h_7)) rfl) ?_
      refine JL.pure rfl (PO.move (v := .bool (decide (126 < ((key.getD j 0).toNat : Int)))) rfl) ?_
      by_cases h_9 : 126 < ((key.getD j 0).toNat : Int)
      · skip
        refine JL.guardOff (b := true) rfl rfl rfl (congrArg Value.bool (decide_eq_true h_9)) ?_
        refine JL.guardOff (b := true) rfl rfl rfl (congrArg Value.bool (decide_eq_true h_9)) ?_
        refine JL.guardOff (b := true) rfl rfl rfl (congrArg Value.bool (decide_eq_true h_9)) ?_
        refine JL.guardOff (b := true) rfl rfl rfl (congrArg Value.bool (decide_eq_true h_9)) ?_
        refine JL.pure rfl (PO.pickT (v := .bool true) (congrArg Value.bool (decide_eq_true h_9)) rfl) ?_
        refine JL.nil ?_
        refine JQ.seq ?_
        refine JC.condT (congrArg Value.bool rfl) ?_
        refine JC.seq ?_
        refine JC.region ?_
        refine JL.pure rfl (PO.assign (v := .bool false) rfl) ?_
        refine JL.nil ?_
        refine JQ.seq ?_
        refine JC.ret ?_
        refine JQ.blockRet ?_
        refine JQ.thenRet ?_
        refine JQ.thenRet ?_
        refine JQ.blockRet ?_
        refine JQ.thenRet ?_
        refine Done.one (.inl rfl) rfl (RV.tmp (v := .bool false) rfl) (List.nil_sublist _) ?_
        refine ⟨?_, rfl⟩
        rw [keyOk_bad (j := j) (by omega) (by simp only [keyByte, Bool.and_eq_true, Bool.and_eq_false_iff, decide_eq_true_eq, decide_eq_false_iff_not, Bool.not_eq_true', Bool.not_eq_false']; omega)]
      · skip
        refine JL.guardOn rfl rfl rfl (congrArg Value.bool (decide_eq_false h_9)) (JO.ofLO (LO.pure (PO.move (v := str key) he_2))) ?_
        rintro _ _ ⟨rfl, rfl⟩
        refine JL.guardOn rfl rfl rfl (congrArg Value.bool (decide_eq_false h_9)) (JO.ofLO (LO.pure (PO.move (v := .int .i64 ((j : Nat) : Int)) rfl))) ?_
        rintro _ _ ⟨rfl, rfl⟩
        refine JL.guardOn rfl rfl rfl (congrArg Value.bool (decide_eq_false h_9)) (JO.ofLO (LO.pure (PO.indexS (i := j) (c := key.getD j 0) Tryz.underlying9 rfl rfl (getD_some (by omega))))) ?_
        rintro _ _ ⟨rfl, rfl⟩
        have hu_10 := UInt8.toNat_lt (key.getD j 0)
        refine JL.guardOn rfl rfl rfl (congrArg Value.bool (decide_eq_false h_9)) (JO.ofLO (LO.pure (PO.eqlI rfl rfl))) ?_
        rintro _ _ ⟨rfl, rfl⟩
        refine JL.pure rfl (PO.pickF (v := .bool (decide (((key.getD j 0).toNat : Int) = 42))) (congrArg Value.bool (decide_eq_false h_9)) rfl) ?_
        refine JL.nil ?_
        refine JQ.seq ?_
        by_cases h_11 : ((key.getD j 0).toNat : Int) = 42
        · skip
          refine JC.condT (congrArg Value.bool (decide_eq_true h_11)) ?_
          refine JC.seq ?_
          refine JC.region ?_
          refine JL.pure rfl (PO.assign (v := .bool false) rfl) ?_
          refine JL.nil ?_
          refine JQ.seq ?_
          refine JC.ret ?_
          refine JQ.blockRet ?_
          refine JQ.thenRet ?_
          refine JQ.thenRet ?_
          refine JQ.blockRet ?_
          refine JQ.thenRet ?_
          refine Done.one (.inl rfl) rfl (RV.tmp (v := .bool false) rfl) (List.nil_sublist _) ?_
          refine ⟨?_, rfl⟩
          rw [keyOk_bad (j := j) (by omega) (by simp only [keyByte, Bool.and_eq_true, Bool.and_eq_false_iff, decide_eq_true_eq, decide_eq_false_iff_not, Bool.not_eq_true', Bool.not_eq_false']; omega)]
        · skip
          refine JC.condF (congrArg Value.bool (decide_eq_false h_11)) ?_
          refine JC.skip ?_
          refine JQ.blockN ?_
          refine JQ.seq ?_
          refine JC.region ?_
          refine JL.pure rfl (PO.add (c := ((j + 1 : Nat) : Int)) he_4 rfl (wr (by omega))) ?_
          refine JL.pure rfl (PO.move (v := .int .i64 ((j + 1 : Nat) : Int)) rfl) ?_
          refine JL.nil ?_
          refine JQ.again (key.length - (j + 1)) (by omega) ⟨j + 1, by omega, (fun i hi hl => if h : i = j then h ▸ (by simp only [keyByte, Bool.and_eq_true, Bool.and_eq_false_iff, decide_eq_true_eq, decide_eq_false_iff_not, Bool.not_eq_true', Bool.not_eq_false']; omega : keyByte (key.getD j 0) = true) else hN i (by omega) hl), he_2, he_3, rfl, rfl, rfl⟩
  · skip
    refine JC.condF (congrArg Value.bool (decide_eq_false h_5)) ?_
    refine JC.exit ?_
    refine JQ.thenExit ?_
    refine JQ.thenExit ?_
    refine JQ.blockE ?_
    refine JQ.seq ?_
    refine JC.seq ?_
    refine JC.region ?_
    refine JL.pure rfl (PO.move (v := str key) he_2) ?_
    refine JL.pure rfl (PO.lenS Tryz.underlying9 rfl) ?_
    refine JL.op rfl (JO.call [] Tryz.call143 rfl (C_within (key.length : Int) 1 40) rfl (fun _ _ => trivial)) ?_
    rintro _ _ ⟨_, ⟨rfl, rfl⟩, rfl⟩
    refine JL.pure rfl (PO.assign (v := .bool (decide (1 ≤ (key.length : Int)) && decide ((key.length : Int) ≤ 40))) rfl) ?_
    refine JL.nil ?_
    refine JQ.seq ?_
    refine JC.ret ?_
    refine Done.one (.inl rfl) rfl (RV.tmp (v := .bool (decide (1 ≤ (key.length : Int)) && decide ((key.length : Int) ≤ 40))) rfl) (List.nil_sublist _) ?_
    refine ⟨?_, rfl⟩
    rw [keyOk_good (j := j) (by omega) hN]
    exact congrArg Value.bool (by congr 1 <;> exact decide_eq_decide.2 (by omega))

theorem C_cellAt1 (kb : Nat) (key : Str) (x : Cell) :
    Ct Tryz.prog 292 [.agg #[str x.1, str x.2], .pointer (some ⟨kb, 0, none⟩)] [bk kb 9 [str key]] (fun _ => True) (fun v A' => v = .bool (decide (x.1 = key)) ∧ A' = [bk kb 9 [str key]]) := by
  refine Ct.intro Tryz.func292 rfl Tryz.ntmps292 (Nat.le_of_ble_eq_true rfl) fun w0 hpre => ?_
  refine JC.seq ?_
  refine JC.region ?_
  refine JL.op rfl (JO.box (cs := [str x.1, str x.2]) rfl rfl) ?_
  rintro _ _ ⟨b_1, rfl, rfl⟩
  refine JL.pure rfl (PO.assign (v := .bool false) rfl) ?_
  refine JL.nil ?_
  refine JQ.seq ?_
  refine JC.seq ?_
  refine JC.region ?_
  refine JL.pure rfl (PO.fieldAddr fo113_0 rfl) ?_
  refine JL.ld rfl (LO.load1 0 (v := str x.1) rfl rfl Tryz.isAgg9 rfl) ?_
  refine JL.ld rfl (LO.load1 1 (v := str key) rfl rfl Tryz.isAgg9 rfl) ?_
  refine JL.pure rfl (PO.eqlS rfl rfl) ?_
  refine JL.pure rfl (PO.assign (v := .bool (decide (x.1 = key))) rfl) ?_
  refine JL.nil ?_
  refine JQ.seq ?_
  refine JC.ret ?_
  refine JQ.perm (pick_perm [1] (A := [bk kb 9 [str key]]) (F := [bk b_1 113 [str x.1, str x.2]]) rfl).symm ?_
  refine Done.one (.inl rfl) rfl (RV.tmp (v := .bool (decide (x.1 = key))) rfl) (List.sublist_append_left [bk kb 9 [str key]] [bk b_1 113 [str x.1, str x.2]]) ?_
  exact ⟨rfl, rfl⟩

theorem C_put1 (kb : Nat) (key : Str) (x : Cell) :
    Ct Tryz.prog 301 [.agg #[str x.1, str x.2], .pointer (some ⟨kb, 0, none⟩)] [bk kb 9 [str key]] (fun _ => True) (fun v A' => v = .bool (decide (x.1 = key)) ∧ A' = [bk kb 9 [str key]]) := by
  refine Ct.intro Tryz.func301 rfl Tryz.ntmps301 (Nat.le_of_ble_eq_true rfl) fun w0 hpre => ?_
  refine JC.seq ?_
  refine JC.region ?_
  refine JL.op rfl (JO.box (cs := [str x.1, str x.2]) rfl rfl) ?_
  rintro _ _ ⟨b_1, rfl, rfl⟩
  refine JL.pure rfl (PO.assign (v := .bool false) rfl) ?_
  refine JL.nil ?_
  refine JQ.seq ?_
  refine JC.seq ?_
  refine JC.region ?_
  refine JL.pure rfl (PO.fieldAddr fo113_0 rfl) ?_
  refine JL.ld rfl (LO.load1 0 (v := str x.1) rfl rfl Tryz.isAgg9 rfl) ?_
  refine JL.ld rfl (LO.load1 1 (v := str key) rfl rfl Tryz.isAgg9 rfl) ?_
  refine JL.pure rfl (PO.eqlS rfl rfl) ?_
  refine JL.pure rfl (PO.assign (v := .bool (decide (x.1 = key))) rfl) ?_
  refine JL.nil ?_
  refine JQ.seq ?_
  refine JC.ret ?_
  refine JQ.perm (pick_perm [1] (A := [bk kb 9 [str key]]) (F := [bk b_1 113 [str x.1, str x.2]]) rfl).symm ?_
  refine Done.one (.inl rfl) rfl (RV.tmp (v := .bool (decide (x.1 = key))) rfl) (List.sublist_append_left [bk kb 9 [str key]] [bk b_1 113 [str x.1, str x.2]]) ?_
  exact ⟨rfl, rfl⟩

theorem C_put2 (kb : Nat) (key : Str) (x : Cell) :
    Ct Tryz.prog 302 [.agg #[str x.1, str x.2], .pointer (some ⟨kb, 0, none⟩)] [bk kb 9 [str key]] (fun _ => True) (fun v A' => v = .bool (gtrB x.1 key) ∧ A' = [bk kb 9 [str key]]) := by
  refine Ct.intro Tryz.func302 rfl Tryz.ntmps302 (Nat.le_of_ble_eq_true rfl) fun w0 hpre => ?_
  refine JC.seq ?_
  refine JC.region ?_
  refine JL.op rfl (JO.box (cs := [str x.1, str x.2]) rfl rfl) ?_
  rintro _ _ ⟨b_1, rfl, rfl⟩
  refine JL.pure rfl (PO.assign (v := .bool false) rfl) ?_
  refine JL.nil ?_
  refine JQ.seq ?_
  refine JC.seq ?_
  refine JC.region ?_
  refine JL.pure rfl (PO.fieldAddr fo113_0 rfl) ?_
  refine JL.ld rfl (LO.load1 0 (v := str x.1) rfl rfl Tryz.isAgg9 rfl) ?_
  refine JL.ld rfl (LO.load1 1 (v := str key) rfl rfl Tryz.isAgg9 rfl) ?_
  refine JL.pure rfl (PO.gtrS rfl rfl) ?_
  refine JL.pure rfl (PO.assign (v := .bool (!Op.bytesLess x.1 key && !decide (x.1 = key))) rfl) ?_
  refine JL.nil ?_
  refine JQ.seq ?_
  refine JC.ret ?_
  refine JQ.perm (pick_perm [1] (A := [bk kb 9 [str key]]) (F := [bk b_1 113 [str x.1, str x.2]]) rfl).symm ?_
  refine Done.one (.inl rfl) rfl (RV.tmp (v := .bool (!Op.bytesLess x.1 key && !decide (x.1 = key))) rfl) (List.sublist_append_left [bk kb 9 [str key]] [bk b_1 113 [str x.1, str x.2]]) ?_
  exact ⟨rfl, rfl⟩

theorem C_addSpan1 (kb : Nat) (key : Str) (x : Str) :
    Ct Tryz.prog 297 [str x, .pointer (some ⟨kb, 0, none⟩)] [bk kb 9 [str key]] (fun _ => True) (fun v A' => v = .bool (geqB x key) ∧ A' = [bk kb 9 [str key]]) := by
  refine Ct.intro Tryz.func297 rfl Tryz.ntmps297 (Nat.le_of_ble_eq_true rfl) fun w0 hpre => ?_
  refine JC.seq ?_
  refine JC.region ?_
  refine JL.pure rfl (PO.assign (v := .bool false) rfl) ?_
  refine JL.nil ?_
  refine JQ.seq ?_
  refine JC.seq ?_
  refine JC.region ?_
  refine JL.pure rfl (PO.move (v := str x) rfl) ?_
  refine JL.ld rfl (LO.load1 0 (v := str key) rfl rfl Tryz.isAgg9 rfl) ?_
  refine JL.pure rfl (PO.geqS rfl rfl) ?_
  refine JL.pure rfl (PO.assign (v := .bool (!(Op.bytesLess x key))) rfl) ?_
  refine JL.nil ?_
  refine JQ.seq ?_
  refine JC.ret ?_
  refine Done.one (.inl rfl) rfl (RV.tmp (v := .bool (!(Op.bytesLess x key))) rfl) (List.Sublist.refl _) ?_
  exact ⟨rfl, rfl⟩

theorem C_cellAt (a : Option Addr) (c : Nat) (s : List Cell) (key : Str) (hn : s.length ≤ 1000000000000) :
    Ct Tryz.prog 274 [.slice a s.length c, str key] [] (fun w_ => Sees w_ (.slice a s.length c) 2 s.length (s.flatMap encC)) (fun v A' => v = .int .i64 (idxI (fun q_ => decide (q_.1 = key)) s) ∧ A' = []) := by
  refine Ct.intro Tryz.func274 rfl Tryz.ntmps274 (Nat.le_of_ble_eq_true rfl) fun w0 hpre => ?_
  have hs_a : Sees w0 _ _ _ _ := hpre
  refine JC.seq ?_
  refine JC.region ?_
  refine JL.op rfl (JO.box (cs := [str key]) rfl rfl) ?_
  rintro _ _ ⟨b_1, rfl, rfl⟩
  refine JL.pure rfl (PO.assign (v := .int .i64 0) rfl) ?_
  refine JL.nil ?_
  refine JQ.seq ?_
  refine JC.seq ?_
  refine JC.region ?_
  refine JL.pure rfl (PO.move (v := .slice a s.length c) rfl) ?_
  refine JL.pure rfl (PO.makeFunc (fv := []) (cv := [.pointer (some ⟨b_1, 0, none⟩)]) rfl rfl) ?_
  refine JL.op rfl (JO.call [0] Tryz.call291 rfl (C_idxC 292 Tryz.call292 b_1 key (fun q_ => decide (q_.1 = key)) (C_cellAt1 b_1 key) a c s (by omega)) rfl (fun w hw => ⟨hw.seeOut_ hs_a (fun _ _ => List.not_mem_nil), hw.apartF 0 hs_a rfl List.not_mem_nil⟩)) ?_
  rintro _ _ ⟨_, ⟨rfl, rfl⟩, rfl⟩
  have hix1 := idxI_lo (fun q_ => decide (q_.1 = key)) s
  have hfl1 := findAt_le (fun q_ => decide (q_.1 = key)) s
  refine JL.pure rfl (PO.assign (v := .int .i64 (idxI (fun q_ => decide (q_.1 = key)) s)) rfl) ?_
  refine JL.nil ?_
  refine JQ.seq ?_
  refine JC.ret ?_
  refine Done.one (.inl rfl) rfl (RV.tmp (v := .int .i64 (idxI (fun q_ => decide (q_.1 = key)) s)) rfl) (List.nil_sublist _) ?_
  exact ⟨rfl, rfl⟩

theorem C_getKey (a : Option Addr) (c : Nat) (s : List Cell) (key : Str) (hn : s.length ≤ 1000000000000) :
    Ct Tryz.prog 214 [.slice a s.length c, str key] [] (fun w_ => Sees w_ (.slice a s.length c) 2 s.length (s.flatMap encC)) (fun v A' => v = str (getKey s key) ∧ A' = []) := by
  refine Ct.intro Tryz.func214 rfl Tryz.ntmps214 (Nat.le_of_ble_eq_true rfl) fun w0 hpre => ?_
  have hs_a : Sees w0 _ _ _ _ := hpre
  refine JC.seq ?_
  refine JC.region ?_
  refine JL.pure rfl (PO.assign (v := str []) rfl) ?_
  refine JL.nil ?_
  refine JQ.seq ?_
  refine JC.seq ?_
  refine JC.seq ?_
  refine JC.region ?_
  refine JL.pure rfl (PO.move (v := .slice a s.length c) rfl) ?_
  refine JL.pure rfl (PO.move (v := str key) rfl) ?_
  refine JL.op rfl (JO.call [] Tryz.call274 rfl (C_cellAt a c s key (by omega)) rfl (fun w hw => hw.seeOut_ hs_a (fun _ _ => List.not_mem_nil))) ?_
  rintro _ _ ⟨_, ⟨rfl, rfl⟩, rfl⟩
  have hix0 := idxI_lo (fun q_ => decide (q_.1 = key)) s
  have hfl0 := findAt_le (fun q_ => decide (q_.1 = key)) s
  refine JL.pure rfl (PO.assign (v := .int .i64 (idxI (fun q_ => decide (q_.1 = key)) s)) rfl) ?_
  refine JL.nil ?_
  refine JQ.seq ?_
  refine JC.seq ?_
  refine JC.region ?_
  refine JL.pure rfl (PO.move (v := .int .i64 (idxI (fun q_ => decide (q_.1 = key)) s)) rfl) ?_
  refine JL.pure rfl (PO.geq rfl rfl) ?_
  refine JL.nil ?_
  refine JQ.seq ?_
  by_cases h_1 : 0 ≤ (idxI (fun q_ => decide (q_.1 = key)) s)
  · skip
    have hx_2l : findAt (fun q_ => decide (q_.1 = key)) s < s.length := by omega
    have hx_2e : idxI (fun q_ => decide (q_.1 = key)) s = ((findAt (fun q_ => decide (q_.1 = key)) s : Nat) : Int) := by omega
    refine JC.condT (congrArg Value.bool (decide_eq_true h_1)) ?_
    refine JC.seq ?_
    refine JC.region ?_
    refine JL.pure rfl (PO.move (v := .slice a s.length c) rfl) ?_
    refine JL.pure rfl (PO.move (v := .int .i64 ((findAt (fun q_ => decide (q_.1 = key)) s : Nat) : Int)) (congrArg (Value.int .i64) hx_2e)) ?_
    obtain ⟨hr_3, hr_3b, -⟩ := sees_some hs_a (by omega)
    refine JL.pure rfl (PO.indexAddrV (i := (findAt (fun q_ => decide (q_.1 = key)) s)) Tryz.underlying29 Tryz.sizeOf113 hr_3 hr_3b rfl rfl (by omega)) ?_
    refine JL.pure rfl (PO.fieldAddrE fo113_1 hr_3 rfl) ?_
    refine JL.ld rfl (LO.loadS1 (v := str ((s.getD (findAt (fun q_ => decide (q_.1 = key)) s) c0).2)) hs_a (fun _ _ => List.not_mem_nil) rfl Tryz.isAgg9 (atC2 (by omega))) ?_
    refine JL.pure rfl (PO.assign (v := str ((s.getD (findAt (fun q_ => decide (q_.1 = key)) s) c0).2)) rfl) ?_
    refine JL.nil ?_
    refine JQ.seq ?_
    refine JC.ret ?_
    refine JQ.thenRet ?_
    refine Done.one (.inl rfl) rfl (RV.tmp (v := str ((s.getD (findAt (fun q_ => decide (q_.1 = key)) s) c0).2)) rfl) (List.nil_sublist _) ?_
    refine ⟨?_, rfl⟩
    rw [getKey_found hx_2l]
  · skip
    have hx_4l : findAt (fun q_ => decide (q_.1 = key)) s = s.length := by omega
    refine JC.condF (congrArg Value.bool (decide_eq_false h_1)) ?_
    refine JC.skip ?_
    refine JQ.seq ?_
    refine JC.seq ?_
    refine JC.region ?_
    refine JL.pure rfl (PO.assign (v := str []) rfl) ?_
    refine JL.nil ?_
    refine JQ.seq ?_
    refine JC.ret ?_
    refine Done.one (.inl rfl) rfl (RV.tmp (v := str []) rfl) (List.nil_sublist _) ?_
    refine ⟨?_, rfl⟩
    rw [getKey_none hx_4l]

theorem C_addSpan (a : Option Addr) (c : Nat) (l : List Str) (x : Str) (hn : l.length ≤ 100000000000) :
    Ct Tryz.prog 281 [.slice a l.length c, str x] [Res.row (.slice a l.length c) 9 1 l.length (l.map str)] (fun _ => True) (fun v A' => ∃ a' c', v = .slice a' (addSpan l x).length c' ∧ A' = [.row (.slice a' (addSpan l x).length c') 9 1 (addSpan l x).length ((addSpan l x).map str)]) := by
  refine Ct.intro Tryz.func281 rfl Tryz.ntmps281 (Nat.le_of_ble_eq_true rfl) fun w0 hpre => ?_
  refine JC.seq ?_
  refine JC.region ?_
  refine JL.op rfl (JO.box (cs := [str x]) rfl rfl) ?_
  rintro _ _ ⟨b_1, rfl, rfl⟩
  refine JL.pure rfl (PO.assign (v := .slice none 0 0) rfl) ?_
  refine JL.nil ?_
  refine JQ.seq ?_
  refine JC.seq ?_
  refine JC.region ?_
  refine JL.pure rfl (PO.move (v := .slice a l.length c) rfl) ?_
  refine JL.pure rfl (PO.makeFunc (fv := []) (cv := [.pointer (some ⟨b_1, 0, none⟩)]) rfl rfl) ?_
  refine JL.op rfl (JO.call [0] Tryz.call296 rfl (C_idxS 297 Tryz.call297 b_1 x (fun q_ => geqB q_ x) (C_addSpan1 b_1 x) a c l (by omega)) rfl (fun w hw => ⟨hw.see (i := 1) rfl, hw.apartO 1 0 rfl rfl rfl⟩)) ?_
  rintro _ _ ⟨_, ⟨rfl, rfl⟩, rfl⟩
  have hix1 := idxI_lo (fun q_ => geqB q_ x) l
  have hfl1 := findAt_le (fun q_ => geqB q_ x) l
  refine JL.pure rfl (PO.assign (v := .int .i64 (idxI (fun q_ => geqB q_ x) l)) rfl) ?_
  refine JL.nil ?_
  refine JQ.seq ?_
  refine JC.seq ?_
  refine JC.seq ?_
  refine JC.region ?_
  refine JL.pure rfl (PO.move (v := .int .i64 (idxI (fun q_ => geqB q_ x) l)) rfl) ?_
  refine JL.pure rfl (PO.lss rfl rfl) ?_
  refine JL.nil ?_
  refine JQ.seq ?_
  by_cases h_2 : (idxI (fun q_ => geqB q_ x) l) < 0
  · skip
    have hx_3l : findAt (fun q_ => geqB q_ x) l = l.length := by omega
    refine JC.condT (congrArg Value.bool (decide_eq_true h_2)) ?_
    refine JC.seq ?_
    refine JC.region ?_
    refine JL.pure rfl (PO.move (v := .slice a l.length c) rfl) ?_
    refine JL.ld rfl (LO.load1 0 (v := str x) rfl rfl Tryz.isAgg9 rfl) ?_
    refine JL.op rfl (JO.buildSlice (ps := [(0, str x)]) (cur := #[str x]) Tryz.underlying23 Tryz.sizeOf9 Tryz.zeroValue9 rfl (by kernel_rfl) (by decide) (by decide)) ?_
    rintro _ _ ⟨a_4, rfl, rfl⟩
    refine JL.op rfl (JO.append' 2 (q := 1) (news := ([x] : List Str).map str) (n' := (l ++ ([x] : List Str)).length) (cs' := (l ++ ([x] : List Str)).map str) rfl Tryz.underlying23 Tryz.underlying23 Tryz.typeInfo9 rfl (by' := 16) rfl rfl rfl rfl rfl (fun w hw => Src.sees (hw.see (i := 0) rfl) (oneS _)) (by (try simp only [List.length_append, List.length_cons, List.length_nil, List.length_take, List.length_drop]); omega) (by (try simp only [List.length_append, List.length_cons, List.length_nil, List.length_take, List.length_drop]); omega) (by simp only [List.length_append, List.length_take, List.length_drop, List.length_cons, List.length_nil] <;> first | rfl | omega) (by simp only [List.map_append])) ?_
    rintro _ _ ⟨a_5, c_6, rfl, rfl⟩
    refine JL.pure rfl (PO.assign (v := .slice a_5 ((l ++ ([x] : List Str)).length) c_6) rfl) ?_
    refine JL.nil ?_
    refine JQ.seq ?_
    refine JC.ret ?_
    refine JQ.thenRet ?_
    refine JQ.perm (pick_perm [2] (A := [Res.row (.slice a_5 ((l ++ ([x] : List Str)).length) c_6) 9 1 ((l ++ ([x] : List Str)).length) ((l ++ ([x] : List Str)).map str)]) (F := [Res.row (.slice a_4 1 1) 9 1 1 (([x] : List Str).map str), bk b_1 9 [str x]]) rfl).symm ?_
    refine Done.one (.inl rfl) rfl (RV.tmp (v := .slice a_5 ((l ++ ([x] : List Str)).length) c_6) rfl) (List.sublist_append_left [Res.row (.slice a_5 ((l ++ ([x] : List Str)).length) c_6) 9 1 ((l ++ ([x] : List Str)).length) ((l ++ ([x] : List Str)).map str)] [Res.row (.slice a_4 1 1) 9 1 1 (([x] : List Str).map str), bk b_1 9 [str x]]) ?_
    exact ⟨_, _, by rw [addSpan_end hx_3l], by rw [addSpan_end hx_3l] <;> rfl⟩
  · skip
    have hx_7l : findAt (fun q_ => geqB q_ x) l < l.length := by omega
    have hx_7e : idxI (fun q_ => geqB q_ x) l = ((findAt (fun q_ => geqB q_ x) l : Nat) : Int) := by omega
    refine JC.condF (congrArg Value.bool (decide_eq_false h_2)) ?_
    refine JC.skip ?_
    refine JQ.seq ?_
    refine JC.seq ?_
    refine JC.seq ?_
    refine JC.regionA [bk b_1 9 [str x], Res.row (.slice a l.length c) 9 1 l.length (l.map str)] 5 mixed (by simp) ?_
    refine JA.takeP 0 rfl (by kernel_rfl) (NP.th (NP.th NP.body)) (by kernel_rfl) (by kernel_rfl) rfl (PO.move (v := .slice a l.length c) rfl) ?_
    refine JA.takeP 1 rfl (by kernel_rfl) (NP.th (NP.th NP.body)) (by kernel_rfl) (by kernel_rfl) rfl (PO.move (v := .int .i64 ((findAt (fun q_ => geqB q_ x) l : Nat) : Int)) (congrArg (Value.int .i64) hx_7e)) ?_
    refine JA.facts fun hst => ?_
    obtain ⟨hr_8, hr_8b, -⟩ := row_some 1 rfl (by omega) hst
    refine JA.takeP 2 rfl (by kernel_rfl) (NP.th (NP.th NP.body)) (by kernel_rfl) (by kernel_rfl) rfl (PO.indexAddrV (i := (findAt (fun q_ => geqB q_ x) l)) Tryz.underlying23 Tryz.sizeOf9 hr_8 hr_8b rfl rfl (by omega)) ?_
    refine JA.take 3 rfl (by kernel_rfl) (NP.th (NP.th NP.body)) (by kernel_rfl) (by kernel_rfl) (by kernel_rfl) rfl (LO.loadR1 1 (v := str (l.getD (findAt (fun q_ => geqB q_ x) l) [])) rfl rfl Tryz.isAgg9 (atS (by omega))) ?_
    refine JA.take 4 rfl (by kernel_rfl) (NP.th (NP.th NP.body)) (by kernel_rfl) (by kernel_rfl) (by kernel_rfl) rfl (LO.load1 0 (v := str x) rfl rfl Tryz.isAgg9 rfl) ?_
    refine JA.takeP 5 rfl (by kernel_rfl) (NP.th (NP.th NP.body)) (by kernel_rfl) (by kernel_rfl) rfl (PO.eqlS rfl rfl) ?_
    refine JA.done (by kernel_rfl) ?_
    refine JQ.seq ?_
    by_cases h_9 : (l.getD (findAt (fun q_ => geqB q_ x) l) []) = x
    · skip
      have hsame := h_9
      refine JC.condT (congrArg Value.bool (decide_eq_true h_9)) ?_
      refine JC.seq ?_
      refine JC.region ?_
      refine JL.pure rfl (PO.move (v := .slice a l.length c) rfl) ?_
      refine JL.pure rfl (PO.assign (v := .slice a l.length c) rfl) ?_
      refine JL.nil ?_
      refine JQ.seq ?_
      refine JC.ret ?_
      refine JQ.thenRet ?_
      refine JQ.perm (pick_perm [1] (A := [Res.row (.slice a l.length c) 9 1 l.length (l.map str)]) (F := [bk b_1 9 [str x]]) rfl).symm ?_
      refine Done.one (.inl rfl) rfl (RV.tmp (v := .slice a l.length c) rfl) (List.sublist_append_left [Res.row (.slice a l.length c) 9 1 l.length (l.map str)] [bk b_1 9 [str x]]) ?_
      exact ⟨_, _, by rw [addSpan_same hx_7l hsame], by rw [addSpan_same hx_7l hsame] <;> rfl⟩
    · skip
      have hsame := h_9
      refine JC.condF (congrArg Value.bool (decide_eq_false h_9)) ?_
      refine JC.skip ?_
      refine JQ.seq ?_
      refine JC.seq ?_
      refine JC.region ?_
      refine JL.pure rfl (PO.move (v := .slice a l.length c) rfl) ?_
      refine JL.pure rfl (PO.move (v := .int .i64 ((findAt (fun q_ => geqB q_ x) l : Nat) : Int)) (congrArg (Value.int .i64) hx_7e)) ?_
      refine JL.ld rfl (LO.load1 0 (v := str x) rfl rfl Tryz.isAgg9 rfl) ?_
      refine JL.op rfl (JO.buildSlice (ps := [(0, str x)]) (cur := #[str x]) Tryz.underlying23 Tryz.sizeOf9 Tryz.zeroValue9 rfl (by kernel_rfl) (by decide) (by decide)) ?_
      rintro _ _ ⟨a_10, rfl, rfl⟩
      refine JL.op rfl (JO.call [2, 0] Tryz.call298 rfl (C_insS a a_10 c l (findAt (fun q_ => geqB q_ x) l) x (by omega) (by omega) (by rw [List.length_map, Nat.mul_one])) rfl (fun _ _ => trivial)) ?_
      rintro _ _ ⟨_, ⟨a_11, c_12, rfl, rfl⟩, rfl⟩
      refine JL.pure rfl (PO.assign (v := .slice a_11 ((insertAt (findAt (fun q_ => geqB q_ x) l) x l).length) c_12) rfl) ?_
      refine JL.nil ?_
      refine JQ.seq ?_
      refine JC.ret ?_
      refine Done.one (.inl rfl) rfl (RV.tmp (v := .slice a_11 ((insertAt (findAt (fun q_ => geqB q_ x) l) x l).length) c_12) rfl) (List.sublist_append_left [Res.row (.slice a_11 ((insertAt (findAt (fun q_ => geqB q_ x) l) x l).length) c_12) 9 1 ((insertAt (findAt (fun q_ => geqB q_ x) l) x l).length) ((insertAt (findAt (fun q_ => geqB q_ x) l) x l).map str)] [bk b_1 9 [str x]]) ?_
      exact ⟨_, _, by rw [addSpan_ins hx_7l hsame], by rw [addSpan_ins hx_7l hsame] <;> rfl⟩

theorem C_put (a : Option Addr) (c : Nat) (s : List Cell) (key val : Str) (hn : s.length ≤ 100000000000) (hk : key.length ≤ 1000000000000) :
    Ct Tryz.prog 282 [.slice a s.length c, str key, str val] [Res.row (.slice a s.length c) 113 2 s.length (s.flatMap encC)] (fun _ => True) (fun v A' => ∃ a' c', v = .slice a' (putKey s key val).length c' ∧ A' = [.row (.slice a' (putKey s key val).length c') 113 2 (putKey s key val).length ((putKey s key val).flatMap encC)]) := by
  refine Ct.intro Tryz.func282 rfl Tryz.ntmps282 (Nat.le_of_ble_eq_true rfl) fun w0 hpre => ?_
  refine JC.seq ?_
  refine JC.region ?_
  refine JL.op rfl (JO.box (cs := [str key]) rfl rfl) ?_
  rintro _ _ ⟨b_1, rfl, rfl⟩
  refine JL.pure rfl (PO.assign (v := .slice none 0 0) rfl) ?_
  refine JL.nil ?_
  refine JQ.seq ?_
  refine JC.seq ?_
  refine JC.seq ?_
  refine JC.region ?_
  refine JL.ld rfl (LO.load1 0 (v := str key) rfl rfl Tryz.isAgg9 rfl) ?_
  refine JL.op rfl (JO.call [] Tryz.call299 rfl (C_keyOk key (by omega)) rfl (fun _ _ => trivial)) ?_
  rintro _ _ ⟨_, ⟨rfl, rfl⟩, rfl⟩
  refine JL.pure rfl (PO.not rfl) ?_
  refine JL.pure rfl (PO.move (v := .bool (!(keyOk key))) rfl) ?_
  rcases Bool.eq_false_or_eq_true (keyOk key) with h_2 | h_2
  · skip
    refine JL.guardOn rfl rfl rfl (congrArg Value.bool (congrArg Bool.not h_2)) (JO.ofLO (LO.pure (PO.move (v := str val) rfl))) ?_
    rintro _ _ ⟨rfl, rfl⟩
    refine JL.guardOn rfl rfl rfl (congrArg Value.bool (congrArg Bool.not h_2)) (JO.ofLO (LO.pure (PO.lenS Tryz.underlying9 rfl))) ?_
    rintro _ _ ⟨rfl, rfl⟩
    refine JL.guardOn rfl rfl rfl (congrArg Value.bool (congrArg Bool.not h_2)) (JO.ofLO (LO.pure (PO.gtr rfl rfl))) ?_
    rintro _ _ ⟨rfl, rfl⟩
    refine JL.pure rfl (PO.pickF (v := .bool (decide (60 < (val.length : Int)))) (congrArg Value.bool (congrArg Bool.not h_2)) rfl) ?_
    refine JL.nil ?_
    refine JQ.seq ?_
    by_cases h_3 : 60 < (val.length : Int)
    · skip
      refine JC.condT (congrArg Value.bool (decide_eq_true h_3)) ?_
      refine JC.seq ?_
      refine JC.region ?_
      refine JL.pure rfl (PO.move (v := .slice a s.length c) rfl) ?_
      refine JL.pure rfl (PO.assign (v := .slice a s.length c) rfl) ?_
      refine JL.nil ?_
      refine JQ.seq ?_
      refine JC.ret ?_
      refine JQ.thenRet ?_
      refine JQ.perm (pick_perm [1] (A := [Res.row (.slice a s.length c) 113 2 s.length (s.flatMap encC)]) (F := [bk b_1 9 [str key]]) rfl).symm ?_
      refine Done.one (.inl rfl) rfl (RV.tmp (v := .slice a s.length c) rfl) (List.sublist_append_left [Res.row (.slice a s.length c) 113 2 s.length (s.flatMap encC)] [bk b_1 9 [str key]]) ?_
      have he := (putKey_bad2 (by omega) : putKey s key val = _)
      exact ⟨_, _, by rw [he], by rw [he] <;> rfl⟩
    · skip
      refine JC.condF (congrArg Value.bool (decide_eq_false h_3)) ?_
      refine JC.skip ?_
      refine JQ.seq ?_
      refine JC.seq ?_
      refine JC.region ?_
      refine JL.pure rfl (PO.move (v := .slice a s.length c) rfl) ?_
      refine JL.pure rfl (PO.makeFunc (fv := []) (cv := [.pointer (some ⟨b_1, 0, none⟩)]) rfl rfl) ?_
      refine JL.op rfl (JO.call [0, 0] Tryz.call300 rfl (C_delC 301 Tryz.call301 b_1 key (fun q_ => decide (q_.1 = key)) (C_put1 b_1 key) a c s (by omega)) rfl (fun _ _ => trivial)) ?_
      rintro _ _ ⟨_, ⟨a_4, c_5, rfl, rfl⟩, rfl⟩
      have hfi5 : (s.filter (fun c => !decide (c.1 = key))).length ≤ s.length := List.length_filter_le _ _
      refine JL.pure rfl (PO.assign (v := .slice a_4 ((s.filter (fun c => !decide (c.1 = key))).length) c_5) rfl) ?_
      refine JL.nil ?_
      refine JQ.seq ?_
      refine JC.seq ?_
      refine JC.seq ?_
      refine JC.region ?_
      refine JL.pure rfl (PO.move (v := str val) rfl) ?_
      refine JL.pure rfl (PO.eqlS rfl rfl) ?_
      refine JL.nil ?_
      refine JQ.seq ?_
      by_cases h_6 : val = []
      · skip
        refine JC.condT (congrArg Value.bool (decide_eq_true h_6)) ?_
        refine JC.seq ?_
        refine JC.region ?_
        refine JL.pure rfl (PO.move (v := .slice a_4 ((s.filter (fun c => !decide (c.1 = key))).length) c_5) rfl) ?_
        refine JL.pure rfl (PO.assign (v := .slice a_4 ((s.filter (fun c => !decide (c.1 = key))).length) c_5) rfl) ?_
        refine JL.nil ?_
        refine JQ.seq ?_
        refine JC.ret ?_
        refine JQ.thenRet ?_
        refine JQ.perm (pick_perm [1] (A := [Res.row (.slice a_4 ((s.filter (fun c => !decide (c.1 = key))).length) c_5) 113 2 ((s.filter (fun c => !decide (c.1 = key))).length) ((s.filter (fun c => !decide (c.1 = key))).flatMap encC)]) (F := [bk b_1 9 [str key]]) rfl).symm ?_
        refine Done.one (.inl rfl) rfl (RV.tmp (v := .slice a_4 ((s.filter (fun c => !decide (c.1 = key))).length) c_5) rfl) (List.sublist_append_left [Res.row (.slice a_4 ((s.filter (fun c => !decide (c.1 = key))).length) c_5) 113 2 ((s.filter (fun c => !decide (c.1 = key))).length) ((s.filter (fun c => !decide (c.1 = key))).flatMap encC)] [bk b_1 9 [str key]]) ?_
        have he := (putKey_nil h_2 (by omega) h_6 : putKey s key val = _)
        exact ⟨_, _, by rw [he], by rw [he] <;> rfl⟩
      · skip
        refine JC.condF (congrArg Value.bool (decide_eq_false h_6)) ?_
        refine JC.skip ?_
        refine JQ.seq ?_
        refine JC.seq ?_
        refine JC.region ?_
        refine JL.pure rfl (PO.move (v := .slice a_4 ((s.filter (fun c => !decide (c.1 = key))).length) c_5) rfl) ?_
        refine JL.pure rfl (PO.makeFunc (fv := []) (cv := [.pointer (some ⟨b_1, 0, none⟩)]) rfl rfl) ?_
        refine JL.op rfl (JO.call [0] Tryz.call291 rfl (C_idxC 302 Tryz.call302 b_1 key (fun q_ => gtrB q_.1 key) (C_put2 b_1 key) a_4 c_5 (s.filter (fun c => !decide (c.1 = key))) (by omega)) rfl (fun w hw => ⟨hw.see (i := 1) rfl, hw.apartO 1 0 rfl rfl rfl⟩)) ?_
        rintro _ _ ⟨_, ⟨rfl, rfl⟩, rfl⟩
        have hix6 := idxI_lo (fun q_ => gtrB q_.1 key) (s.filter (fun c => !decide (c.1 = key)))
        have hfl6 := findAt_le (fun q_ => gtrB q_.1 key) (s.filter (fun c => !decide (c.1 = key)))
        refine JL.pure rfl (PO.assign (v := .int .i64 (idxI (fun q_ => gtrB q_.1 key) (s.filter (fun c => !decide (c.1 = key))))) rfl) ?_
        refine JL.nil ?_
        refine JQ.seq ?_
        refine JC.seq ?_
        refine JC.seq ?_
        refine JC.region ?_
        refine JL.pure rfl (PO.move (v := .int .i64 (idxI (fun q_ => gtrB q_.1 key) (s.filter (fun c => !decide (c.1 = key))))) rfl) ?_
        refine JL.pure rfl (PO.lss rfl rfl) ?_
        refine JL.nil ?_
        refine JQ.seq ?_
        by_cases h_7 : (idxI (fun q_ => gtrB q_.1 key) (s.filter (fun c => !decide (c.1 = key)))) < 0
        · skip
          have hx_8l : findAt (fun q_ => gtrB q_.1 key) (s.filter (fun c => !decide (c.1 = key))) = (s.filter (fun c => !decide (c.1 = key))).length := by omega
          refine JC.condT (congrArg Value.bool (decide_eq_true h_7)) ?_
          refine JC.region ?_
          refine JL.pure rfl (PO.move (v := .slice a_4 ((s.filter (fun c => !decide (c.1 = key))).length) c_5) rfl) ?_
          refine JL.pure rfl (PO.lenV Tryz.underlying29 rfl) ?_
          refine JL.pure rfl (PO.assign (v := .int .i64 (((s.filter (fun c => !decide (c.1 = key))).length : Nat) : Int)) rfl) ?_
          refine JL.nil ?_
          refine JQ.seq ?_
          refine JC.seq ?_
          refine JC.region ?_
          refine JL.pure rfl (PO.move (v := .slice a_4 ((s.filter (fun c => !decide (c.1 = key))).length) c_5) rfl) ?_
          refine JL.pure rfl (PO.move (v := .int .i64 (((s.filter (fun c => !decide (c.1 = key))).length : Nat) : Int)) rfl) ?_
          refine JL.ld rfl (LO.load1 0 (v := str key) rfl rfl Tryz.isAgg9 rfl) ?_
          refine JL.pure rfl (PO.move (v := str val) rfl) ?_
          refine JL.pure rfl (PO.build (ps := [(0, str key), (1, str val)]) (cs := [str key, str val]) rfl (by kernel_rfl)) ?_
          refine JL.op rfl (JO.buildSlice (ps := [(0, .agg #[str key, str val])]) (cur := #[str key, str val]) Tryz.underlying29 Tryz.sizeOf113 Tryz.zeroValue113 rfl (by kernel_rfl) (by decide) (by decide)) ?_
          rintro _ _ ⟨a_9, rfl, rfl⟩
          refine JL.op rfl (JO.call [2, 0] Tryz.call303 rfl (C_insC a_4 a_9 c_5 (s.filter (fun c => !decide (c.1 = key))) ((s.filter (fun c => !decide (c.1 = key))).length) (key, val) (by omega) (by omega) (by rw [lenC])) rfl (fun _ _ => trivial)) ?_
          rintro _ _ ⟨_, ⟨a_10, c_11, rfl, rfl⟩, rfl⟩
          refine JL.pure rfl (PO.assign (v := .slice a_10 ((insertAt ((s.filter (fun c => !decide (c.1 = key))).length) (key, val) (s.filter (fun c => !decide (c.1 = key)))).length) c_11) rfl) ?_
          refine JL.nil ?_
          refine JQ.seq ?_
          refine JC.ret ?_
          refine Done.one (.inl rfl) rfl (RV.tmp (v := .slice a_10 ((insertAt ((s.filter (fun c => !decide (c.1 = key))).length) (key, val) (s.filter (fun c => !decide (c.1 = key)))).length) c_11) rfl) (List.sublist_append_left [Res.row (.slice a_10 ((insertAt ((s.filter (fun c => !decide (c.1 = key))).length) (key, val) (s.filter (fun c => !decide (c.1 = key)))).length) c_11) 113 2 ((insertAt ((s.filter (fun c => !decide (c.1 = key))).length) (key, val) (s.filter (fun c => !decide (c.1 = key)))).length) ((insertAt ((s.filter (fun c => !decide (c.1 = key))).length) (key, val) (s.filter (fun c => !decide (c.1 = key)))).flatMap encC)] [bk b_1 9 [str key]]) ?_
          have he := (putKey_ins h_2 (by omega) h_6 : putKey s key val = _)
          exact ⟨_, _, by rw [he, hx_8l], by rw [he, hx_8l] <;> rfl⟩
        · skip
          have hx_12l : findAt (fun q_ => gtrB q_.1 key) (s.filter (fun c => !decide (c.1 = key))) < (s.filter (fun c => !decide (c.1 = key))).length := by omega
          have hx_12e : idxI (fun q_ => gtrB q_.1 key) (s.filter (fun c => !decide (c.1 = key))) = ((findAt (fun q_ => gtrB q_.1 key) (s.filter (fun c => !decide (c.1 = key))) : Nat) : Int) := by omega
          refine JC.condF (congrArg Value.bool (decide_eq_false h_7)) ?_
          refine JC.skip ?_
          refine JQ.seq ?_
          refine JC.seq ?_
          refine JC.region ?_
          refine JL.pure rfl (PO.move (v := .slice a_4 ((s.filter (fun c => !decide (c.1 = key))).length) c_5) rfl) ?_
          refine JL.pure rfl (PO.move (v := .int .i64 ((findAt (fun q_ => gtrB q_.1 key) (s.filter (fun c => !decide (c.1 = key))) : Nat) : Int)) (congrArg (Value.int .i64) hx_12e)) ?_
          refine JL.ld rfl (LO.load1 0 (v := str key) rfl rfl Tryz.isAgg9 rfl) ?_
          refine JL.pure rfl (PO.move (v := str val) rfl) ?_
          refine JL.pure rfl (PO.build (ps := [(0, str key), (1, str val)]) (cs := [str key, str val]) rfl (by kernel_rfl)) ?_
          refine JL.op rfl (JO.buildSlice (ps := [(0, .agg #[str key, str val])]) (cur := #[str key, str val]) Tryz.underlying29 Tryz.sizeOf113 Tryz.zeroValue113 rfl (by kernel_rfl) (by decide) (by decide)) ?_
          rintro _ _ ⟨a_13, rfl, rfl⟩
          refine JL.op rfl (JO.call [2, 0] Tryz.call303 rfl (C_insC a_4 a_13 c_5 (s.filter (fun c => !decide (c.1 = key))) (findAt (fun q_ => gtrB q_.1 key) (s.filter (fun c => !decide (c.1 = key)))) (key, val) (by omega) (by omega) (by rw [lenC])) rfl (fun _ _ => trivial)) ?_
          rintro _ _ ⟨_, ⟨a_14, c_15, rfl, rfl⟩, rfl⟩
          refine JL.pure rfl (PO.assign (v := .slice a_14 ((insertAt (findAt (fun q_ => gtrB q_.1 key) (s.filter (fun c => !decide (c.1 = key)))) (key, val) (s.filter (fun c => !decide (c.1 = key)))).length) c_15) rfl) ?_
          refine JL.nil ?_
          refine JQ.seq ?_
          refine JC.ret ?_
          refine Done.one (.inl rfl) rfl (RV.tmp (v := .slice a_14 ((insertAt (findAt (fun q_ => gtrB q_.1 key) (s.filter (fun c => !decide (c.1 = key)))) (key, val) (s.filter (fun c => !decide (c.1 = key)))).length) c_15) rfl) (List.sublist_append_left [Res.row (.slice a_14 ((insertAt (findAt (fun q_ => gtrB q_.1 key) (s.filter (fun c => !decide (c.1 = key)))) (key, val) (s.filter (fun c => !decide (c.1 = key)))).length) c_15) 113 2 ((insertAt (findAt (fun q_ => gtrB q_.1 key) (s.filter (fun c => !decide (c.1 = key)))) (key, val) (s.filter (fun c => !decide (c.1 = key)))).length) ((insertAt (findAt (fun q_ => gtrB q_.1 key) (s.filter (fun c => !decide (c.1 = key)))) (key, val) (s.filter (fun c => !decide (c.1 = key)))).flatMap encC)] [bk b_1 9 [str key]]) ?_
          have he := (putKey_ins h_2 (by omega) h_6 : putKey s key val = _)
          exact ⟨_, _, by rw [he], by rw [he] <;> rfl⟩
  · skip
    refine JL.guardOff (b := true) rfl rfl rfl (congrArg Value.bool (congrArg Bool.not h_2)) ?_
    refine JL.guardOff (b := true) rfl rfl rfl (congrArg Value.bool (congrArg Bool.not h_2)) ?_
    refine JL.guardOff (b := true) rfl rfl rfl (congrArg Value.bool (congrArg Bool.not h_2)) ?_
    refine JL.pure rfl (PO.pickT (v := .bool true) (congrArg Value.bool (congrArg Bool.not h_2)) rfl) ?_
    refine JL.nil ?_
    refine JQ.seq ?_
    refine JC.condT (congrArg Value.bool rfl) ?_
    refine JC.seq ?_
    refine JC.region ?_
    refine JL.pure rfl (PO.move (v := .slice a s.length c) rfl) ?_
    refine JL.pure rfl (PO.assign (v := .slice a s.length c) rfl) ?_
    refine JL.nil ?_
    refine JQ.seq ?_
    refine JC.ret ?_
    refine JQ.thenRet ?_
    refine JQ.perm (pick_perm [1] (A := [Res.row (.slice a s.length c) 113 2 s.length (s.flatMap encC)]) (F := [bk b_1 9 [str key]]) rfl).symm ?_
    refine Done.one (.inl rfl) rfl (RV.tmp (v := .slice a s.length c) rfl) (List.sublist_append_left [Res.row (.slice a s.length c) 113 2 s.length (s.flatMap encC)] [bk b_1 9 [str key]]) ?_
    have he := (putKey_bad1 h_2 : putKey s key val = _)
    exact ⟨_, _, by rw [he], by rw [he] <;> rfl⟩

end Go.Proofs.YtenfajgpdhgknaaGreatDoor
