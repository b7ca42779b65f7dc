/-
  Texts of the walk, joined: what each one proves stands at its theorems.
-/
import Derived.Test.YtjncpgcccgdeiaaGreatDoorS08IMPL
import Derived.Test.YtjncpgcccgdeiaaGreatDoorDatM
import Derived.Lib.Strings
import Derived.Test.YtjncpgcccgdeiaaGreatDoorDatA
import Derived.Lib.AppendStr
set_option linter.unusedSimpArgs false
set_option linter.unusedVariables false
set_option linter.unnecessarySimpa false
namespace Go.Proofs.YtjncpgcccgdeiaaGreatDoor
open Go Go.RowKit
attribute [local irreducible] JL JC JQ JO LO PO JA JX Ct





theorem C_decimal (n : Int) (h0 : -9223372036854775808 ≤ n) (h1 : n ≤ 9223372036854775807) :
    Ct Tryz.prog 29 [.int .i64 n] [] (fun _ => True) (fun v A' => v = str (dec n) ∧ A' = []) := by
  refine Ct.intro Tryz.func29 rfl Tryz.ntmps29 (Nat.le_of_ble_eq_true rfl) fun w0 hpre => ?_
  refine JC.seq ?_
  refine JC.region ?_
  refine JL.pure rfl (PO.assign (v := str []) rfl) ?_
  refine JL.nil ?_
  refine JQ.seq ?_
  refine JC.seq ?_
  refine JC.region ?_
  refine JL.pure rfl (PO.move (v := .int .i64 n) rfl) ?_
  refine JL.op rfl (JO.call [] Tryz.call83 rfl (C_itoa n (by omega) (by omega)) rfl (fun _ _ => trivial)) ?_
  rintro _ _ ⟨_, ⟨rfl, rfl⟩, rfl⟩
  refine JL.pure rfl (PO.assign (v := str (dec n)) rfl) ?_
  refine JL.nil ?_
  refine JQ.seq ?_
  refine JC.ret ?_
  refine Done.one (.inl rfl) rfl (RV.tmp (v := str (dec n)) rfl) (List.nil_sublist _) ?_
  exact ⟨rfl, rfl⟩

theorem C_readDecimal (t : Str) (ht : t.length ≤ 281474976710656) :
    Ct Tryz.prog 113 [str t] [] (fun _ => True) (fun v A' => v = .tuple #[.int .i64 (readDec t).1, .bool (readDec t).2] ∧ A' = []) := by
  refine Ct.intro Tryz.func113 rfl Tryz.ntmps113 (Nat.le_of_ble_eq_true rfl) fun w0 hpre => ?_
  refine JC.seq ?_
  refine JC.region ?_
  refine JL.pure rfl (PO.assign (v := .int .i64 0) rfl) ?_
  refine JL.pure rfl (PO.assign (v := .bool false) rfl) ?_
  refine JL.nil ?_
  refine JQ.seq ?_
  refine JC.seq ?_
  refine JC.region ?_
  refine JL.pure rfl (PO.move (v := str t) rfl) ?_
  refine JL.op rfl (JO.call [] Tryz.call145 rfl (C_atoi t (by omega)) rfl (fun _ _ => trivial)) ?_
  rintro _ _ ⟨_, ⟨⟨n_, hat, rfl⟩ | ⟨hat, n_, te, pe, rfl⟩, rfl⟩, rfl⟩
  · skip
    refine JL.pure rfl (PO.move (v := .tuple #[.int .i64 n_, .nilIface]) rfl) ?_
    refine JL.pure rfl (PO.extract (v := .int .i64 n_) rfl rfl) ?_
    refine JL.pure rfl (PO.extract (v := .nilIface) rfl rfl) ?_
    refine JL.pure rfl (PO.assign (v := .int .i64 n_) rfl) ?_
    refine JL.pure rfl (PO.assign (v := .nilIface) rfl) ?_
    refine JL.nil ?_
    refine JQ.seq ?_
    refine JC.seq ?_
    refine JC.seq ?_
    refine JC.region ?_
    refine JL.pure rfl (PO.move (v := .nilIface) rfl) ?_
    refine JL.pure rfl (PO.neqIfN Tryz.underlying95 rfl rfl) ?_
    refine JL.pure rfl (PO.move (v := .bool false) rfl) ?_
    refine JL.guardOn rfl rfl rfl (congrArg Value.bool rfl) (JO.ofLO (LO.pure (PO.move (v := .int .i64 n_) rfl))) ?_
    rintro _ _ ⟨rfl, rfl⟩
    refine JL.guardOn rfl rfl rfl (congrArg Value.bool rfl) (JO.call [] Tryz.call76 rfl (C_within n_ 0 1000000000) rfl (fun _ _ => trivial)) ?_
    rintro _ _ ⟨_, ⟨rfl, rfl⟩, rfl⟩
    refine JL.guardOn rfl rfl rfl (congrArg Value.bool rfl) (JO.ofLO (LO.pure (PO.not rfl))) ?_
    rintro _ _ ⟨rfl, rfl⟩
    refine JL.pure rfl (PO.pickF (v := .bool (!(decide (0 ≤ n_) && decide (n_ ≤ 1000000000)))) (congrArg Value.bool rfl) rfl) ?_
    refine JL.pure rfl (PO.move (v := .bool (!(decide (0 ≤ n_) && decide (n_ ≤ 1000000000)))) rfl) ?_
    rcases Bool.eq_false_or_eq_true (decide (0 ≤ n_) && decide (n_ ≤ 1000000000)) with h_1 | h_1
    · skip
      have h_1d := h_1
      simp only [Bool.and_eq_true, Bool.and_eq_false_iff, decide_eq_true_eq, decide_eq_false_iff_not] at h_1d
      refine JL.guardOn rfl rfl rfl (congrArg Value.bool (congrArg Bool.not h_1)) (JO.ofLO (LO.pure (PO.move (v := .int .i64 n_) rfl))) ?_
      rintro _ _ ⟨rfl, rfl⟩
      refine JL.guardOn rfl rfl rfl (congrArg Value.bool (congrArg Bool.not h_1)) (JO.call [] Tryz.call29 rfl (C_decimal n_ (by omega) (by omega)) rfl (fun _ _ => trivial)) ?_
      rintro _ _ ⟨_, ⟨rfl, rfl⟩, rfl⟩
      refine JL.guardOn rfl rfl rfl (congrArg Value.bool (congrArg Bool.not h_1)) (JO.ofLO (LO.pure (PO.move (v := str t) rfl))) ?_
      rintro _ _ ⟨rfl, rfl⟩
      refine JL.guardOn rfl rfl rfl (congrArg Value.bool (congrArg Bool.not h_1)) (JO.ofLO (LO.pure (PO.neqS rfl rfl))) ?_
      rintro _ _ ⟨rfl, rfl⟩
      refine JL.pure rfl (PO.pickF (v := .bool (!(decide ((dec n_) = t)))) (congrArg Value.bool (congrArg Bool.not h_1)) rfl) ?_
      refine JL.nil ?_
      refine JQ.seq ?_
      by_cases h_2 : (dec n_) = t
      · skip
        refine JC.condF (congrArg Value.bool (congrArg Bool.not (decide_eq_true h_2))) ?_
        refine JC.skip ?_
        refine JQ.seq ?_
        refine JC.seq ?_
        refine JC.region ?_
        refine JL.pure rfl (PO.move (v := .int .i64 n_) rfl) ?_
        refine JL.pure rfl (PO.assign (v := .int .i64 n_) rfl) ?_
        refine JL.pure rfl (PO.assign (v := .bool true) rfl) ?_
        refine JL.nil ?_
        refine JQ.seq ?_
        refine JC.ret ?_
        refine Done.two (.inl rfl) rfl (RV.tmp (v := .int .i64 n_) rfl) (RV.tmp (v := .bool true) rfl) (List.nil_sublist _) ?_
        refine ⟨?_, rfl⟩
        rw [readDec_ok hat, if_pos (by refine ⟨?_, ?_, ?_⟩ <;> first | omega | simp_all)]
      · skip
        refine JC.condT (congrArg Value.bool (congrArg Bool.not (decide_eq_false h_2))) ?_
        refine JC.seq ?_
        refine JC.region ?_
        refine JL.pure rfl (PO.assign (v := .int .i64 0) rfl) ?_
        refine JL.pure rfl (PO.assign (v := .bool false) rfl) ?_
        refine JL.nil ?_
        refine JQ.seq ?_
        refine JC.ret ?_
        refine JQ.thenRet ?_
        refine Done.two (.inl rfl) rfl (RV.tmp (v := .int .i64 0) rfl) (RV.tmp (v := .bool false) rfl) (List.nil_sublist _) ?_
        refine ⟨?_, rfl⟩
        rw [readDec_ok hat, if_neg (fun h => by simp_all <;> omega)]
    · skip
      have h_1d := h_1
      simp only [Bool.and_eq_true, Bool.and_eq_false_iff, decide_eq_true_eq, decide_eq_false_iff_not] at h_1d
      refine JL.guardOff (b := true) rfl rfl rfl (congrArg Value.bool (congrArg Bool.not h_1)) ?_
      refine JL.guardOff (b := true) rfl rfl rfl (congrArg Value.bool (congrArg Bool.not h_1)) ?_
      refine JL.guardOff (b := true) rfl rfl rfl (congrArg Value.bool (congrArg Bool.not h_1)) ?_
      refine JL.guardOff (b := true) rfl rfl rfl (congrArg Value.bool (congrArg Bool.not h_1)) ?_
      refine JL.pure rfl (PO.pickT (v := .bool true) (congrArg Value.bool (congrArg Bool.not h_1)) rfl) ?_
      refine JL.nil ?_
      refine JQ.seq ?_
      refine JC.condT (congrArg Value.bool rfl) ?_
      refine JC.seq ?_
      refine JC.region ?_
      refine JL.pure rfl (PO.assign (v := .int .i64 0) rfl) ?_
      refine JL.pure rfl (PO.assign (v := .bool false) rfl) ?_
      refine JL.nil ?_
      refine JQ.seq ?_
      refine JC.ret ?_
      refine JQ.thenRet ?_
      refine Done.two (.inl rfl) rfl (RV.tmp (v := .int .i64 0) rfl) (RV.tmp (v := .bool false) rfl) (List.nil_sublist _) ?_
      refine ⟨?_, rfl⟩
      rw [readDec_ok hat, if_neg (fun h => by simp_all <;> omega)]
  · skip
    refine JL.pure rfl (PO.move (v := .tuple #[.int .i64 n_, .iface te pe]) rfl) ?_
    refine JL.pure rfl (PO.extract (v := .int .i64 n_) rfl rfl) ?_
    refine JL.pure rfl (PO.extract (v := .iface te pe) rfl rfl) ?_
    refine JL.pure rfl (PO.assign (v := .int .i64 n_) rfl) ?_
    refine JL.pure rfl (PO.assign (v := .iface te pe) rfl) ?_
    refine JL.nil ?_
    refine JQ.seq ?_
    refine JC.seq ?_
    refine JC.seq ?_
    refine JC.region ?_
    refine JL.pure rfl (PO.move (v := .iface te pe) rfl) ?_
    refine JL.pure rfl (PO.neqIfS Tryz.underlying95 rfl rfl) ?_
    refine JL.pure rfl (PO.move (v := .bool true) rfl) ?_
    refine JL.guardOff (b := true) rfl rfl rfl (congrArg Value.bool rfl) ?_
    refine JL.guardOff (b := true) rfl rfl rfl (congrArg Value.bool rfl) ?_
    refine JL.guardOff (b := true) rfl rfl rfl (congrArg Value.bool rfl) ?_
    refine JL.pure rfl (PO.pickT (v := .bool true) (congrArg Value.bool rfl) rfl) ?_
    refine JL.pure rfl (PO.move (v := .bool true) rfl) ?_
    refine JL.guardOff (b := true) rfl rfl rfl (congrArg Value.bool rfl) ?_
    refine JL.guardOff (b := true) rfl rfl rfl (congrArg Value.bool rfl) ?_
    refine JL.guardOff (b := true) rfl rfl rfl (congrArg Value.bool rfl) ?_
    refine JL.guardOff (b := true) rfl rfl rfl (congrArg Value.bool rfl) ?_
    refine JL.pure rfl (PO.pickT (v := .bool true) (congrArg Value.bool rfl) rfl) ?_
    refine JL.nil ?_
    refine JQ.seq ?_
    refine JC.condT (congrArg Value.bool rfl) ?_
    refine JC.seq ?_
    refine JC.region ?_
    refine JL.pure rfl (PO.assign (v := .int .i64 0) rfl) ?_
    refine JL.pure rfl (PO.assign (v := .bool false) rfl) ?_
    refine JL.nil ?_
    refine JQ.seq ?_
    refine JC.ret ?_
    refine JQ.thenRet ?_
    refine Done.two (.inl rfl) rfl (RV.tmp (v := .int .i64 0) rfl) (RV.tmp (v := .bool false) rfl) (List.nil_sublist _) ?_
    rw [readDec_err hat]
    exact ⟨rfl, rfl⟩





end Go.Proofs.YtjncpgcccgdeiaaGreatDoor

set_option linter.unusedSimpArgs false
set_option linter.unusedVariables false
set_option linter.unnecessarySimpa false
namespace Go.Proofs.YtjncpgcccgdeiaaGreatDoor
open Go Go.RowKit
attribute [local irreducible] JL JC JQ JO LO PO JA JX Ct

theorem C_l01In (n lo hi : Int) :
    Ct Tryz.prog 89 [.int .i64 n, .int .i64 lo, .int .i64 hi] [] (fun _ => True) (fun v A' => v = .bool (decide (lo ≤ n) && decide (n ≤ hi)) ∧ A' = []) := by
  refine Ct.intro Tryz.func89 rfl Tryz.ntmps89 (Nat.le_of_ble_eq_true rfl) fun w0 hpre => ?_
  refine JC.seq ?_
  refine JC.region ?_
  refine JL.pure rfl (PO.assign (v := .bool false) rfl) ?_
  refine JL.nil ?_
  refine JQ.seq ?_
  refine JC.seq ?_
  refine JC.region ?_
  refine JL.pure rfl (PO.move (v := .int .i64 n) rfl) ?_
  refine JL.pure rfl (PO.move (v := .int .i64 lo) rfl) ?_
  refine JL.pure rfl (PO.geq rfl rfl) ?_
  refine JL.pure rfl (PO.move (v := .bool (decide (lo ≤ n))) rfl) ?_
  by_cases h_1 : lo ≤ n
  · skip
    refine JL.guardOn rfl rfl rfl (congrArg Value.bool (decide_eq_true h_1)) (JO.ofLO (LO.pure (PO.move (v := .int .i64 n) rfl))) ?_
    rintro _ _ ⟨rfl, rfl⟩
    refine JL.guardOn rfl rfl rfl (congrArg Value.bool (decide_eq_true h_1)) (JO.ofLO (LO.pure (PO.move (v := .int .i64 hi) rfl))) ?_
    rintro _ _ ⟨rfl, rfl⟩
    refine JL.guardOn rfl rfl rfl (congrArg Value.bool (decide_eq_true h_1)) (JO.ofLO (LO.pure (PO.leq rfl rfl))) ?_
    rintro _ _ ⟨rfl, rfl⟩
    refine JL.pure rfl (PO.pickT (v := .bool (decide (n ≤ hi))) (congrArg Value.bool (decide_eq_true h_1)) rfl) ?_
    refine JL.pure rfl (PO.assign (v := .bool (decide (n ≤ hi))) rfl) ?_
    refine JL.nil ?_
    refine JQ.seq ?_
    refine JC.ret ?_
    refine Done.one (.inl rfl) rfl (RV.tmp (v := .bool (decide (n ≤ hi))) rfl) (List.nil_sublist _) ?_
    refine ⟨?_, rfl⟩
    simp_all <;> omega
  · skip
    refine JL.guardOff (b := false) rfl rfl rfl (congrArg Value.bool (decide_eq_false h_1)) ?_
    refine JL.guardOff (b := false) rfl rfl rfl (congrArg Value.bool (decide_eq_false h_1)) ?_
    refine JL.guardOff (b := false) rfl rfl rfl (congrArg Value.bool (decide_eq_false h_1)) ?_
    refine JL.pure rfl (PO.pickF (v := .bool false) (congrArg Value.bool (decide_eq_false h_1)) rfl) ?_
    refine JL.pure rfl (PO.assign (v := .bool false) rfl) ?_
    refine JL.nil ?_
    refine JQ.seq ?_
    refine JC.ret ?_
    refine Done.one (.inl rfl) rfl (RV.tmp (v := .bool false) rfl) (List.nil_sublist _) ?_
    refine ⟨?_, rfl⟩
    simp_all <;> omega

theorem C_sKeyOk (key : Str) (hk : key.length ≤ 1000000000000) :
    Ct Tryz.prog 92 [str key] [] (fun _ => True) (fun v A' => v = .bool (keyOk key) ∧ A' = []) := by
  refine Ct.intro Tryz.func92 rfl Tryz.ntmps92 (Nat.le_of_ble_eq_true rfl) fun w0 hpre => ?_
  refine JC.seq ?_
  refine JC.region ?_
  refine JL.pure rfl (PO.assign (v := .bool false) rfl) ?_
  refine JL.nil ?_
  refine JQ.seq ?_
  refine JC.seq ?_
  refine JC.seq ?_
  refine JC.region ?_
  refine JL.pure rfl (PO.assign (v := .int .i64 0) rfl) ?_
  refine JL.nil ?_
  refine JQ.seq ?_
  refine JC.block ?_
  refine JC.loop (fun k_ e_ L_ => ∃ j : Nat, (j ≤ key.length) ∧ (∀ i, i < j → i < key.length → keyByte (key.getD i 0) = true) ∧ e_ 0 = str key ∧ e_ 3 = .int .i64 ((j : Nat) : Int) ∧ L_ = [] ∧ k_ = key.length - j) _ ⟨0, by omega, (fun i hi => absurd hi (Nat.not_lt_zero i)), rfl, rfl, rfl, rfl⟩ ?_
  rintro _ e_1 _ ⟨j, hj, hN, he_2, he_3, rfl, rfl⟩
  refine JC.seq ?_
  refine JC.seq ?_
  refine JC.region ?_
  refine JL.pure rfl (PO.move (v := .int .i64 ((j : Nat) : Int)) he_3) ?_
  refine JL.pure rfl (PO.move (v := str key) he_2) ?_
  refine JL.pure rfl (PO.lenS Tryz.underlying9 rfl) ?_
  refine JL.pure rfl (PO.lss rfl rfl) ?_
  refine JL.nil ?_
  refine JQ.seq ?_
  by_cases h_4 : ((j : Nat) : Int) < (key.length : Int)
  · skip
    refine JC.condT (congrArg Value.bool (decide_eq_true h_4)) ?_
    refine JC.skip ?_
    refine JQ.seq ?_
    refine JC.seq ?_
    refine JC.block ?_
    refine JC.seq ?_
    refine JC.region ?_
    refine JL.pure rfl (PO.move (v := str key) he_2) ?_
    refine JL.pure rfl (PO.move (v := .int .i64 ((j : Nat) : Int)) he_3) ?_
    refine JL.pure rfl (PO.indexS (i := j) (c := key.getD j 0) Tryz.underlying9 rfl rfl (getD_some (by omega))) ?_
    have hu_5 := UInt8.toNat_lt (key.getD j 0)
    refine JL.pure rfl (PO.convI (c := ((key.getD j 0).toNat : Int)) Tryz.underlying5 Tryz.underlying3 rfl (wr (by omega))) ?_
    refine JL.op rfl (JO.call [] Tryz.call89 rfl (C_l01In ((key.getD j 0).toNat : Int) 33 126) rfl (fun _ _ => trivial)) ?_
    rintro _ _ ⟨_, ⟨rfl, rfl⟩, rfl⟩
    refine JL.pure rfl (PO.not rfl) ?_
    refine JL.pure rfl (PO.move (v := .bool (!(decide (33 ≤ ((key.getD j 0).toNat : Int)) && decide (((key.getD j 0).toNat : Int) ≤ 126)))) rfl) ?_
    rcases Bool.eq_false_or_eq_true (decide (33 ≤ ((key.getD j 0).toNat : Int)) && decide (((key.getD j 0).toNat : Int) ≤ 126)) with h_6 | h_6
    · skip
      have h_6d := h_6
      simp only [Bool.and_eq_true, Bool.and_eq_false_iff, decide_eq_true_eq, decide_eq_false_iff_not] at h_6d
      refine JL.guardOn rfl rfl rfl (congrArg Value.bool (congrArg Bool.not h_6)) (JO.ofLO (LO.pure (PO.move (v := str key) he_2))) ?_
      rintro _ _ ⟨rfl, rfl⟩
      refine JL.guardOn rfl rfl rfl (congrArg Value.bool (congrArg Bool.not h_6)) (JO.ofLO (LO.pure (PO.move (v := .int .i64 ((j : Nat) : Int)) he_3))) ?_
      rintro _ _ ⟨rfl, rfl⟩
      refine JL.guardOn rfl rfl rfl (congrArg Value.bool (congrArg Bool.not h_6)) (JO.ofLO (LO.pure (PO.indexS (i := j) (c := key.getD j 0) Tryz.underlying9 rfl rfl (getD_some (by omega))))) ?_
      rintro _ _ ⟨rfl, rfl⟩
      have hu_7 := UInt8.toNat_lt (key.getD j 0)
      refine JL.guardOn rfl rfl rfl (congrArg Value.bool (congrArg Bool.not h_6)) (JO.ofLO (LO.pure (PO.eqlI rfl rfl))) ?_
      rintro _ _ ⟨rfl, rfl⟩
      refine JL.pure rfl (PO.pickF (v := .bool (decide (((key.getD j 0).toNat : Int) = 42))) (congrArg Value.bool (congrArg Bool.not h_6)) rfl) ?_
      refine JL.nil ?_
      refine JQ.seq ?_
      by_cases h_8 : ((key.getD j 0).toNat : Int) = 42
      · skip
        refine JC.condT (congrArg Value.bool (decide_eq_true h_8)) ?_
        refine JC.seq ?_
        refine JC.region ?_
        refine JL.pure rfl (PO.assign (v := .bool false) rfl) ?_
        refine JL.nil ?_
        refine JQ.seq ?_
        refine JC.ret ?_
        refine JQ.blockRet ?_
        refine JQ.thenRet ?_
        refine JQ.thenRet ?_
        refine JQ.blockRet ?_
        refine JQ.thenRet ?_
        refine Done.one (.inl rfl) rfl (RV.tmp (v := .bool false) rfl) (List.nil_sublist _) ?_
        refine ⟨?_, rfl⟩
        rw [keyOk_bad (j := j) (by omega) (by simp only [keyByte, Bool.and_eq_true, Bool.and_eq_false_iff, decide_eq_true_eq, decide_eq_false_iff_not, Bool.not_eq_true', Bool.not_eq_false']; omega)]
      · skip
        refine JC.condF (congrArg Value.bool (decide_eq_false h_8)) ?_
        refine JC.skip ?_
        refine JQ.blockN ?_
        refine JQ.seq ?_
        refine JC.region ?_
        refine JL.pure rfl (PO.move (v := .int .i64 ((j : Nat) : Int)) he_3) ?_
        refine JL.pure rfl (PO.add (c := ((j + 1 : Nat) : Int)) rfl rfl (wr (by omega))) ?_
        refine JL.pure rfl (PO.assign (v := .int .i64 ((j + 1 : Nat) : Int)) rfl) ?_
        refine JL.nil ?_
        refine JQ.again (key.length - (j + 1)) (by omega) ⟨j + 1, by omega, (fun i hi hl => if h : i = j then h ▸ (by simp only [keyByte, Bool.and_eq_true, Bool.and_eq_false_iff, decide_eq_true_eq, decide_eq_false_iff_not, Bool.not_eq_true', Bool.not_eq_false']; omega : keyByte (key.getD j 0) = true) else hN i (by omega) hl), he_2, rfl, rfl, rfl⟩
    · skip
      have h_6d := h_6
      simp only [Bool.and_eq_true, Bool.and_eq_false_iff, decide_eq_true_eq, decide_eq_false_iff_not] at h_6d
      refine JL.guardOff (b := true) rfl rfl rfl (congrArg Value.bool (congrArg Bool.not h_6)) ?_
      refine JL.guardOff (b := true) rfl rfl rfl (congrArg Value.bool (congrArg Bool.not h_6)) ?_
      refine JL.guardOff (b := true) rfl rfl rfl (congrArg Value.bool (congrArg Bool.not h_6)) ?_
      refine JL.guardOff (b := true) rfl rfl rfl (congrArg Value.bool (congrArg Bool.not h_6)) ?_
      refine JL.pure rfl (PO.pickT (v := .bool true) (congrArg Value.bool (congrArg Bool.not h_6)) rfl) ?_
      refine JL.nil ?_
      refine JQ.seq ?_
      refine JC.condT (congrArg Value.bool rfl) ?_
      refine JC.seq ?_
      refine JC.region ?_
      refine JL.pure rfl (PO.assign (v := .bool false) rfl) ?_
      refine JL.nil ?_
      refine JQ.seq ?_
      refine JC.ret ?_
      refine JQ.blockRet ?_
      refine JQ.thenRet ?_
      refine JQ.thenRet ?_
      refine JQ.blockRet ?_
      refine JQ.thenRet ?_
      refine Done.one (.inl rfl) rfl (RV.tmp (v := .bool false) rfl) (List.nil_sublist _) ?_
      refine ⟨?_, rfl⟩
      rw [keyOk_bad (j := j) (by omega) (by simp only [keyByte, Bool.and_eq_true, Bool.and_eq_false_iff, decide_eq_true_eq, decide_eq_false_iff_not, Bool.not_eq_true', Bool.not_eq_false']; omega)]
  · skip
    refine JC.condF (congrArg Value.bool (decide_eq_false h_4)) ?_
    refine JC.exit ?_
    refine JQ.thenExit ?_
    refine JQ.thenExit ?_
    refine JQ.blockE ?_
    refine JQ.seq ?_
    refine JC.seq ?_
    refine JC.region ?_
    refine JL.pure rfl (PO.move (v := str key) he_2) ?_
    refine JL.pure rfl (PO.lenS Tryz.underlying9 rfl) ?_
    refine JL.op rfl (JO.call [] Tryz.call89 rfl (C_l01In (key.length : Int) 1 40) rfl (fun _ _ => trivial)) ?_
    rintro _ _ ⟨_, ⟨rfl, rfl⟩, rfl⟩
    refine JL.pure rfl (PO.assign (v := .bool (decide (1 ≤ (key.length : Int)) && decide ((key.length : Int) ≤ 40))) rfl) ?_
    refine JL.nil ?_
    refine JQ.seq ?_
    refine JC.ret ?_
    refine Done.one (.inl rfl) rfl (RV.tmp (v := .bool (decide (1 ≤ (key.length : Int)) && decide ((key.length : Int) ≤ 40))) rfl) (List.nil_sublist _) ?_
    refine ⟨?_, rfl⟩
    rw [keyOk_good (j := j) (by omega) hN]
    exact congrArg Value.bool (by congr 1 <;> exact decide_eq_decide.2 (by omega))


theorem C_sPutKey (a : Option Addr) (c : Nat) (s : List Cell) (key val : Str) (hn : s.length ≤ 100000000000) (hk_ : key.length ≤ 1000000000000) :
    Ct Tryz.prog 134 [.slice a s.length c, str key, str val] [] (fun w_ => Sees w_ (.slice a s.length c) 2 s.length (s.flatMap encC)) (fun v A' => ∃ a' c', v = .slice a' (putKey s key val).length c' ∧ A' = [.row (.slice a' (putKey s key val).length c') 48 2 (putKey s key val).length ((putKey s key val).flatMap encC)]) := by
  refine Ct.intro Tryz.func134 rfl Tryz.ntmps134 (Nat.le_of_ble_eq_true rfl) fun w0 hpre => ?_
  have hs_a : Sees w0 _ _ _ _ := hpre
  refine JC.seq ?_
  refine JC.region ?_
  refine JL.pure rfl (PO.assign (v := .slice none 0 0) rfl) ?_
  refine JL.nil ?_
  refine JQ.seq ?_
  refine JC.seq ?_
  refine JC.region ?_
  refine JL.op rfl (JO.buildSlice (ps := []) (cur := #[]) Tryz.underlying49 Tryz.sizeOf48 Tryz.zeroValue48 rfl (by kernel_rfl) (by decide) (by decide)) ?_
  rintro _ _ ⟨a_1, rfl, rfl⟩
  refine JL.pure rfl (PO.assign (v := .slice a_1 0 0) rfl) ?_
  refine JL.nil ?_
  refine JQ.seq ?_
  refine JC.seq ?_
  refine JC.seq ?_
  refine JC.region ?_
  refine JL.pure rfl (PO.move (v := str key) rfl) ?_
  refine JL.op rfl (JO.call [] Tryz.call92 rfl (C_sKeyOk key (by omega)) rfl (fun _ _ => trivial)) ?_
  rintro _ _ ⟨_, ⟨rfl, rfl⟩, rfl⟩
  refine JL.pure rfl (PO.not rfl) ?_
  refine JL.pure rfl (PO.move (v := .bool (!(keyOk key))) rfl) ?_
  rcases Bool.eq_false_or_eq_true (keyOk key) with h_2 | h_2
  · skip
    have hkey := h_2
    refine JL.guardOn rfl rfl rfl (congrArg Value.bool (congrArg Bool.not h_2)) (JO.ofLO (LO.pure (PO.move (v := str val) rfl))) ?_
    rintro _ _ ⟨rfl, rfl⟩
    refine JL.guardOn rfl rfl rfl (congrArg Value.bool (congrArg Bool.not h_2)) (JO.ofLO (LO.pure (PO.lenS Tryz.underlying9 rfl))) ?_
    rintro _ _ ⟨rfl, rfl⟩
    refine JL.guardOn rfl rfl rfl (congrArg Value.bool (congrArg Bool.not h_2)) (JO.ofLO (LO.pure (PO.gtr rfl rfl))) ?_
    rintro _ _ ⟨rfl, rfl⟩
    refine JL.pure rfl (PO.pickF (v := .bool (decide (60 < (val.length : Int)))) (congrArg Value.bool (congrArg Bool.not h_2)) rfl) ?_
    refine JL.nil ?_
    refine JQ.seq ?_
    by_cases h_3 : 60 < (val.length : Int)
    · skip
      refine JC.condT (congrArg Value.bool (decide_eq_true h_3)) ?_
      refine JC.seq ?_
      refine JC.region ?_
      refine JL.pure rfl (PO.move (v := .slice a_1 0 0) rfl) ?_
      refine JL.pure rfl (PO.move (v := .slice a s.length c) rfl) ?_
      refine JL.op rfl (JO.append' 0 (q := s.length) (news := s.flatMap encC) (n' := s.length) (cs' := s.flatMap encC) rfl Tryz.underlying49 Tryz.underlying49 Tryz.typeInfo48 rfl (by' := 32) rfl rfl rfl rfl rfl (fun w hw => Src.sees (hw.seeOut_ hs_a (fun _ _ => List.not_mem_nil)) (oneC _)) (by (try simp only [List.length_append, List.length_cons, List.length_nil, List.length_take, List.length_drop]); omega) (by (try simp only [List.length_append, List.length_cons, List.length_nil, List.length_take, List.length_drop]); omega) (by (try simp only [List.length_take, List.length_drop]); first | rfl | omega) rfl) ?_
      rintro _ _ ⟨a_4, c_5, rfl, rfl⟩
      refine JL.pure rfl (PO.assign (v := .slice a_4 s.length c_5) rfl) ?_
      refine JL.nil ?_
      refine JQ.seq ?_
      refine JC.ret ?_
      refine JQ.thenRet ?_
      refine Done.one (.inl rfl) rfl (RV.tmp (v := .slice a_4 s.length c_5) rfl) (List.Sublist.refl _) ?_
      have he := (putKey_bad2 (by omega) : putKey s key val = _)
      exact ⟨_, _, by rw [he] <;> rfl, by rw [he] <;> rfl⟩
    · skip
      refine JC.condF (congrArg Value.bool (decide_eq_false h_3)) ?_
      refine JC.skip ?_
      refine JQ.seq ?_
      refine JC.seq ?_
      refine JC.region ?_
      refine JL.pure rfl (PO.move (v := str val) rfl) ?_
      refine JL.pure rfl (PO.eqlS rfl rfl) ?_
      refine JL.pure rfl (PO.assign (v := .bool (decide (val = []))) rfl) ?_
      refine JL.nil ?_
      refine JQ.seq ?_
      refine JC.seq ?_
      refine JC.seq ?_
      refine JC.region ?_
      refine JL.pure rfl (PO.assign (v := .int .i64 0) rfl) ?_
      refine JL.nil ?_
      refine JQ.seq ?_
      refine JC.block ?_
      refine JC.loop (fun k_ e_ L_ => ∃ j : Nat, ∃ xa : Option Addr, ∃ xc : Nat, ∃ o_ : List Cell, ∃ done : Bool, (j ≤ s.length) ∧ (o_.length ≤ 2 * j) ∧ (o_ ++ putL key val done (s.drop j) = putKey s key val) ∧ e_ 0 = .slice a s.length c ∧ e_ 1 = str key ∧ e_ 2 = str val ∧ e_ 6 = .slice none 0 0 ∧ e_ 7 = .slice xa o_.length xc ∧ e_ 8 = .bool done ∧ e_ 9 = .int .i64 ((j : Nat) : Int) ∧ L_ = [Res.row (.slice xa o_.length xc) 48 2 o_.length (o_.flatMap encC)] ∧ k_ = s.length - j) _ ⟨0, a_1, 0, [], (decide (val = [])), by omega, (by simp), (putL_put hkey (by omega)), rfl, rfl, rfl, rfl, rfl, rfl, rfl, rfl, rfl⟩ ?_
      rintro _ e_6 _ ⟨j, xa, xc, o_, done, hj, hl, hR, he_7, he_8, he_9, he_10, he_11, he_12, he_13, rfl, rfl⟩
      refine JC.seq ?_
      refine JC.seq ?_
      refine JC.region ?_
      refine JL.pure rfl (PO.move (v := .int .i64 ((j : Nat) : Int)) he_13) ?_
      refine JL.pure rfl (PO.move (v := .slice a s.length c) he_7) ?_
      refine JL.pure rfl (PO.lenV Tryz.underlying49 rfl) ?_
      refine JL.pure rfl (PO.lss rfl rfl) ?_
      refine JL.nil ?_
      refine JQ.seq ?_
      by_cases h_14 : ((j : Nat) : Int) < ((s.length : Nat) : Int)
      · skip
        have hlt : j < s.length := by omega
        refine JC.condT (congrArg Value.bool (decide_eq_true h_14)) ?_
        refine JC.skip ?_
        refine JQ.seq ?_
        refine JC.seq ?_
        refine JC.block ?_
        refine JC.seq ?_
        refine JC.seq ?_
        refine JC.region ?_
        refine JL.pure rfl (PO.move (v := .bool done) he_12) ?_
        refine JL.pure rfl (PO.not rfl) ?_
        refine JL.pure rfl (PO.move (v := .bool (!done)) rfl) ?_
        rcases Bool.eq_false_or_eq_true (done) with h_15 | h_15
        · skip
          have hd := h_15
          refine JL.guardOff (b := false) rfl rfl rfl (congrArg Value.bool (congrArg Bool.not h_15)) ?_
          refine JL.guardOff (b := false) rfl rfl rfl (congrArg Value.bool (congrArg Bool.not h_15)) ?_
          refine JL.guardOff (b := false) rfl rfl rfl (congrArg Value.bool (congrArg Bool.not h_15)) ?_
          refine JL.guardOff (b := false) rfl rfl rfl (congrArg Value.bool (congrArg Bool.not h_15)) ?_
          refine JL.guardOff (b := false) rfl rfl rfl (congrArg Value.bool (congrArg Bool.not h_15)) ?_
          refine JL.guardOff (b := false) rfl rfl rfl (congrArg Value.bool (congrArg Bool.not h_15)) ?_
          refine JL.guardOff (b := false) rfl rfl rfl (congrArg Value.bool (congrArg Bool.not h_15)) ?_
          refine JL.pure rfl (PO.pickF (v := .bool false) (congrArg Value.bool (congrArg Bool.not h_15)) rfl) ?_
          refine JL.nil ?_
          refine JQ.seq ?_
          refine JC.condF (congrArg Value.bool rfl) ?_
          refine JC.skip ?_
          refine JQ.seq ?_
          refine JC.seq ?_
          refine JC.region ?_
          refine JL.pure rfl (PO.move (v := .slice a s.length c) he_7) ?_
          refine JL.pure rfl (PO.move (v := .int .i64 ((j : Nat) : Int)) he_13) ?_
          obtain ⟨hr_16, hr_16b, -⟩ := sees_some hs_a (by omega)
          refine JL.pure rfl (PO.indexAddrV (i := j) Tryz.underlying49 Tryz.sizeOf48 hr_16 hr_16b rfl rfl (by omega)) ?_
          refine JL.pure rfl (PO.fieldAddrE fo48_0 hr_16 rfl) ?_
          refine JL.ld rfl (LO.loadS1 (v := str ((s.getD j c0).1)) hs_a (fun _ _ => List.not_mem_nil) rfl Tryz.isAgg9 (atC1 (by omega))) ?_
          refine JL.pure rfl (PO.move (v := str key) he_8) ?_
          refine JL.pure rfl (PO.neqS rfl rfl) ?_
          refine JL.nil ?_
          refine JQ.seq ?_
          by_cases h_17 : ((s.getD j c0).1) = key
          · skip
            have hk := h_17
            refine JC.condF (congrArg Value.bool (congrArg Bool.not (decide_eq_true h_17))) ?_
            refine JC.skip ?_
            refine JQ.blockN ?_
            refine JQ.seq ?_
            refine JC.region ?_
            refine JL.pure rfl (PO.move (v := .int .i64 ((j : Nat) : Int)) he_13) ?_
            refine JL.pure rfl (PO.add (c := ((j + 1 : Nat) : Int)) rfl rfl (wr (by omega))) ?_
            refine JL.pure rfl (PO.assign (v := .int .i64 ((j + 1 : Nat) : Int)) rfl) ?_
            refine JL.nil ?_
            refine JQ.pick [0] (A := [Res.row (.slice xa o_.length xc) 48 2 o_.length (o_.flatMap encC)]) rfl ?_
            refine JQ.again (s.length - (j + 1)) (by omega) ⟨j + 1, xa, xc, o_, done, by omega, (by (try simp only [List.length_append, List.length_cons, List.length_nil]); omega), (by rw [putL_step hlt] at hR; simp only [hd, hk, Bool.not_true, Bool.not_false, Bool.true_and, Bool.false_and, Bool.or_true, Bool.true_or, Bool.or_false, Bool.false_or, if_true, if_false, Bool.false_eq_true, List.nil_append, List.append_nil, List.append_assoc] at hR ⊢; exact hR), he_7, he_8, he_9, he_10, he_11, he_12, rfl, rfl, rfl⟩
          · skip
            have hk := h_17
            refine JC.condT (congrArg Value.bool (congrArg Bool.not (decide_eq_false h_17))) ?_
            refine JC.region ?_
            refine JL.pure rfl (PO.move (v := .slice xa o_.length xc) he_11) ?_
            refine JL.pure rfl (PO.move (v := .slice a s.length c) he_7) ?_
            refine JL.pure rfl (PO.move (v := .int .i64 ((j : Nat) : Int)) he_13) ?_
            refine JL.pure rfl (PO.indexAddrV (i := j) Tryz.underlying49 Tryz.sizeOf48 hr_16 hr_16b rfl rfl (by omega)) ?_
            refine JL.ld rfl (LO.loadSK (vs := [str ((s.getD j c0).1), str ((s.getD j c0).2)]) hs_a (fun _ _ => List.not_mem_nil) rfl Tryz.isAgg48 Tryz.sizeOf48 (atC (by omega)) rfl (by decide)) ?_
            refine JL.op rfl (JO.buildSlice (ps := [(0, .agg #[str ((s.getD j c0).1), str ((s.getD j c0).2)])]) (cur := #[str ((s.getD j c0).1), str ((s.getD j c0).2)]) Tryz.underlying49 Tryz.sizeOf48 Tryz.zeroValue48 rfl (by kernel_rfl) (by decide) (by decide)) ?_
            rintro _ _ ⟨a_18, rfl, rfl⟩
            refine JL.op rfl (JO.append' 1 (q := 1) (news := ([((s.getD j c0).1, (s.getD j c0).2)] : List Cell).flatMap encC) (n' := (o_ ++ ([((s.getD j c0).1, (s.getD j c0).2)] : List Cell)).length) (cs' := (o_ ++ ([((s.getD j c0).1, (s.getD j c0).2)] : List Cell)).flatMap encC) rfl Tryz.underlying49 Tryz.underlying49 Tryz.typeInfo48 rfl (by' := 32) rfl rfl rfl rfl rfl (fun w hw => Src.sees (hw.see (i := 0) rfl) (oneC _)) (by (try simp only [List.length_append, List.length_cons, List.length_nil, List.length_take, List.length_drop]); omega) (by (try simp only [List.length_append, List.length_cons, List.length_nil, List.length_take, List.length_drop]); omega) (by simp only [List.length_append, List.length_take, List.length_drop, List.length_cons, List.length_nil] <;> first | rfl | omega) (by simp only [List.flatMap_append])) ?_
            rintro _ _ ⟨a_19, c_20, rfl, rfl⟩
            refine JL.pure rfl (PO.assign (v := .slice a_19 ((o_ ++ ([((s.getD j c0).1, (s.getD j c0).2)] : List Cell)).length) c_20) rfl) ?_
            refine JL.nil ?_
            refine JQ.blockN ?_
            refine JQ.seq ?_
            refine JC.region ?_
            refine JL.pure rfl (PO.move (v := .int .i64 ((j : Nat) : Int)) he_13) ?_
            refine JL.pure rfl (PO.add (c := ((j + 1 : Nat) : Int)) rfl rfl (wr (by omega))) ?_
            refine JL.pure rfl (PO.assign (v := .int .i64 ((j + 1 : Nat) : Int)) rfl) ?_
            refine JL.nil ?_
            refine JQ.pick [1] (A := [Res.row (.slice a_19 ((o_ ++ ([((s.getD j c0).1, (s.getD j c0).2)] : List Cell)).length) c_20) 48 2 ((o_ ++ ([((s.getD j c0).1, (s.getD j c0).2)] : List Cell)).length) ((o_ ++ ([((s.getD j c0).1, (s.getD j c0).2)] : List Cell)).flatMap encC)]) rfl ?_
            refine JQ.again (s.length - (j + 1)) (by omega) ⟨j + 1, a_19, c_20, (o_ ++ ([((s.getD j c0).1, (s.getD j c0).2)] : List Cell)), done, by omega, (by (try simp only [List.length_append, List.length_cons, List.length_nil]); omega), (by rw [putL_step hlt] at hR; simp only [hd, hk, Bool.not_true, Bool.not_false, Bool.true_and, Bool.false_and, Bool.or_true, Bool.true_or, Bool.or_false, Bool.false_or, if_true, if_false, Bool.false_eq_true, List.nil_append, List.append_nil, List.append_assoc] at hR ⊢; exact hR), he_7, he_8, he_9, he_10, rfl, he_12, rfl, rfl, rfl⟩
        · skip
          have hd := h_15
          refine JL.guardOn rfl rfl rfl (congrArg Value.bool (congrArg Bool.not h_15)) (JO.ofLO (LO.pure (PO.move (v := .slice a s.length c) he_7))) ?_
          rintro _ _ ⟨rfl, rfl⟩
          refine JL.guardOn rfl rfl rfl (congrArg Value.bool (congrArg Bool.not h_15)) (JO.ofLO (LO.pure (PO.move (v := .int .i64 ((j : Nat) : Int)) he_13))) ?_
          rintro _ _ ⟨rfl, rfl⟩
          obtain ⟨hr_21, hr_21b, -⟩ := sees_some hs_a (by omega)
          refine JL.guardOn rfl rfl rfl (congrArg Value.bool (congrArg Bool.not h_15)) (JO.ofLO (LO.pure (PO.indexAddrV (i := j) Tryz.underlying49 Tryz.sizeOf48 hr_21 hr_21b rfl rfl (by omega)))) ?_
          rintro _ _ ⟨rfl, rfl⟩
          refine JL.guardOn rfl rfl rfl (congrArg Value.bool (congrArg Bool.not h_15)) (JO.ofLO (LO.pure (PO.fieldAddrE fo48_0 hr_21 rfl))) ?_
          rintro _ _ ⟨rfl, rfl⟩
          refine JL.guardOn rfl rfl rfl (congrArg Value.bool (congrArg Bool.not h_15)) (JO.ofLO (LO.loadS1 (v := str ((s.getD j c0).1)) hs_a (fun _ _ => List.not_mem_nil) rfl Tryz.isAgg9 (atC1 (by omega)))) ?_
          rintro _ _ ⟨rfl, rfl⟩
          refine JL.guardOn rfl rfl rfl (congrArg Value.bool (congrArg Bool.not h_15)) (JO.ofLO (LO.pure (PO.move (v := str key) he_8))) ?_
          rintro _ _ ⟨rfl, rfl⟩
          refine JL.guardOn rfl rfl rfl (congrArg Value.bool (congrArg Bool.not h_15)) (JO.ofLO (LO.pure (PO.gtrS rfl rfl))) ?_
          rintro _ _ ⟨rfl, rfl⟩
          refine JL.pure rfl (PO.pickT (v := .bool (!Op.bytesLess ((s.getD j c0).1) key && !decide (((s.getD j c0).1) = key))) (congrArg Value.bool (congrArg Bool.not h_15)) rfl) ?_
          refine JL.nil ?_
          refine JQ.seq ?_
          rcases Bool.eq_false_or_eq_true (!Op.bytesLess ((s.getD j c0).1) key && !decide (((s.getD j c0).1) = key)) with h_22 | h_22
          · skip
            have h_22d := h_22
            simp only [Bool.and_eq_true, Bool.and_eq_false_iff, decide_eq_true_eq, decide_eq_false_iff_not] at h_22d
            have hg : gtrB (s.getD j c0).1 key = true := h_22
            refine JC.condT (congrArg Value.bool h_22) ?_
            refine JC.seq ?_
            refine JC.region ?_
            refine JL.pure rfl (PO.move (v := .slice xa o_.length xc) he_11) ?_
            refine JL.pure rfl (PO.move (v := str key) he_8) ?_
            refine JL.pure rfl (PO.move (v := str val) he_9) ?_
            refine JL.pure rfl (PO.build (ps := [(0, str key), (1, str val)]) (cs := [str key, str val]) rfl (by kernel_rfl)) ?_
            refine JL.op rfl (JO.buildSlice (ps := [(0, .agg #[str key, str val])]) (cur := #[str key, str val]) Tryz.underlying49 Tryz.sizeOf48 Tryz.zeroValue48 rfl (by kernel_rfl) (by decide) (by decide)) ?_
            rintro _ _ ⟨a_23, rfl, rfl⟩
            refine JL.op rfl (JO.append' 1 (q := 1) (news := ([(key, val)] : List Cell).flatMap encC) (n' := (o_ ++ ([(key, val)] : List Cell)).length) (cs' := (o_ ++ ([(key, val)] : List Cell)).flatMap encC) rfl Tryz.underlying49 Tryz.underlying49 Tryz.typeInfo48 rfl (by' := 32) rfl rfl rfl rfl rfl (fun w hw => Src.sees (hw.see (i := 0) rfl) (oneC _)) (by (try simp only [List.length_append, List.length_cons, List.length_nil, List.length_take, List.length_drop]); omega) (by (try simp only [List.length_append, List.length_cons, List.length_nil, List.length_take, List.length_drop]); omega) (by simp only [List.length_append, List.length_take, List.length_drop, List.length_cons, List.length_nil] <;> first | rfl | omega) (by simp only [List.flatMap_append])) ?_
            rintro _ _ ⟨a_24, c_25, rfl, rfl⟩
            refine JL.pure rfl (PO.assign (v := .slice a_24 ((o_ ++ ([(key, val)] : List Cell)).length) c_25) rfl) ?_
            refine JL.nil ?_
            refine JQ.seq ?_
            refine JC.region ?_
            refine JL.pure rfl (PO.assign (v := .bool true) rfl) ?_
            refine JL.nil ?_
            refine JQ.seq ?_
            refine JC.seq ?_
            refine JC.region ?_
            refine JL.pure rfl (PO.move (v := .slice a s.length c) he_7) ?_
            refine JL.pure rfl (PO.move (v := .int .i64 ((j : Nat) : Int)) he_13) ?_
            refine JL.pure rfl (PO.indexAddrV (i := j) Tryz.underlying49 Tryz.sizeOf48 hr_21 hr_21b rfl rfl (by omega)) ?_
            refine JL.pure rfl (PO.fieldAddrE fo48_0 hr_21 rfl) ?_
            refine JL.ld rfl (LO.loadS1 (v := str ((s.getD j c0).1)) hs_a (fun _ _ => List.not_mem_nil) rfl Tryz.isAgg9 (atC1 (by omega))) ?_
            refine JL.pure rfl (PO.move (v := str key) he_8) ?_
            refine JL.pure rfl (PO.neqS rfl rfl) ?_
            refine JL.nil ?_
            refine JQ.seq ?_
            by_cases h_26 : ((s.getD j c0).1) = key
            · skip
              have hk := h_26
              have hg2 : gtrB key key = true := hk ▸ hg
              refine JC.condF (congrArg Value.bool (congrArg Bool.not (decide_eq_true h_26))) ?_
              refine JC.skip ?_
              refine JQ.blockN ?_
              refine JQ.seq ?_
              refine JC.region ?_
              refine JL.pure rfl (PO.move (v := .int .i64 ((j : Nat) : Int)) he_13) ?_
              refine JL.pure rfl (PO.add (c := ((j + 1 : Nat) : Int)) rfl rfl (wr (by omega))) ?_
              refine JL.pure rfl (PO.assign (v := .int .i64 ((j + 1 : Nat) : Int)) rfl) ?_
              refine JL.nil ?_
              refine JQ.pick [1] (A := [Res.row (.slice a_24 ((o_ ++ ([(key, val)] : List Cell)).length) c_25) 48 2 ((o_ ++ ([(key, val)] : List Cell)).length) ((o_ ++ ([(key, val)] : List Cell)).flatMap encC)]) rfl ?_
              refine JQ.again (s.length - (j + 1)) (by omega) ⟨j + 1, a_24, c_25, (o_ ++ ([(key, val)] : List Cell)), true, by omega, (by (try simp only [List.length_append, List.length_cons, List.length_nil]); omega), (by rw [putL_step hlt] at hR; simp only [hd, hg, hg2, hk, Bool.not_true, Bool.not_false, Bool.true_and, Bool.false_and, Bool.or_true, Bool.true_or, Bool.or_false, Bool.false_or, if_true, if_false, Bool.false_eq_true, List.nil_append, List.append_nil, List.append_assoc] at hR ⊢; exact hR), he_7, he_8, he_9, he_10, rfl, rfl, rfl, rfl, rfl⟩
            · skip
              have hk := h_26
              refine JC.condT (congrArg Value.bool (congrArg Bool.not (decide_eq_false h_26))) ?_
              refine JC.region ?_
              refine JL.pure rfl (PO.move (v := .slice a_24 ((o_ ++ ([(key, val)] : List Cell)).length) c_25) rfl) ?_
              refine JL.pure rfl (PO.move (v := .slice a s.length c) he_7) ?_
              refine JL.pure rfl (PO.move (v := .int .i64 ((j : Nat) : Int)) he_13) ?_
              refine JL.pure rfl (PO.indexAddrV (i := j) Tryz.underlying49 Tryz.sizeOf48 hr_21 hr_21b rfl rfl (by omega)) ?_
              refine JL.ld rfl (LO.loadSK (vs := [str ((s.getD j c0).1), str ((s.getD j c0).2)]) hs_a (fun _ _ => List.not_mem_nil) rfl Tryz.isAgg48 Tryz.sizeOf48 (atC (by omega)) rfl (by decide)) ?_
              refine JL.op rfl (JO.buildSlice (ps := [(0, .agg #[str ((s.getD j c0).1), str ((s.getD j c0).2)])]) (cur := #[str ((s.getD j c0).1), str ((s.getD j c0).2)]) Tryz.underlying49 Tryz.sizeOf48 Tryz.zeroValue48 rfl (by kernel_rfl) (by decide) (by decide)) ?_
              rintro _ _ ⟨a_27, rfl, rfl⟩
              refine JL.op rfl (JO.append' 2 (q := 1) (news := ([((s.getD j c0).1, (s.getD j c0).2)] : List Cell).flatMap encC) (n' := ((o_ ++ ([(key, val)] : List Cell)) ++ ([((s.getD j c0).1, (s.getD j c0).2)] : List Cell)).length) (cs' := ((o_ ++ ([(key, val)] : List Cell)) ++ ([((s.getD j c0).1, (s.getD j c0).2)] : List Cell)).flatMap encC) rfl Tryz.underlying49 Tryz.underlying49 Tryz.typeInfo48 rfl (by' := 32) rfl rfl rfl rfl rfl (fun w hw => Src.sees (hw.see (i := 0) rfl) (oneC _)) (by (try simp only [List.length_append, List.length_cons, List.length_nil, List.length_take, List.length_drop]); omega) (by (try simp only [List.length_append, List.length_cons, List.length_nil, List.length_take, List.length_drop]); omega) (by simp only [List.length_append, List.length_take, List.length_drop, List.length_cons, List.length_nil] <;> first | rfl | omega) (by simp only [List.flatMap_append])) ?_
              rintro _ _ ⟨a_28, c_29, rfl, rfl⟩
              refine JL.pure rfl (PO.assign (v := .slice a_28 (((o_ ++ ([(key, val)] : List Cell)) ++ ([((s.getD j c0).1, (s.getD j c0).2)] : List Cell)).length) c_29) rfl) ?_
              refine JL.nil ?_
              refine JQ.blockN ?_
              refine JQ.seq ?_
              refine JC.region ?_
              refine JL.pure rfl (PO.move (v := .int .i64 ((j : Nat) : Int)) he_13) ?_
              refine JL.pure rfl (PO.add (c := ((j + 1 : Nat) : Int)) rfl rfl (wr (by omega))) ?_
              refine JL.pure rfl (PO.assign (v := .int .i64 ((j + 1 : Nat) : Int)) rfl) ?_
              refine JL.nil ?_
              refine JQ.pick [2] (A := [Res.row (.slice a_28 (((o_ ++ ([(key, val)] : List Cell)) ++ ([((s.getD j c0).1, (s.getD j c0).2)] : List Cell)).length) c_29) 48 2 (((o_ ++ ([(key, val)] : List Cell)) ++ ([((s.getD j c0).1, (s.getD j c0).2)] : List Cell)).length) (((o_ ++ ([(key, val)] : List Cell)) ++ ([((s.getD j c0).1, (s.getD j c0).2)] : List Cell)).flatMap encC)]) rfl ?_
              refine JQ.again (s.length - (j + 1)) (by omega) ⟨j + 1, a_28, c_29, ((o_ ++ ([(key, val)] : List Cell)) ++ ([((s.getD j c0).1, (s.getD j c0).2)] : List Cell)), true, by omega, (by (try simp only [List.length_append, List.length_cons, List.length_nil]); omega), (by rw [putL_step hlt] at hR; simp only [hd, hg, hk, Bool.not_true, Bool.not_false, Bool.true_and, Bool.false_and, Bool.or_true, Bool.true_or, Bool.or_false, Bool.false_or, if_true, if_false, Bool.false_eq_true, List.nil_append, List.append_nil, List.append_assoc] at hR ⊢; exact hR), he_7, he_8, he_9, he_10, rfl, rfl, rfl, rfl, rfl⟩
          · skip
            have h_22d := h_22
            simp only [Bool.and_eq_true, Bool.and_eq_false_iff, decide_eq_true_eq, decide_eq_false_iff_not] at h_22d
            have hg : gtrB (s.getD j c0).1 key = false := h_22
            refine JC.condF (congrArg Value.bool h_22) ?_
            refine JC.skip ?_
            refine JQ.seq ?_
            refine JC.seq ?_
            refine JC.region ?_
            refine JL.pure rfl (PO.move (v := .slice a s.length c) he_7) ?_
            refine JL.pure rfl (PO.move (v := .int .i64 ((j : Nat) : Int)) he_13) ?_
            refine JL.pure rfl (PO.indexAddrV (i := j) Tryz.underlying49 Tryz.sizeOf48 hr_21 hr_21b rfl rfl (by omega)) ?_
            refine JL.pure rfl (PO.fieldAddrE fo48_0 hr_21 rfl) ?_
            refine JL.ld rfl (LO.loadS1 (v := str ((s.getD j c0).1)) hs_a (fun _ _ => List.not_mem_nil) rfl Tryz.isAgg9 (atC1 (by omega))) ?_
            refine JL.pure rfl (PO.move (v := str key) he_8) ?_
            refine JL.pure rfl (PO.neqS rfl rfl) ?_
            refine JL.nil ?_
            refine JQ.seq ?_
            by_cases h_30 : ((s.getD j c0).1) = key
            · skip
              have hk := h_30
              have hg2 : gtrB key key = false := hk ▸ hg
              refine JC.condF (congrArg Value.bool (congrArg Bool.not (decide_eq_true h_30))) ?_
              refine JC.skip ?_
              refine JQ.blockN ?_
              refine JQ.seq ?_
              refine JC.region ?_
              refine JL.pure rfl (PO.move (v := .int .i64 ((j : Nat) : Int)) he_13) ?_
              refine JL.pure rfl (PO.add (c := ((j + 1 : Nat) : Int)) rfl rfl (wr (by omega))) ?_
              refine JL.pure rfl (PO.assign (v := .int .i64 ((j + 1 : Nat) : Int)) rfl) ?_
              refine JL.nil ?_
              refine JQ.pick [0] (A := [Res.row (.slice xa o_.length xc) 48 2 o_.length (o_.flatMap encC)]) rfl ?_
              refine JQ.again (s.length - (j + 1)) (by omega) ⟨j + 1, xa, xc, o_, done, by omega, (by (try simp only [List.length_append, List.length_cons, List.length_nil]); omega), (by rw [putL_step hlt] at hR; simp only [hd, hg, hg2, hk, Bool.not_true, Bool.not_false, Bool.true_and, Bool.false_and, Bool.or_true, Bool.true_or, Bool.or_false, Bool.false_or, if_true, if_false, Bool.false_eq_true, List.nil_append, List.append_nil, List.append_assoc] at hR ⊢; exact hR), he_7, he_8, he_9, he_10, he_11, he_12, rfl, rfl, rfl⟩
            · skip
              have hk := h_30
              refine JC.condT (congrArg Value.bool (congrArg Bool.not (decide_eq_false h_30))) ?_
              refine JC.region ?_
              refine JL.pure rfl (PO.move (v := .slice xa o_.length xc) he_11) ?_
              refine JL.pure rfl (PO.move (v := .slice a s.length c) he_7) ?_
              refine JL.pure rfl (PO.move (v := .int .i64 ((j : Nat) : Int)) he_13) ?_
              refine JL.pure rfl (PO.indexAddrV (i := j) Tryz.underlying49 Tryz.sizeOf48 hr_21 hr_21b rfl rfl (by omega)) ?_
              refine JL.ld rfl (LO.loadSK (vs := [str ((s.getD j c0).1), str ((s.getD j c0).2)]) hs_a (fun _ _ => List.not_mem_nil) rfl Tryz.isAgg48 Tryz.sizeOf48 (atC (by omega)) rfl (by decide)) ?_
              refine JL.op rfl (JO.buildSlice (ps := [(0, .agg #[str ((s.getD j c0).1), str ((s.getD j c0).2)])]) (cur := #[str ((s.getD j c0).1), str ((s.getD j c0).2)]) Tryz.underlying49 Tryz.sizeOf48 Tryz.zeroValue48 rfl (by kernel_rfl) (by decide) (by decide)) ?_
              rintro _ _ ⟨a_31, rfl, rfl⟩
              refine JL.op rfl (JO.append' 1 (q := 1) (news := ([((s.getD j c0).1, (s.getD j c0).2)] : List Cell).flatMap encC) (n' := (o_ ++ ([((s.getD j c0).1, (s.getD j c0).2)] : List Cell)).length) (cs' := (o_ ++ ([((s.getD j c0).1, (s.getD j c0).2)] : List Cell)).flatMap encC) rfl Tryz.underlying49 Tryz.underlying49 Tryz.typeInfo48 rfl (by' := 32) rfl rfl rfl rfl rfl (fun w hw => Src.sees (hw.see (i := 0) rfl) (oneC _)) (by (try simp only [List.length_append, List.length_cons, List.length_nil, List.length_take, List.length_drop]); omega) (by (try simp only [List.length_append, List.length_cons, List.length_nil, List.length_take, List.length_drop]); omega) (by simp only [List.length_append, List.length_take, List.length_drop, List.length_cons, List.length_nil] <;> first | rfl | omega) (by simp only [List.flatMap_append])) ?_
              rintro _ _ ⟨a_32, c_33, rfl, rfl⟩
              refine JL.pure rfl (PO.assign (v := .slice a_32 ((o_ ++ ([((s.getD j c0).1, (s.getD j c0).2)] : List Cell)).length) c_33) rfl) ?_
              refine JL.nil ?_
              refine JQ.blockN ?_
              refine JQ.seq ?_
              refine JC.region ?_
              refine JL.pure rfl (PO.move (v := .int .i64 ((j : Nat) : Int)) he_13) ?_
              refine JL.pure rfl (PO.add (c := ((j + 1 : Nat) : Int)) rfl rfl (wr (by omega))) ?_
              refine JL.pure rfl (PO.assign (v := .int .i64 ((j + 1 : Nat) : Int)) rfl) ?_
              refine JL.nil ?_
              refine JQ.pick [1] (A := [Res.row (.slice a_32 ((o_ ++ ([((s.getD j c0).1, (s.getD j c0).2)] : List Cell)).length) c_33) 48 2 ((o_ ++ ([((s.getD j c0).1, (s.getD j c0).2)] : List Cell)).length) ((o_ ++ ([((s.getD j c0).1, (s.getD j c0).2)] : List Cell)).flatMap encC)]) rfl ?_
              refine JQ.again (s.length - (j + 1)) (by omega) ⟨j + 1, a_32, c_33, (o_ ++ ([((s.getD j c0).1, (s.getD j c0).2)] : List Cell)), done, by omega, (by (try simp only [List.length_append, List.length_cons, List.length_nil]); omega), (by rw [putL_step hlt] at hR; simp only [hd, hg, hk, Bool.not_true, Bool.not_false, Bool.true_and, Bool.false_and, Bool.or_true, Bool.true_or, Bool.or_false, Bool.false_or, if_true, if_false, Bool.false_eq_true, List.nil_append, List.append_nil, List.append_assoc] at hR ⊢; exact hR), he_7, he_8, he_9, he_10, rfl, he_12, rfl, rfl, rfl⟩
      · skip
        refine JC.condF (congrArg Value.bool (decide_eq_false h_14)) ?_
        refine JC.exit ?_
        refine JQ.thenExit ?_
        refine JQ.thenExit ?_
        refine JQ.blockE ?_
        refine JQ.seq ?_
        refine JC.seq ?_
        refine JC.seq ?_
        refine JC.region ?_
        refine JL.pure rfl (PO.move (v := .bool done) he_12) ?_
        refine JL.pure rfl (PO.not rfl) ?_
        refine JL.nil ?_
        refine JQ.seq ?_
        rcases Bool.eq_false_or_eq_true (done) with h_34 | h_34
        · skip
          have hd := h_34
          refine JC.condF (congrArg Value.bool (congrArg Bool.not h_34)) ?_
          refine JC.skip ?_
          refine JQ.seq ?_
          refine JC.seq ?_
          refine JC.region ?_
          refine JL.pure rfl (PO.move (v := .slice xa o_.length xc) he_11) ?_
          refine JL.pure rfl (PO.assign (v := .slice xa o_.length xc) rfl) ?_
          refine JL.nil ?_
          refine JQ.seq ?_
          refine JC.ret ?_
          refine Done.one (.inl rfl) rfl (RV.tmp (v := .slice xa o_.length xc) rfl) (List.Sublist.refl _) ?_
          rw [List.drop_of_length_le (by omega), putL] at hR
          simp only [hd, Bool.not_true, Bool.not_false, Bool.true_and, Bool.false_and, Bool.or_true, Bool.true_or, Bool.or_false, Bool.false_or, if_true, if_false, Bool.false_eq_true, List.nil_append, List.append_nil, List.append_assoc] at hR
          exact ⟨_, _, by rw [← hR] <;> rfl, by rw [← hR] <;> rfl⟩
        · skip
          have hd := h_34
          refine JC.condT (congrArg Value.bool (congrArg Bool.not h_34)) ?_
          refine JC.region ?_
          refine JL.pure rfl (PO.move (v := .slice xa o_.length xc) he_11) ?_
          refine JL.pure rfl (PO.move (v := str key) he_8) ?_
          refine JL.pure rfl (PO.move (v := str val) he_9) ?_
          refine JL.pure rfl (PO.build (ps := [(0, str key), (1, str val)]) (cs := [str key, str val]) rfl (by kernel_rfl)) ?_
          refine JL.op rfl (JO.buildSlice (ps := [(0, .agg #[str key, str val])]) (cur := #[str key, str val]) Tryz.underlying49 Tryz.sizeOf48 Tryz.zeroValue48 rfl (by kernel_rfl) (by decide) (by decide)) ?_
          rintro _ _ ⟨a_35, rfl, rfl⟩
          refine JL.op rfl (JO.append' 1 (q := 1) (news := ([(key, val)] : List Cell).flatMap encC) (n' := (o_ ++ ([(key, val)] : List Cell)).length) (cs' := (o_ ++ ([(key, val)] : List Cell)).flatMap encC) rfl Tryz.underlying49 Tryz.underlying49 Tryz.typeInfo48 rfl (by' := 32) rfl rfl rfl rfl rfl (fun w hw => Src.sees (hw.see (i := 0) rfl) (oneC _)) (by (try simp only [List.length_append, List.length_cons, List.length_nil, List.length_take, List.length_drop]); omega) (by (try simp only [List.length_append, List.length_cons, List.length_nil, List.length_take, List.length_drop]); omega) (by simp only [List.length_append, List.length_take, List.length_drop, List.length_cons, List.length_nil] <;> first | rfl | omega) (by simp only [List.flatMap_append])) ?_
          rintro _ _ ⟨a_36, c_37, rfl, rfl⟩
          refine JL.pure rfl (PO.assign (v := .slice a_36 ((o_ ++ ([(key, val)] : List Cell)).length) c_37) rfl) ?_
          refine JL.nil ?_
          refine JQ.seq ?_
          refine JC.seq ?_
          refine JC.region ?_
          refine JL.pure rfl (PO.move (v := .slice a_36 ((o_ ++ ([(key, val)] : List Cell)).length) c_37) rfl) ?_
          refine JL.pure rfl (PO.assign (v := .slice a_36 ((o_ ++ ([(key, val)] : List Cell)).length) c_37) rfl) ?_
          refine JL.nil ?_
          refine JQ.seq ?_
          refine JC.ret ?_
          refine JQ.perm (pick_perm [1] (A := [Res.row (.slice a_36 ((o_ ++ ([(key, val)] : List Cell)).length) c_37) 48 2 ((o_ ++ ([(key, val)] : List Cell)).length) ((o_ ++ ([(key, val)] : List Cell)).flatMap encC)]) (F := [Res.row (.slice a_35 1 1) 48 2 1 (([(key, val)] : List Cell).flatMap encC)]) rfl).symm ?_
          refine Done.one (.inl rfl) rfl (RV.tmp (v := .slice a_36 ((o_ ++ ([(key, val)] : List Cell)).length) c_37) rfl) (List.sublist_append_left [Res.row (.slice a_36 ((o_ ++ ([(key, val)] : List Cell)).length) c_37) 48 2 ((o_ ++ ([(key, val)] : List Cell)).length) ((o_ ++ ([(key, val)] : List Cell)).flatMap encC)] [Res.row (.slice a_35 1 1) 48 2 1 (([(key, val)] : List Cell).flatMap encC)]) ?_
          rw [List.drop_of_length_le (by omega), putL] at hR
          simp only [hd, Bool.not_true, Bool.not_false, Bool.true_and, Bool.false_and, Bool.or_true, Bool.true_or, Bool.or_false, Bool.false_or, if_true, if_false, Bool.false_eq_true, List.nil_append, List.append_nil, List.append_assoc] at hR
          exact ⟨_, _, by rw [← hR] <;> rfl, by rw [← hR] <;> rfl⟩
  · skip
    refine JL.guardOff (b := true) rfl rfl rfl (congrArg Value.bool (congrArg Bool.not h_2)) ?_
    refine JL.guardOff (b := true) rfl rfl rfl (congrArg Value.bool (congrArg Bool.not h_2)) ?_
    refine JL.guardOff (b := true) rfl rfl rfl (congrArg Value.bool (congrArg Bool.not h_2)) ?_
    refine JL.pure rfl (PO.pickT (v := .bool true) (congrArg Value.bool (congrArg Bool.not h_2)) rfl) ?_
    refine JL.nil ?_
    refine JQ.seq ?_
    refine JC.condT (congrArg Value.bool rfl) ?_
    refine JC.seq ?_
    refine JC.region ?_
    refine JL.pure rfl (PO.move (v := .slice a_1 0 0) rfl) ?_
    refine JL.pure rfl (PO.move (v := .slice a s.length c) rfl) ?_
    refine JL.op rfl (JO.append' 0 (q := s.length) (news := s.flatMap encC) (n' := s.length) (cs' := s.flatMap encC) rfl Tryz.underlying49 Tryz.underlying49 Tryz.typeInfo48 rfl (by' := 32) rfl rfl rfl rfl rfl (fun w hw => Src.sees (hw.seeOut_ hs_a (fun _ _ => List.not_mem_nil)) (oneC _)) (by (try simp only [List.length_append, List.length_cons, List.length_nil, List.length_take, List.length_drop]); omega) (by (try simp only [List.length_append, List.length_cons, List.length_nil, List.length_take, List.length_drop]); omega) (by (try simp only [List.length_take, List.length_drop]); first | rfl | omega) rfl) ?_
    rintro _ _ ⟨a_38, c_39, rfl, rfl⟩
    refine JL.pure rfl (PO.assign (v := .slice a_38 s.length c_39) rfl) ?_
    refine JL.nil ?_
    refine JQ.seq ?_
    refine JC.ret ?_
    refine JQ.thenRet ?_
    refine Done.one (.inl rfl) rfl (RV.tmp (v := .slice a_38 s.length c_39) rfl) (List.Sublist.refl _) ?_
    have he := (putKey_bad1 h_2 : putKey s key val = _)
    exact ⟨_, _, by rw [he] <;> rfl, by rw [he] <;> rfl⟩



theorem C_figure (d : Nat) (hd : d < 10) :
    Ct Tryz.prog 133 [.int .i64 ((d : Nat) : Int)] [] (fun _ => True) (fun v A' => v = .int .u8 ((48 + d : Nat) : Int) ∧ A' = []) := by
  refine Ct.intro Tryz.func133 rfl Tryz.ntmps133 (Nat.le_of_ble_eq_true rfl) fun w0 hpre => ?_
  refine JC.seq ?_
  refine JC.region ?_
  refine JL.pure rfl (PO.assign (v := .int .u8 0) rfl) ?_
  refine JL.nil ?_
  refine JQ.seq ?_
  refine JC.seq ?_
  refine JC.seq ?_
  refine JC.region ?_
  refine JL.pure rfl (PO.move (v := .int .i64 ((d : Nat) : Int)) rfl) ?_
  refine JL.pure rfl (PO.lss rfl rfl) ?_
  refine JL.nil ?_
  refine JQ.seq ?_
  by_cases h_1 : ((d : Nat) : Int) < 10
  · skip
    refine JC.condT (congrArg Value.bool (decide_eq_true h_1)) ?_
    refine JC.seq ?_
    refine JC.region ?_
    refine JL.pure rfl (PO.move (v := .int .i64 ((d : Nat) : Int)) rfl) ?_
    refine JL.pure rfl (PO.add (c := ((48 + d : Nat) : Int)) rfl rfl (wr (by omega))) ?_
    refine JL.pure rfl (PO.convI (c := ((48 + d : Nat) : Int)) Tryz.underlying3 Tryz.underlying5 rfl (wr8 (by omega))) ?_
    refine JL.pure rfl (PO.assign (v := .int .u8 ((48 + d : Nat) : Int)) rfl) ?_
    refine JL.nil ?_
    refine JQ.seq ?_
    refine JC.ret ?_
    refine JQ.thenRet ?_
    refine Done.one (.inl rfl) rfl (RV.tmp (v := .int .u8 ((48 + d : Nat) : Int)) rfl) (List.nil_sublist _) ?_
    exact ⟨rfl, rfl⟩
  · skip
    exfalso; omega

theorem C_sDecN (k : Nat) (h1 : k ≤ 1000000000000000000) :
    Ct Tryz.prog 91 [.int .i64 ((k : Nat) : Int)] [] (fun _ => True) (fun v A' => v = str (dec ((k : Nat) : Int)) ∧ A' = []) := by
  refine Ct.intro Tryz.func91 rfl Tryz.ntmps91 (Nat.le_of_ble_eq_true rfl) fun w0 hpre => ?_
  refine JC.seq ?_
  refine JC.region ?_
  refine JL.pure rfl (PO.assign (v := str []) rfl) ?_
  refine JL.nil ?_
  refine JQ.seq ?_
  refine JC.seq ?_
  refine JC.seq ?_
  refine JC.region ?_
  refine JL.pure rfl (PO.move (v := .int .i64 ((k : Nat) : Int)) rfl) ?_
  refine JL.pure rfl (PO.eqlI rfl rfl) ?_
  refine JL.nil ?_
  refine JQ.seq ?_
  by_cases h_1 : ((k : Nat) : Int) = 0
  · skip
    refine JC.condT (congrArg Value.bool (decide_eq_true h_1)) ?_
    refine JC.seq ?_
    refine JC.region ?_
    refine JL.pure rfl (PO.assign (v := str [48]) rfl) ?_
    refine JL.nil ?_
    refine JQ.seq ?_
    refine JC.ret ?_
    refine JQ.thenRet ?_
    refine Done.one (.inl rfl) rfl (RV.tmp (v := str [48]) rfl) (List.nil_sublist _) ?_
    refine ⟨?_, rfl⟩
    rw [show ((k : Nat) : Int) = 0 by omega, dec_zero]
  · skip
    refine JC.condF (congrArg Value.bool (decide_eq_false h_1)) ?_
    refine JC.skip ?_
    refine JQ.seq ?_
    refine JC.seq ?_
    refine JC.region ?_
    refine JL.pure rfl (PO.move (v := .int .i64 ((k : Nat) : Int)) rfl) ?_
    refine JL.pure rfl (PO.lss rfl rfl) ?_
    refine JL.pure rfl (PO.assign (v := .bool (decide (((k : Nat) : Int) < 0))) rfl) ?_
    refine JL.nil ?_
    refine JQ.seq ?_
    refine JC.seq ?_
    refine JC.region ?_
    refine JL.pure rfl (PO.assign (v := str []) rfl) ?_
    refine JL.nil ?_
    refine JQ.seq ?_
    refine JC.seq ?_
    refine JC.block ?_
    refine JC.loop (fun k_ e_ L_ => ∃ k1 : Nat, ∃ o_ : Str, (k1 ≤ k) ∧ (o_.length + k1 ≤ k) ∧ (mtAcc k1 o_ = mtAcc k []) ∧ e_ 0 = .int .i64 ((k1 : Nat) : Int) ∧ e_ 2 = str [] ∧ e_ 3 = .bool (decide (((k : Nat) : Int) < 0)) ∧ e_ 4 = str o_ ∧ L_ = [] ∧ k_ = k1 + 1) _ ⟨k, [], by omega, (by simp), rfl, rfl, rfl, rfl, rfl, rfl, rfl⟩ ?_
    rintro _ e_2 _ ⟨k1, o_, hk, hl, hR, he_3, he_4, he_5, he_6, rfl, rfl⟩
    refine JC.seq ?_
    refine JC.seq ?_
    refine JC.region ?_
    refine JL.pure rfl (PO.move (v := .int .i64 ((k1 : Nat) : Int)) he_3) ?_
    refine JL.pure rfl (PO.neqI rfl rfl) ?_
    refine JL.nil ?_
    refine JQ.seq ?_
    by_cases h_7 : ((k1 : Nat) : Int) = 0
    · skip
      refine JC.condF (congrArg Value.bool (congrArg Bool.not (decide_eq_true h_7))) ?_
      refine JC.exit ?_
      refine JQ.thenExit ?_
      refine JQ.thenExit ?_
      refine JQ.blockE ?_
      refine JQ.seq ?_
      refine JC.seq ?_
      refine JC.seq ?_
      refine JC.region ?_
      refine JL.pure rfl (PO.move (v := .bool (decide (((k : Nat) : Int) < 0))) he_5) ?_
      refine JL.nil ?_
      refine JQ.seq ?_
      by_cases h_8 : ((k : Nat) : Int) < 0
      · skip
        exfalso; omega
      · skip
        refine JC.condF (congrArg Value.bool (decide_eq_false h_8)) ?_
        refine JC.skip ?_
        refine JQ.seq ?_
        refine JC.seq ?_
        refine JC.region ?_
        refine JL.pure rfl (PO.move (v := str o_) he_6) ?_
        refine JL.pure rfl (PO.assign (v := str o_) rfl) ?_
        refine JL.nil ?_
        refine JQ.seq ?_
        refine JC.ret ?_
        refine Done.one (.inl rfl) rfl (RV.tmp (v := str o_) rfl) (List.nil_sublist _) ?_
        refine ⟨?_, rfl⟩
        rw [dec_nat (by omega), ← hR, mtAcc_zero (by omega)]
    · skip
      refine JC.condT (congrArg Value.bool (congrArg Bool.not (decide_eq_false h_7))) ?_
      refine JC.skip ?_
      refine JQ.seq ?_
      refine JC.block ?_
      refine JC.seq ?_
      refine JC.region ?_
      refine JL.pure rfl (PO.move (v := .int .i64 ((k1 : Nat) : Int)) he_3) ?_
      refine JL.pure rfl (PO.remN (c := ((k1 % 10 : Nat) : Int)) rfl rfl (by omega) (by omega) (by omega)) ?_
      refine JL.pure rfl (PO.assign (v := .int .i64 ((k1 % 10 : Nat) : Int)) rfl) ?_
      refine JL.nil ?_
      refine JQ.seq ?_
      refine JC.seq ?_
      refine JC.seq ?_
      refine JC.region ?_
      refine JL.pure rfl (PO.move (v := .int .i64 ((k1 % 10 : Nat) : Int)) rfl) ?_
      refine JL.pure rfl (PO.lss rfl rfl) ?_
      refine JL.nil ?_
      refine JQ.seq ?_
      by_cases h_9 : ((k1 % 10 : Nat) : Int) < 0
      · skip
        exfalso; omega
      · skip
        refine JC.condF (congrArg Value.bool (decide_eq_false h_9)) ?_
        refine JC.skip ?_
        refine JQ.seq ?_
        refine JC.seq ?_
        refine JC.region ?_
        refine JL.pure rfl (PO.move (v := .int .i64 ((k1 % 10 : Nat) : Int)) rfl) ?_
        refine JL.op rfl (JO.call [] Tryz.call133 rfl (C_figure (k1 % 10) (by omega)) rfl (fun _ _ => trivial)) ?_
        rintro _ _ ⟨_, ⟨rfl, rfl⟩, rfl⟩
        refine JL.op rfl (JO.buildSlice (ps := [(0, .int .u8 ((48 + (k1 % 10) : Nat) : Int))]) (cur := #[.int .u8 ((48 + (k1 % 10) : Nat) : Int)]) Tryz.underlying39 Tryz.sizeOf5 Tryz.zeroValue5 rfl (by kernel_rfl) (by decide) (by decide)) ?_
        rintro _ _ ⟨a_10, rfl, rfl⟩
        refine JL.ld rfl (LO.toStr 0 [UInt8.ofNat (48 + (k1 % 10))] rfl Tryz.underlying39 Tryz.underlying5 Tryz.underlying9 rfl (by rw [List.map_cons, List.map_nil, encB_of _ (by omega)])) ?_
        refine JL.pure rfl (PO.move (v := str o_) he_6) ?_
        refine JL.pure rfl (PO.addS rfl rfl (by (try simp only [List.length_append, List.length_cons, List.length_nil, List.length_drop, List.length_take]); omega)) ?_
        refine JL.pure rfl (PO.assign (v := str ([UInt8.ofNat (48 + (k1 % 10))] ++ o_)) rfl) ?_
        refine JL.nil ?_
        refine JQ.seq ?_
        refine JC.region ?_
        refine JL.pure rfl (PO.move (v := .int .i64 ((k1 : Nat) : Int)) he_3) ?_
        refine JL.pure rfl (PO.quoN (c := ((k1 / 10 : Nat) : Int)) rfl rfl (by omega) (by omega) (by omega) (wr (by omega))) ?_
        refine JL.pure rfl (PO.assign (v := .int .i64 ((k1 / 10 : Nat) : Int)) rfl) ?_
        refine JL.nil ?_
        refine JQ.blockN ?_
        refine JQ.pick [] (A := []) rfl ?_
        refine JQ.again (k1 / 10 + 1) (by omega) ⟨(k1 / 10), [UInt8.ofNat (48 + (k1 % 10))] ++ o_, by omega, (by simp only [List.length_append, List.length_cons, List.length_nil]; omega), (by rw [mtAcc_step (by omega)]; exact hR), rfl, he_4, he_5, rfl, rfl, rfl⟩

theorem C_sDec (n : Int) (h0 : 0 ≤ n) (h1 : n ≤ 1000000000000000000) : Ct Tryz.prog 91 [.int .i64 n] [] (fun _ => True) (fun v A' => v = str (dec n) ∧ A' = []) := by
  have := C_sDecN n.toNat (by omega)
  rw [Int.toNat_of_nonneg h0] at this
  exact this

end Go.Proofs.YtjncpgcccgdeiaaGreatDoor

set_option linter.unusedSimpArgs false
set_option linter.unusedVariables false
set_option linter.unnecessarySimpa false
namespace Go.Proofs.YtjncpgcccgdeiaaGreatDoor
open Go Go.RowKit
attribute [local irreducible] JL JC JQ JO LO PO JA JX Ct

theorem C_sReadDec (t : Str) (ht : t.length ≤ 281474976710656) :
    Ct Tryz.prog 106 [str t] [] (fun _ => True) (fun v A' => v = .tuple #[.int .i64 (readDec t).1, .bool (readDec t).2] ∧ A' = []) := by
  refine Ct.intro Tryz.func106 rfl Tryz.ntmps106 (Nat.le_of_ble_eq_true rfl) fun w0 hpre => ?_
  refine JC.seq ?_
  refine JC.region ?_
  refine JL.pure rfl (PO.assign (v := .int .i64 0) rfl) ?_
  refine JL.pure rfl (PO.assign (v := .bool false) rfl) ?_
  refine JL.nil ?_
  refine JQ.seq ?_
  refine JC.seq ?_
  refine JC.seq ?_
  refine JC.region ?_
  refine JL.pure rfl (PO.move (v := str t) rfl) ?_
  refine JL.pure rfl (PO.lenS Tryz.underlying9 rfl) ?_
  refine JL.pure rfl (PO.gtr rfl rfl) ?_
  refine JL.nil ?_
  refine JQ.seq ?_
  by_cases h_1 : 10 < (t.length : Int)
  · skip
    refine JC.condT (congrArg Value.bool (decide_eq_true h_1)) ?_
    refine JC.seq ?_
    refine JC.region ?_
    refine JL.pure rfl (PO.assign (v := .int .i64 0) rfl) ?_
    refine JL.pure rfl (PO.assign (v := .bool false) rfl) ?_
    refine JL.nil ?_
    refine JQ.seq ?_
    refine JC.ret ?_
    refine JQ.thenRet ?_
    refine Done.two (.inl rfl) rfl (RV.tmp (v := .int .i64 0) rfl) (RV.tmp (v := .bool false) rfl) (List.nil_sublist _) ?_
    refine ⟨?_, rfl⟩
    rw [readDec_long (by omega)]
  · skip
    refine JC.condF (congrArg Value.bool (decide_eq_false h_1)) ?_
    refine JC.skip ?_
    refine JQ.seq ?_
    refine JC.seq ?_
    refine JC.region ?_
    refine JL.pure rfl (PO.assign (v := .int .i64 0) rfl) ?_
    refine JL.nil ?_
    refine JQ.seq ?_
    refine JC.seq ?_
    refine JC.seq ?_
    refine JC.region ?_
    refine JL.pure rfl (PO.assign (v := .int .i64 0) rfl) ?_
    refine JL.nil ?_
    refine JQ.seq ?_
    refine JC.block ?_
    refine JC.loop (fun k_ e_ L_ => ∃ j : Nat, ∃ n1 : Int, (j ≤ t.length) ∧ (0 ≤ n1) ∧ (n1 < ((10 ^ j : Nat) : Int)) ∧ (figs n1 (t.drop j) = figs 0 t) ∧ e_ 0 = str t ∧ e_ 4 = .int .i64 n1 ∧ e_ 5 = .int .i64 ((j : Nat) : Int) ∧ L_ = [] ∧ k_ = t.length - j) _ ⟨0, 0, by omega, by omega, (by decide), rfl, rfl, rfl, rfl, rfl, rfl⟩ ?_
    rintro _ e_2 _ ⟨j, n1, hj, h0, hb, hR, he_3, he_4, he_5, rfl, rfl⟩
    refine JC.seq ?_
    refine JC.seq ?_
    refine JC.region ?_
    refine JL.pure rfl (PO.move (v := .int .i64 ((j : Nat) : Int)) he_5) ?_
    refine JL.pure rfl (PO.move (v := str t) he_3) ?_
    refine JL.pure rfl (PO.lenS Tryz.underlying9 rfl) ?_
    refine JL.pure rfl (PO.lss rfl rfl) ?_
    refine JL.nil ?_
    refine JQ.seq ?_
    by_cases h_6 : ((j : Nat) : Int) < (t.length : Int)
    · skip
      have hlt : j < t.length := by omega
      have hpj : 10 ^ j ≤ 1000000000 := Nat.le_trans (Nat.pow_le_pow_right (by omega) (show j ≤ 9 by omega)) (by decide)
      refine JC.condT (congrArg Value.bool (decide_eq_true h_6)) ?_
      refine JC.skip ?_
      refine JQ.seq ?_
      refine JC.seq ?_
      refine JC.block ?_
      refine JC.seq ?_
      refine JC.seq ?_
      refine JC.region ?_
      refine JL.pure rfl (PO.move (v := str t) he_3) ?_
      refine JL.pure rfl (PO.move (v := .int .i64 ((j : Nat) : Int)) he_5) ?_
      refine JL.pure rfl (PO.indexS (i := j) (c := t.getD j 0) Tryz.underlying9 rfl rfl (getD_some (by omega))) ?_
      have hu_7 := UInt8.toNat_lt (t.getD j 0)
      refine JL.pure rfl (PO.lss rfl rfl) ?_
      refine JL.pure rfl (PO.move (v := .bool (decide (((t.getD j 0).toNat : Int) < 48))) rfl) ?_
      by_cases h_8 : ((t.getD j 0).toNat : Int) < 48
      · skip
        refine JL.guardOff (b := true) rfl rfl rfl (congrArg Value.bool (decide_eq_true h_8)) ?_
        refine JL.guardOff (b := true) rfl rfl rfl (congrArg Value.bool (decide_eq_true h_8)) ?_
        refine JL.guardOff (b := true) rfl rfl rfl (congrArg Value.bool (decide_eq_true h_8)) ?_
        refine JL.guardOff (b := true) rfl rfl rfl (congrArg Value.bool (decide_eq_true h_8)) ?_
        refine JL.pure rfl (PO.pickT (v := .bool true) (congrArg Value.bool (decide_eq_true h_8)) rfl) ?_
        refine JL.nil ?_
        refine JQ.seq ?_
        refine JC.condT (congrArg Value.bool rfl) ?_
        refine JC.seq ?_
        refine JC.region ?_
        refine JL.pure rfl (PO.assign (v := .int .i64 0) rfl) ?_
        refine JL.pure rfl (PO.assign (v := .bool false) rfl) ?_
        refine JL.nil ?_
        refine JQ.seq ?_
        refine JC.ret ?_
        refine JQ.thenRet ?_
        refine JQ.blockRet ?_
        refine JQ.thenRet ?_
        refine JQ.thenRet ?_
        refine JQ.blockRet ?_
        refine JQ.thenRet ?_
        refine Done.two (.inl rfl) rfl (RV.tmp (v := .int .i64 0) rfl) (RV.tmp (v := .bool false) rfl) (List.nil_sublist _) ?_
        refine ⟨?_, rfl⟩
        rw [figs_step hlt, if_neg (by omega)] at hR
        rw [readDec_figs (by omega), ← hR]
      · skip
        refine JL.guardOn rfl rfl rfl (congrArg Value.bool (decide_eq_false h_8)) (JO.ofLO (LO.pure (PO.move (v := str t) he_3))) ?_
        rintro _ _ ⟨rfl, rfl⟩
        refine JL.guardOn rfl rfl rfl (congrArg Value.bool (decide_eq_false h_8)) (JO.ofLO (LO.pure (PO.move (v := .int .i64 ((j : Nat) : Int)) he_5))) ?_
        rintro _ _ ⟨rfl, rfl⟩
        refine JL.guardOn rfl rfl rfl (congrArg Value.bool (decide_eq_false h_8)) (JO.ofLO (LO.pure (PO.indexS (i := j) (c := t.getD j 0) Tryz.underlying9 rfl rfl (getD_some (by omega))))) ?_
        rintro _ _ ⟨rfl, rfl⟩
        have hu_9 := UInt8.toNat_lt (t.getD j 0)
        refine JL.guardOn rfl rfl rfl (congrArg Value.bool (decide_eq_false h_8)) (JO.ofLO (LO.pure (PO.gtr rfl rfl))) ?_
        rintro _ _ ⟨rfl, rfl⟩
        refine JL.pure rfl (PO.pickF (v := .bool (decide (57 < ((t.getD j 0).toNat : Int)))) (congrArg Value.bool (decide_eq_false h_8)) rfl) ?_
        refine JL.nil ?_
        refine JQ.seq ?_
        by_cases h_10 : 57 < ((t.getD j 0).toNat : Int)
        · skip
          refine JC.condT (congrArg Value.bool (decide_eq_true h_10)) ?_
          refine JC.seq ?_
          refine JC.region ?_
          refine JL.pure rfl (PO.assign (v := .int .i64 0) rfl) ?_
          refine JL.pure rfl (PO.assign (v := .bool false) rfl) ?_
          refine JL.nil ?_
          refine JQ.seq ?_
          refine JC.ret ?_
          refine JQ.thenRet ?_
          refine JQ.blockRet ?_
          refine JQ.thenRet ?_
          refine JQ.thenRet ?_
          refine JQ.blockRet ?_
          refine JQ.thenRet ?_
          refine Done.two (.inl rfl) rfl (RV.tmp (v := .int .i64 0) rfl) (RV.tmp (v := .bool false) rfl) (List.nil_sublist _) ?_
          refine ⟨?_, rfl⟩
          rw [figs_step hlt, if_neg (by omega)] at hR
          rw [readDec_figs (by omega), ← hR]
        · skip
          refine JC.condF (congrArg Value.bool (decide_eq_false h_10)) ?_
          refine JC.skip ?_
          refine JQ.seq ?_
          refine JC.region ?_
          refine JL.pure rfl (PO.move (v := .int .i64 n1) he_4) ?_
          refine JL.pure rfl (PO.mul (c := 10 * n1) rfl rfl (wr (by omega))) ?_
          refine JL.pure rfl (PO.move (v := str t) he_3) ?_
          refine JL.pure rfl (PO.move (v := .int .i64 ((j : Nat) : Int)) he_5) ?_
          refine JL.pure rfl (PO.indexS (i := j) (c := t.getD j 0) Tryz.underlying9 rfl rfl (getD_some (by omega))) ?_
          have hu_11 := UInt8.toNat_lt (t.getD j 0)
          refine JL.pure rfl (PO.convI (c := ((t.getD j 0).toNat : Int)) Tryz.underlying5 Tryz.underlying3 rfl (wr (by omega))) ?_
          refine JL.pure rfl (PO.add (c := (10 * n1) + ((t.getD j 0).toNat : Int)) rfl rfl (wr (by omega))) ?_
          refine JL.pure rfl (PO.sub (c := ((10 * n1) + ((t.getD j 0).toNat : Int)) - 48) rfl rfl (wr (by omega))) ?_
          refine JL.pure rfl (PO.assign (v := .int .i64 (((10 * n1) + ((t.getD j 0).toNat : Int)) - 48)) rfl) ?_
          refine JL.nil ?_
          refine JQ.blockN ?_
          refine JQ.seq ?_
          refine JC.region ?_
          refine JL.pure rfl (PO.move (v := .int .i64 ((j : Nat) : Int)) he_5) ?_
          refine JL.pure rfl (PO.add (c := ((j + 1 : Nat) : Int)) rfl rfl (wr (by omega))) ?_
          refine JL.pure rfl (PO.assign (v := .int .i64 ((j + 1 : Nat) : Int)) rfl) ?_
          refine JL.nil ?_
          refine JQ.again (t.length - (j + 1)) (by omega) ⟨j + 1, ((10 * n1) + ((t.getD j 0).toNat : Int)) - 48, by omega, by omega, (by rw [Nat.pow_succ]; omega), (by rw [figs_step hlt, if_pos (by omega)] at hR; exact hR), he_3, rfl, rfl, rfl, rfl⟩
    · skip
      have hpj : 10 ^ j ≤ 10000000000 := Nat.le_trans (Nat.pow_le_pow_right (by omega) (show j ≤ 10 by omega)) (by decide)
      rw [List.drop_of_length_le (by omega), figs] at hR
      refine JC.condF (congrArg Value.bool (decide_eq_false h_6)) ?_
      refine JC.exit ?_
      refine JQ.thenExit ?_
      refine JQ.thenExit ?_
      refine JQ.blockE ?_
      refine JQ.seq ?_
      refine JC.seq ?_
      refine JC.seq ?_
      refine JC.region ?_
      refine JL.pure rfl (PO.move (v := .int .i64 n1) he_4) ?_
      refine JL.pure rfl (PO.gtr rfl rfl) ?_
      refine JL.pure rfl (PO.move (v := .bool (decide (1000000000 < n1))) rfl) ?_
      by_cases h_12 : 1000000000 < n1
      · skip
        refine JL.guardOff (b := true) rfl rfl rfl (congrArg Value.bool (decide_eq_true h_12)) ?_
        refine JL.guardOff (b := true) rfl rfl rfl (congrArg Value.bool (decide_eq_true h_12)) ?_
        refine JL.guardOff (b := true) rfl rfl rfl (congrArg Value.bool (decide_eq_true h_12)) ?_
        refine JL.guardOff (b := true) rfl rfl rfl (congrArg Value.bool (decide_eq_true h_12)) ?_
        refine JL.pure rfl (PO.pickT (v := .bool true) (congrArg Value.bool (decide_eq_true h_12)) rfl) ?_
        refine JL.nil ?_
        refine JQ.seq ?_
        refine JC.condT (congrArg Value.bool rfl) ?_
        refine JC.seq ?_
        refine JC.region ?_
        refine JL.pure rfl (PO.assign (v := .int .i64 0) rfl) ?_
        refine JL.pure rfl (PO.assign (v := .bool false) rfl) ?_
        refine JL.nil ?_
        refine JQ.seq ?_
        refine JC.ret ?_
        refine JQ.thenRet ?_
        refine Done.two (.inl rfl) rfl (RV.tmp (v := .int .i64 0) rfl) (RV.tmp (v := .bool false) rfl) (List.nil_sublist _) ?_
        refine ⟨?_, rfl⟩
        rw [readDec_figs (by omega), ← hR]
        simp only
        rw [if_neg (fun h => by simp_all <;> omega)]
      · skip
        refine JL.guardOn rfl rfl rfl (congrArg Value.bool (decide_eq_false h_12)) (JO.ofLO (LO.pure (PO.move (v := .int .i64 n1) he_4))) ?_
        rintro _ _ ⟨rfl, rfl⟩
        refine JL.guardOn rfl rfl rfl (congrArg Value.bool (decide_eq_false h_12)) (JO.call [] Tryz.call91 rfl (C_sDec n1 (by omega) (by omega)) rfl (fun _ _ => trivial)) ?_
        rintro _ _ ⟨_, ⟨rfl, rfl⟩, rfl⟩
        refine JL.guardOn rfl rfl rfl (congrArg Value.bool (decide_eq_false h_12)) (JO.ofLO (LO.pure (PO.move (v := str t) he_3))) ?_
        rintro _ _ ⟨rfl, rfl⟩
        refine JL.guardOn rfl rfl rfl (congrArg Value.bool (decide_eq_false h_12)) (JO.ofLO (LO.pure (PO.neqS rfl rfl))) ?_
        rintro _ _ ⟨rfl, rfl⟩
        refine JL.pure rfl (PO.pickF (v := .bool (!(decide ((dec n1) = t)))) (congrArg Value.bool (decide_eq_false h_12)) rfl) ?_
        refine JL.nil ?_
        refine JQ.seq ?_
        by_cases h_13 : (dec n1) = t
        · skip
          refine JC.condF (congrArg Value.bool (congrArg Bool.not (decide_eq_true h_13))) ?_
          refine JC.skip ?_
          refine JQ.seq ?_
          refine JC.seq ?_
          refine JC.region ?_
          refine JL.pure rfl (PO.move (v := .int .i64 n1) he_4) ?_
          refine JL.pure rfl (PO.assign (v := .int .i64 n1) rfl) ?_
          refine JL.pure rfl (PO.assign (v := .bool true) rfl) ?_
          refine JL.nil ?_
          refine JQ.seq ?_
          refine JC.ret ?_
          refine Done.two (.inl rfl) rfl (RV.tmp (v := .int .i64 n1) rfl) (RV.tmp (v := .bool true) rfl) (List.nil_sublist _) ?_
          refine ⟨?_, rfl⟩
          rw [readDec_figs (by omega), ← hR]
          simp only
          rw [if_pos (by refine ⟨?_, ?_⟩ <;> first | omega | simp_all)]
        · skip
          refine JC.condT (congrArg Value.bool (congrArg Bool.not (decide_eq_false h_13))) ?_
          refine JC.seq ?_
          refine JC.region ?_
          refine JL.pure rfl (PO.assign (v := .int .i64 0) rfl) ?_
          refine JL.pure rfl (PO.assign (v := .bool false) rfl) ?_
          refine JL.nil ?_
          refine JQ.seq ?_
          refine JC.ret ?_
          refine JQ.thenRet ?_
          refine Done.two (.inl rfl) rfl (RV.tmp (v := .int .i64 0) rfl) (RV.tmp (v := .bool false) rfl) (List.nil_sublist _) ?_
          refine ⟨?_, rfl⟩
          rw [readDec_figs (by omega), ← hR]
          simp only
          rw [if_neg (fun h => by simp_all <;> omega)]







end Go.Proofs.YtjncpgcccgdeiaaGreatDoor

set_option linter.unusedSimpArgs false
set_option linter.unusedVariables false
set_option linter.unnecessarySimpa false
namespace Go.Proofs.YtjncpgcccgdeiaaGreatDoor
open Go Go.RowKit

theorem Ct.introL {P : Program} {n : Nat} {f : FuncId} {fn : Func} {c : Code} {args : List Value} {A : List Res} {Pre : World → Prop} {Post : Value → List Res → Prop}
    (hf : P.funcs[f]? = some fn) (hb : fn.body = some c) (hn : fn.ntmps = n) (hle : args.length ≤ n)
    (h : ∀ w0, Pre w0 → (∀ i ∈ idsOf A, GB ≤ i) → JC P (bodyPost P fn (Done w0 (idsOf A) Post)) n w0 (idsOf A) A c (argEnv args)) : Ct P f args A Pre Post := fun w hA hpre => by
  refine calls_of_wp hf hb ?_
  rw [hn, act_args n args hle]
  exact h w hpre hA.low w (St.start hA)
theorem St.hex {w0 w : World} {D : List Nat} {L : List Res} (hw : St w0 D L w) (hlow : ∀ i ∈ D, GB ≤ i) (h : HexOk w0) : HexOk w :=
  h.keep (hw.keep _ h.lt fun hD => by have := hlow _ hD; have := hexLow; omega)

end Go.Proofs.YtjncpgcccgdeiaaGreatDoor

set_option linter.unusedSimpArgs false
set_option linter.unusedVariables false
set_option linter.unnecessarySimpa false
namespace Go.Proofs.YtjncpgcccgdeiaaGreatDoor
open Go Go.RowKit
attribute [local irreducible] JL JC JQ JO LO PO JA JX Ct

theorem N_figure (k : Nat) (h : k < 16) :
    Ct Tryz.prog 133 [.int .i64 ((k : Nat) : Int)] [] (fun _ => True) (fun v A' => v = .int .u8 (((hexFig k).toNat : Nat) : Int) ∧ A' = []) := by
  refine Ct.intro Tryz.func133 rfl Tryz.ntmps133 (Nat.le_of_ble_eq_true rfl) fun w0 hpre => ?_
  refine JC.seq ?_
  refine JC.region ?_
  refine JL.pure rfl (PO.assign (v := .int .u8 0) rfl) ?_
  refine JL.nil ?_
  refine JQ.seq ?_
  refine JC.seq ?_
  refine JC.seq ?_
  refine JC.region ?_
  refine JL.pure rfl (PO.move (v := .int .i64 ((k : Nat) : Int)) rfl) ?_
  refine JL.pure rfl (PO.lss rfl rfl) ?_
  refine JL.nil ?_
  refine JQ.seq ?_
  by_cases h_1 : ((k : Nat) : Int) < 10
  · skip
    refine JC.condT (congrArg Value.bool (decide_eq_true h_1)) ?_
    refine JC.seq ?_
    refine JC.region ?_
    refine JL.pure rfl (PO.move (v := .int .i64 ((k : Nat) : Int)) rfl) ?_
    refine JL.pure rfl (PO.add (c := ((48 + k : Nat) : Int)) rfl rfl (wr (by omega))) ?_
    refine JL.pure rfl (PO.convI (c := (((UInt8.ofNat (48 + k)).toNat : Nat) : Int)) Tryz.underlying3 Tryz.underlying5 rfl (wr8u (c := UInt8.ofNat (48 + k)) (by omega) (by rw [Int.toNat_natCast]))) ?_
    refine JL.pure rfl (PO.assign (v := .int .u8 (((UInt8.ofNat (48 + k)).toNat : Nat) : Int)) rfl) ?_
    refine JL.nil ?_
    refine JQ.seq ?_
    refine JC.ret ?_
    refine JQ.thenRet ?_
    refine Done.one (.inl rfl) rfl (RV.tmp (v := .int .u8 (((UInt8.ofNat (48 + k)).toNat : Nat) : Int)) rfl) (List.nil_sublist _) ?_
    refine ⟨?_, rfl⟩
    exact congrArg (fun q : Nat => Value.int .u8 (q : Int)) (by first | (rw [hexFig_lo (by omega), UInt8.toNat_ofNat_of_lt' (by show _ < 256; omega)]) | (rw [hexFig_hi (by omega) (by omega), UInt8.toNat_ofNat_of_lt' (by show _ < 256; omega)]; omega))
  · skip
    refine JC.condF (congrArg Value.bool (decide_eq_false h_1)) ?_
    refine JC.skip ?_
    refine JQ.seq ?_
    refine JC.seq ?_
    refine JC.region ?_
    refine JL.pure rfl (PO.move (v := .int .i64 ((k : Nat) : Int)) rfl) ?_
    refine JL.pure rfl (PO.add (c := ((97 + k : Nat) : Int)) rfl rfl (wr (by omega))) ?_
    refine JL.pure rfl (PO.sub (c := ((97 + k : Nat) : Int) - 10) rfl rfl (wr (by omega))) ?_
    refine JL.pure rfl (PO.convI (c := (((UInt8.ofNat (((97 + k : Nat) : Int) - 10).toNat).toNat : Nat) : Int)) Tryz.underlying3 Tryz.underlying5 rfl (wr8u (by omega) rfl)) ?_
    refine JL.pure rfl (PO.assign (v := .int .u8 (((UInt8.ofNat (((97 + k : Nat) : Int) - 10).toNat).toNat : Nat) : Int)) rfl) ?_
    refine JL.nil ?_
    refine JQ.seq ?_
    refine JC.ret ?_
    refine Done.one (.inl rfl) rfl (RV.tmp (v := .int .u8 (((UInt8.ofNat (((97 + k : Nat) : Int) - 10).toNat).toNat : Nat) : Int)) rfl) (List.nil_sublist _) ?_
    refine ⟨?_, rfl⟩
    exact congrArg (fun q : Nat => Value.int .u8 (q : Int)) (by first | (rw [hexFig_lo (by omega), UInt8.toNat_ofNat_of_lt' (by show _ < 256; omega)]) | (rw [hexFig_hi (by omega) (by omega), UInt8.toNat_ofNat_of_lt' (by show _ < 256; omega)]; omega))

theorem N_value (c : UInt8) :
    Ct Tryz.prog 140 [.int .u8 ((c.toNat : Nat) : Int)] [] (fun _ => True) (fun v A' => ∃ r0, hexV c = r0 ∧ (-1 ≤ r0 ∧ r0 ≤ 15) ∧ v = .int .i64 r0 ∧ A' = []) := by
  have hc8 := UInt8.toNat_lt c
  refine Ct.intro Tryz.func140 rfl Tryz.ntmps140 (Nat.le_of_ble_eq_true rfl) fun w0 hpre => ?_
  refine JC.seq ?_
  refine JC.region ?_
  refine JL.pure rfl (PO.assign (v := .int .i64 0) rfl) ?_
  refine JL.nil ?_
  refine JQ.seq ?_
  refine JC.seq ?_
  refine JC.seq ?_
  refine JC.region ?_
  refine JL.pure rfl (PO.move (v := .int .u8 ((c.toNat : Nat) : Int)) rfl) ?_
  refine JL.pure rfl (PO.geq rfl rfl) ?_
  refine JL.pure rfl (PO.move (v := .bool (decide (48 ≤ ((c.toNat : Nat) : Int)))) rfl) ?_
  by_cases h_1 : 48 ≤ ((c.toNat : Nat) : Int)
  · skip
    refine JL.guardOn rfl rfl rfl (congrArg Value.bool (decide_eq_true h_1)) (JO.ofLO (LO.pure (PO.move (v := .int .u8 ((c.toNat : Nat) : Int)) rfl))) ?_
    rintro _ _ ⟨rfl, rfl⟩
    refine JL.guardOn rfl rfl rfl (congrArg Value.bool (decide_eq_true h_1)) (JO.ofLO (LO.pure (PO.leq rfl rfl))) ?_
    rintro _ _ ⟨rfl, rfl⟩
    refine JL.pure rfl (PO.pickT (v := .bool (decide (((c.toNat : Nat) : Int) ≤ 57))) (congrArg Value.bool (decide_eq_true h_1)) rfl) ?_
    refine JL.nil ?_
    refine JQ.seq ?_
    by_cases h_2 : ((c.toNat : Nat) : Int) ≤ 57
    · skip
      refine JC.condT (congrArg Value.bool (decide_eq_true h_2)) ?_
      refine JC.seq ?_
      refine JC.region ?_
      refine JL.pure rfl (PO.move (v := .int .u8 ((c.toNat : Nat) : Int)) rfl) ?_
      refine JL.pure rfl (PO.convI (c := ((c.toNat : Nat) : Int)) Tryz.underlying5 Tryz.underlying3 rfl (wr (by omega))) ?_
      refine JL.pure rfl (PO.sub (c := ((c.toNat : Nat) : Int) - 48) rfl rfl (wr (by omega))) ?_
      refine JL.pure rfl (PO.assign (v := .int .i64 (((c.toNat : Nat) : Int) - 48)) rfl) ?_
      refine JL.nil ?_
      refine JQ.seq ?_
      refine JC.ret ?_
      refine JQ.thenRet ?_
      refine Done.one (.inl rfl) rfl (RV.tmp (v := .int .i64 (((c.toNat : Nat) : Int) - 48)) rfl) (List.nil_sublist _) ?_
      refine ⟨_, ?_, ?_, rfl, rfl⟩
      · first | exact hexV_a (by omega) (by omega) | exact hexV_b (by omega) (by omega) | exact hexV_c (by omega) (by omega)
      · omega
    · skip
      refine JC.condF (congrArg Value.bool (decide_eq_false h_2)) ?_
      refine JC.skip ?_
      refine JQ.seq ?_
      refine JC.seq ?_
      refine JC.seq ?_
      refine JC.region ?_
      refine JL.pure rfl (PO.move (v := .int .u8 ((c.toNat : Nat) : Int)) rfl) ?_
      refine JL.pure rfl (PO.geq rfl rfl) ?_
      refine JL.pure rfl (PO.move (v := .bool (decide (97 ≤ ((c.toNat : Nat) : Int)))) rfl) ?_
      by_cases h_3 : 97 ≤ ((c.toNat : Nat) : Int)
      · skip
        refine JL.guardOn rfl rfl rfl (congrArg Value.bool (decide_eq_true h_3)) (JO.ofLO (LO.pure (PO.move (v := .int .u8 ((c.toNat : Nat) : Int)) rfl))) ?_
        rintro _ _ ⟨rfl, rfl⟩
        refine JL.guardOn rfl rfl rfl (congrArg Value.bool (decide_eq_true h_3)) (JO.ofLO (LO.pure (PO.leq rfl rfl))) ?_
        rintro _ _ ⟨rfl, rfl⟩
        refine JL.pure rfl (PO.pickT (v := .bool (decide (((c.toNat : Nat) : Int) ≤ 102))) (congrArg Value.bool (decide_eq_true h_3)) rfl) ?_
        refine JL.nil ?_
        refine JQ.seq ?_
        by_cases h_4 : ((c.toNat : Nat) : Int) ≤ 102
        · skip
          refine JC.condT (congrArg Value.bool (decide_eq_true h_4)) ?_
          refine JC.seq ?_
          refine JC.region ?_
          refine JL.pure rfl (PO.move (v := .int .u8 ((c.toNat : Nat) : Int)) rfl) ?_
          refine JL.pure rfl (PO.convI (c := ((c.toNat : Nat) : Int)) Tryz.underlying5 Tryz.underlying3 rfl (wr (by omega))) ?_
          refine JL.pure rfl (PO.sub (c := ((c.toNat : Nat) : Int) - 97) rfl rfl (wr (by omega))) ?_
          refine JL.pure rfl (PO.add (c := (((c.toNat : Nat) : Int) - 97) + 10) rfl rfl (wr (by omega))) ?_
          refine JL.pure rfl (PO.assign (v := .int .i64 ((((c.toNat : Nat) : Int) - 97) + 10)) rfl) ?_
          refine JL.nil ?_
          refine JQ.seq ?_
          refine JC.ret ?_
          refine JQ.thenRet ?_
          refine Done.one (.inl rfl) rfl (RV.tmp (v := .int .i64 ((((c.toNat : Nat) : Int) - 97) + 10)) rfl) (List.nil_sublist _) ?_
          refine ⟨_, ?_, ?_, rfl, rfl⟩
          · first | exact hexV_a (by omega) (by omega) | exact hexV_b (by omega) (by omega) | exact hexV_c (by omega) (by omega)
          · omega
        · skip
          refine JC.condF (congrArg Value.bool (decide_eq_false h_4)) ?_
          refine JC.skip ?_
          refine JQ.seq ?_
          refine JC.seq ?_
          refine JC.region ?_
          refine JL.pure rfl (PO.assign (v := .int .i64 (-1)) rfl) ?_
          refine JL.nil ?_
          refine JQ.seq ?_
          refine JC.ret ?_
          refine Done.one (.inl rfl) rfl (RV.tmp (v := .int .i64 (-1)) rfl) (List.nil_sublist _) ?_
          refine ⟨_, ?_, ?_, rfl, rfl⟩
          · first | exact hexV_a (by omega) (by omega) | exact hexV_b (by omega) (by omega) | exact hexV_c (by omega) (by omega)
          · omega
      · skip
        refine JL.guardOff (b := false) rfl rfl rfl (congrArg Value.bool (decide_eq_false h_3)) ?_
        refine JL.guardOff (b := false) rfl rfl rfl (congrArg Value.bool (decide_eq_false h_3)) ?_
        refine JL.pure rfl (PO.pickF (v := .bool false) (congrArg Value.bool (decide_eq_false h_3)) rfl) ?_
        refine JL.nil ?_
        refine JQ.seq ?_
        refine JC.condF (congrArg Value.bool rfl) ?_
        refine JC.skip ?_
        refine JQ.seq ?_
        refine JC.seq ?_
        refine JC.region ?_
        refine JL.pure rfl (PO.assign (v := .int .i64 (-1)) rfl) ?_
        refine JL.nil ?_
        refine JQ.seq ?_
        refine JC.ret ?_
        refine Done.one (.inl rfl) rfl (RV.tmp (v := .int .i64 (-1)) rfl) (List.nil_sublist _) ?_
        refine ⟨_, ?_, ?_, rfl, rfl⟩
        · first | exact hexV_a (by omega) (by omega) | exact hexV_b (by omega) (by omega) | exact hexV_c (by omega) (by omega)
        · omega
  · skip
    refine JL.guardOff (b := false) rfl rfl rfl (congrArg Value.bool (decide_eq_false h_1)) ?_
    refine JL.guardOff (b := false) rfl rfl rfl (congrArg Value.bool (decide_eq_false h_1)) ?_
    refine JL.pure rfl (PO.pickF (v := .bool false) (congrArg Value.bool (decide_eq_false h_1)) rfl) ?_
    refine JL.nil ?_
    refine JQ.seq ?_
    refine JC.condF (congrArg Value.bool rfl) ?_
    refine JC.skip ?_
    refine JQ.seq ?_
    refine JC.seq ?_
    refine JC.seq ?_
    refine JC.region ?_
    refine JL.pure rfl (PO.move (v := .int .u8 ((c.toNat : Nat) : Int)) rfl) ?_
    refine JL.pure rfl (PO.geq rfl rfl) ?_
    refine JL.pure rfl (PO.move (v := .bool (decide (97 ≤ ((c.toNat : Nat) : Int)))) rfl) ?_
    by_cases h_5 : 97 ≤ ((c.toNat : Nat) : Int)
    · skip
      refine JL.guardOn rfl rfl rfl (congrArg Value.bool (decide_eq_true h_5)) (JO.ofLO (LO.pure (PO.move (v := .int .u8 ((c.toNat : Nat) : Int)) rfl))) ?_
      rintro _ _ ⟨rfl, rfl⟩
      refine JL.guardOn rfl rfl rfl (congrArg Value.bool (decide_eq_true h_5)) (JO.ofLO (LO.pure (PO.leq rfl rfl))) ?_
      rintro _ _ ⟨rfl, rfl⟩
      refine JL.pure rfl (PO.pickT (v := .bool (decide (((c.toNat : Nat) : Int) ≤ 102))) (congrArg Value.bool (decide_eq_true h_5)) rfl) ?_
      refine JL.nil ?_
      refine JQ.seq ?_
      by_cases h_6 : ((c.toNat : Nat) : Int) ≤ 102
      · skip
        refine JC.condT (congrArg Value.bool (decide_eq_true h_6)) ?_
        refine JC.seq ?_
        refine JC.region ?_
        refine JL.pure rfl (PO.move (v := .int .u8 ((c.toNat : Nat) : Int)) rfl) ?_
        refine JL.pure rfl (PO.convI (c := ((c.toNat : Nat) : Int)) Tryz.underlying5 Tryz.underlying3 rfl (wr (by omega))) ?_
        refine JL.pure rfl (PO.sub (c := ((c.toNat : Nat) : Int) - 97) rfl rfl (wr (by omega))) ?_
        refine JL.pure rfl (PO.add (c := (((c.toNat : Nat) : Int) - 97) + 10) rfl rfl (wr (by omega))) ?_
        refine JL.pure rfl (PO.assign (v := .int .i64 ((((c.toNat : Nat) : Int) - 97) + 10)) rfl) ?_
        refine JL.nil ?_
        refine JQ.seq ?_
        refine JC.ret ?_
        refine JQ.thenRet ?_
        refine Done.one (.inl rfl) rfl (RV.tmp (v := .int .i64 ((((c.toNat : Nat) : Int) - 97) + 10)) rfl) (List.nil_sublist _) ?_
        refine ⟨_, ?_, ?_, rfl, rfl⟩
        · first | exact hexV_a (by omega) (by omega) | exact hexV_b (by omega) (by omega) | exact hexV_c (by omega) (by omega)
        · omega
      · skip
        refine JC.condF (congrArg Value.bool (decide_eq_false h_6)) ?_
        refine JC.skip ?_
        refine JQ.seq ?_
        refine JC.seq ?_
        refine JC.region ?_
        refine JL.pure rfl (PO.assign (v := .int .i64 (-1)) rfl) ?_
        refine JL.nil ?_
        refine JQ.seq ?_
        refine JC.ret ?_
        refine Done.one (.inl rfl) rfl (RV.tmp (v := .int .i64 (-1)) rfl) (List.nil_sublist _) ?_
        refine ⟨_, ?_, ?_, rfl, rfl⟩
        · first | exact hexV_a (by omega) (by omega) | exact hexV_b (by omega) (by omega) | exact hexV_c (by omega) (by omega)
        · omega
    · skip
      refine JL.guardOff (b := false) rfl rfl rfl (congrArg Value.bool (decide_eq_false h_5)) ?_
      refine JL.guardOff (b := false) rfl rfl rfl (congrArg Value.bool (decide_eq_false h_5)) ?_
      refine JL.pure rfl (PO.pickF (v := .bool false) (congrArg Value.bool (decide_eq_false h_5)) rfl) ?_
      refine JL.nil ?_
      refine JQ.seq ?_
      refine JC.condF (congrArg Value.bool rfl) ?_
      refine JC.skip ?_
      refine JQ.seq ?_
      refine JC.seq ?_
      refine JC.region ?_
      refine JL.pure rfl (PO.assign (v := .int .i64 (-1)) rfl) ?_
      refine JL.nil ?_
      refine JQ.seq ?_
      refine JC.ret ?_
      refine Done.one (.inl rfl) rfl (RV.tmp (v := .int .i64 (-1)) rfl) (List.nil_sublist _) ?_
      refine ⟨_, ?_, ?_, rfl, rfl⟩
      · first | exact hexV_a (by omega) (by omega) | exact hexV_b (by omega) (by omega) | exact hexV_c (by omega) (by omega)
      · omega

theorem N_sHex (s : Str) (hs : s.length ≤ 1000000000000) :
    Ct Tryz.prog 93 [str s] ([]) (fun _ => True) (fun v A' => ∃ r0 r1, hexP s = (r0, r1) ∧ r0.length ≤ 40000 ∧ v = .tuple #[str r0, .bool r1] ∧ A' = []) := by
  refine Ct.intro Tryz.func93 rfl Tryz.ntmps93 (Nat.le_of_ble_eq_true rfl) fun w0 hpre => ?_
  refine JC.seq ?_
  refine JC.region ?_
  refine JL.pure rfl (PO.assign (v := str []) rfl) ?_
  refine JL.pure rfl (PO.assign (v := .bool false) rfl) ?_
  refine JL.nil ?_
  refine JQ.seq ?_
  refine JC.seq ?_
  refine JC.seq ?_
  refine JC.region ?_
  refine JL.pure rfl (PO.move (v := str s) rfl) ?_
  refine JL.pure rfl (PO.lenS Tryz.underlying9 rfl) ?_
  refine JL.pure rfl (PO.gtr rfl rfl) ?_
  refine JL.nil ?_
  refine JQ.seq ?_
  by_cases h_1 : 20000 < (s.length : Int)
  · skip
    refine JC.condT (congrArg Value.bool (decide_eq_true h_1)) ?_
    refine JC.seq ?_
    refine JC.region ?_
    refine JL.pure rfl (PO.assign (v := str []) rfl) ?_
    refine JL.pure rfl (PO.assign (v := .bool false) rfl) ?_
    refine JL.nil ?_
    refine JQ.seq ?_
    refine JC.ret ?_
    refine JQ.thenRet ?_
    refine Done.two (.inl rfl) rfl (RV.tmp (v := str []) rfl) (RV.tmp (v := .bool false) rfl) (List.nil_sublist _) ?_
    exact ⟨[], false, (by first | exact hexP_yes (by assumption) | (rw [hexP_no (by assumption), ← hexAcc_nil, hE])), (by first | omega | (simp only [List.length_append, List.length_cons, List.length_nil, List.length_take, List.length_drop]; omega)), rfl, rfl⟩
  · skip
    refine JC.condF (congrArg Value.bool (decide_eq_false h_1)) ?_
    refine JC.skip ?_
    refine JQ.seq ?_
    refine JC.seq ?_
    refine JC.region ?_
    refine JL.op rfl (JO.buildSlice (ps := []) (cur := #[]) Tryz.underlying39 Tryz.sizeOf5 Tryz.zeroValue5 rfl (by kernel_rfl) (by decide) (by decide)) ?_
    rintro _ _ ⟨a_2, rfl, rfl⟩
    refine JL.pure rfl (PO.assign (v := .slice a_2 0 0) rfl) ?_
    refine JL.nil ?_
    refine JQ.seq ?_
    refine JC.seq ?_
    refine JC.seq ?_
    refine JC.region ?_
    refine JL.pure rfl (PO.assign (v := .int .i64 0) rfl) ?_
    refine JL.nil ?_
    refine JQ.seq ?_
    refine JC.block ?_
    refine JC.loop (fun k_ e_ L_ => ∃ j : Nat, ∃ out_a : Option Addr, ∃ out_c : Nat, ∃ out_ : Str, (j ≤ s.length) ∧ (out_.length ≤ 2 * j) ∧ (hexAcc (s.drop j) out_ = hexAcc s ([] : List UInt8)) ∧ e_ 0 = str s ∧ e_ 2 = str [] ∧ e_ 3 = .bool false ∧ e_ 4 = .slice out_a out_.length out_c ∧ e_ 5 = .int .i64 ((j : Nat) : Int) ∧ L_ = [Res.row (.slice out_a out_.length out_c) 5 1 out_.length (out_.map encB)] ∧ k_ = s.length - j) _ ⟨0, a_2, 0, ([] : List UInt8), by omega, (by first | omega | (simp only [List.length_append, List.length_cons, List.length_nil, List.length_take, List.length_drop]; omega)), rfl, rfl, rfl, rfl, rfl, rfl, rfl, rfl⟩ ?_
    rintro _ e_3 _ ⟨j, out_a, out_c, out_, hj, ho, hR, he_4, he_5, he_6, he_7, he_8, rfl, rfl⟩
    refine JC.seq ?_
    refine JC.seq ?_
    refine JC.region ?_
    refine JL.pure rfl (PO.move (v := .int .i64 ((j : Nat) : Int)) he_8) ?_
    refine JL.pure rfl (PO.move (v := str s) he_4) ?_
    refine JL.pure rfl (PO.lenS Tryz.underlying9 rfl) ?_
    refine JL.pure rfl (PO.lss rfl rfl) ?_
    refine JL.nil ?_
    refine JQ.seq ?_
    by_cases h_9 : ((j : Nat) : Int) < (s.length : Int)
    · skip
      have hlt : j < s.length := by omega
      have hu8 := UInt8.toNat_lt (s.getD j 0)
      refine JC.condT (congrArg Value.bool (decide_eq_true h_9)) ?_
      refine JC.skip ?_
      refine JQ.seq ?_
      refine JC.seq ?_
      refine JC.block ?_
      refine JC.regionA [] 15 mixed (by simp) ?_
      refine JA.takeP 0 rfl (by kernel_rfl) (NP.bl (NP.th (NP.th (NP.bl (NP.th NP.body))))) (by kernel_rfl) (by kernel_rfl) rfl (PO.move (v := .slice out_a out_.length out_c) he_7) ?_
      refine JA.takeP 1 rfl (by kernel_rfl) (NP.bl (NP.th (NP.th (NP.bl (NP.th NP.body))))) (by kernel_rfl) (by kernel_rfl) rfl (PO.move (v := str s) he_4) ?_
      refine JA.takeP 2 rfl (by kernel_rfl) (NP.bl (NP.th (NP.th (NP.bl (NP.th NP.body))))) (by kernel_rfl) (by kernel_rfl) rfl (PO.move (v := .int .i64 ((j : Nat) : Int)) he_8) ?_
      refine JA.takeP 3 rfl (by kernel_rfl) (NP.bl (NP.th (NP.th (NP.bl (NP.th NP.body))))) (by kernel_rfl) (by kernel_rfl) rfl (PO.indexS (i := j) (c := s.getD j 0) Tryz.underlying9 rfl rfl (getD_some (by omega))) ?_
      refine JA.takeP 4 rfl (by kernel_rfl) (NP.bl (NP.th (NP.th (NP.bl (NP.th NP.body))))) (by kernel_rfl) (by kernel_rfl) rfl (PO.convI (c := ((s.getD j 0).toNat : Int)) Tryz.underlying5 Tryz.underlying3 rfl (wr (by omega))) ?_
      refine JA.takeP 5 rfl (by kernel_rfl) (NP.bl (NP.th (NP.th (NP.bl (NP.th NP.body))))) (by kernel_rfl) (by kernel_rfl) rfl (PO.quoN (c := ((((s.getD j 0).toNat) / 16 : Nat) : Int)) rfl rfl (by omega) (by omega) (by omega) (wr (by omega))) ?_
      refine JA.takeP 7 rfl (by kernel_rfl) (NP.bl (NP.th (NP.th (NP.bl (NP.th NP.body))))) (by kernel_rfl) (by kernel_rfl) rfl (PO.move (v := str s) he_4) ?_
      refine JA.takeP 8 rfl (by kernel_rfl) (NP.bl (NP.th (NP.th (NP.bl (NP.th NP.body))))) (by kernel_rfl) (by kernel_rfl) rfl (PO.move (v := .int .i64 ((j : Nat) : Int)) he_8) ?_
      refine JA.takeP 9 rfl (by kernel_rfl) (NP.bl (NP.th (NP.th (NP.bl (NP.th NP.body))))) (by kernel_rfl) (by kernel_rfl) rfl (PO.indexS (i := j) (c := s.getD j 0) Tryz.underlying9 rfl rfl (getD_some (by omega))) ?_
      refine JA.takeP 10 rfl (by kernel_rfl) (NP.bl (NP.th (NP.th (NP.bl (NP.th NP.body))))) (by kernel_rfl) (by kernel_rfl) rfl (PO.convI (c := ((s.getD j 0).toNat : Int)) Tryz.underlying5 Tryz.underlying3 rfl (wr (by omega))) ?_
      refine JA.takeP 11 rfl (by kernel_rfl) (NP.bl (NP.th (NP.th (NP.bl (NP.th NP.body))))) (by kernel_rfl) (by kernel_rfl) rfl (PO.remN (c := ((((s.getD j 0).toNat) % 16 : Nat) : Int)) rfl rfl (by omega) (by omega) (by omega)) ?_
      refine JA.one (i := 6) (by kernel_rfl) ?_
      refine JX.op rfl rfl (JO.call [] Tryz.call133 rfl (N_figure (((s.getD j 0).toNat) / 16) (by omega)) rfl (fun _ _ => trivial)) ?_
      rintro _ _ ⟨_, ⟨rfl, rfl⟩, rfl⟩
      refine ⟨(fun _ h => by cases h), ?_⟩
      refine JA.one (i := 12) (by kernel_rfl) ?_
      refine JX.op rfl rfl (JO.call [] Tryz.call133 rfl (N_figure (((s.getD j 0).toNat) % 16) (by omega)) rfl (fun _ _ => trivial)) ?_
      rintro _ _ ⟨_, ⟨rfl, rfl⟩, rfl⟩
      refine ⟨(fun _ h => by cases h), ?_⟩
      refine JA.one (i := 13) (by kernel_rfl) ?_
      refine JX.op rfl rfl (JO.buildSlice (ps := [(0, .int .u8 (((hexFig (((s.getD j 0).toNat) / 16)).toNat : Nat) : Int)), (1, .int .u8 (((hexFig (((s.getD j 0).toNat) % 16)).toNat : Nat) : Int))]) (cur := #[.int .u8 (((hexFig (((s.getD j 0).toNat) / 16)).toNat : Nat) : Int), .int .u8 (((hexFig (((s.getD j 0).toNat) % 16)).toNat : Nat) : Int)]) Tryz.underlying39 Tryz.sizeOf5 Tryz.zeroValue5 rfl (by kernel_rfl) (by decide) (by decide)) ?_
      rintro _ _ ⟨a_11, rfl, rfl⟩
      refine ⟨(fun _ h => by cases h), ?_⟩
      refine JA.one (i := 14) (by kernel_rfl) ?_
      refine JX.op rfl rfl (JO.append' 1 (q := 2) (news := ([hexFig (((s.getD j 0).toNat) / 16), hexFig (((s.getD j 0).toNat) % 16)] : List UInt8).map encB) (n' := (out_ ++ ([hexFig (((s.getD j 0).toNat) / 16), hexFig (((s.getD j 0).toNat) % 16)] : List UInt8)).length) (cs' := (out_ ++ ([hexFig (((s.getD j 0).toNat) / 16), hexFig (((s.getD j 0).toNat) % 16)] : List UInt8)).map encB) rfl Tryz.underlying39 Tryz.underlying39 Tryz.typeInfo5 rfl (by' := 1) rfl rfl rfl rfl rfl (fun w hw => Src.sees (hw.see (i := 0) rfl) (oneB _)) (by (try simp only [List.length_append, List.length_cons, List.length_nil, List.length_take, List.length_drop]); omega) (by (try simp only [List.length_append, List.length_cons, List.length_nil, List.length_take, List.length_drop]); omega) (by simp only [List.length_append, List.length_take, List.length_drop, List.length_cons, List.length_nil] <;> first | rfl | omega) (by simp only [List.map_append])) ?_
      rintro _ _ ⟨a_14, c_15, rfl, rfl⟩
      refine ⟨(fun _ h => by cases h), ?_⟩
      refine JA.takeP 15 rfl (by kernel_rfl) (NP.bl (NP.th (NP.th (NP.bl (NP.th NP.body))))) (by kernel_rfl) (by kernel_rfl) rfl (PO.assign (v := .slice a_14 ((out_ ++ ([hexFig (((s.getD j 0).toNat) / 16), hexFig (((s.getD j 0).toNat) % 16)] : List UInt8)).length) c_15) rfl) ?_
      refine JA.done (by kernel_rfl) ?_
      refine JQ.blockN ?_
      refine JQ.seq ?_
      refine JC.region ?_
      refine JL.pure rfl (PO.move (v := .int .i64 ((j : Nat) : Int)) he_8) ?_
      refine JL.pure rfl (PO.add (c := ((j + 1 : Nat) : Int)) rfl rfl (wr (by omega))) ?_
      refine JL.pure rfl (PO.assign (v := .int .i64 ((j + 1 : Nat) : Int)) rfl) ?_
      refine JL.nil ?_
      refine JQ.pick [1] (A := [Res.row (.slice a_14 ((out_ ++ ([hexFig (((s.getD j 0).toNat) / 16), hexFig (((s.getD j 0).toNat) % 16)] : List UInt8)).length) c_15) 5 1 ((out_ ++ ([hexFig (((s.getD j 0).toNat) / 16), hexFig (((s.getD j 0).toNat) % 16)] : List UInt8)).length) ((out_ ++ ([hexFig (((s.getD j 0).toNat) / 16), hexFig (((s.getD j 0).toNat) % 16)] : List UInt8)).map encB)]) rfl ?_
      refine JQ.again (s.length - (j + 1)) (by omega) ⟨j + 1, a_14, c_15, (out_ ++ ([hexFig (((s.getD j 0).toNat) / 16), hexFig (((s.getD j 0).toNat) % 16)] : List UInt8)), by omega, (by first | omega | (simp only [List.length_append, List.length_cons, List.length_nil, List.length_take, List.length_drop]; omega)), (by rw [drop_at (getD_some (d := 0) hlt)] at hR; simp only [hexAcc, h_1, h_9, if_true, if_false, Bool.false_eq_true, Bool.not_true, Bool.not_false] at hR; (repeat (first | rw [if_pos (by omega)] at hR | rw [if_neg (by omega)] at hR)); exact hR), he_4, he_5, he_6, rfl, rfl, rfl, rfl⟩
    · skip
      rw [List.drop_of_length_le (by omega)] at hR
      simp only [hexAcc] at hR
      have hE := hR.symm
      refine JC.condF (congrArg Value.bool (decide_eq_false h_9)) ?_
      refine JC.exit ?_
      refine JQ.thenExit ?_
      refine JQ.thenExit ?_
      refine JQ.blockE ?_
      refine JQ.seq ?_
      refine JC.seq ?_
      refine JC.region ?_
      refine JL.pure rfl (PO.move (v := .slice out_a out_.length out_c) he_7) ?_
      refine JL.ld rfl (LO.toStr 0 out_ rfl Tryz.underlying39 Tryz.underlying5 Tryz.underlying9 rfl rfl) ?_
      refine JL.pure rfl (PO.assign (v := str out_) rfl) ?_
      refine JL.pure rfl (PO.assign (v := .bool true) rfl) ?_
      refine JL.nil ?_
      refine JQ.seq ?_
      refine JC.ret ?_
      refine Done.two (.inl rfl) rfl (RV.tmp (v := str out_) rfl) (RV.tmp (v := .bool true) rfl) (List.nil_sublist _) ?_
      exact ⟨out_, true, (by first | exact hexP_yes (by assumption) | (rw [hexP_no (by assumption), ← hexAcc_nil, hE])), (by first | omega | (simp only [List.length_append, List.length_cons, List.length_nil, List.length_take, List.length_drop]; omega)), rfl, rfl⟩

theorem N_hex (s : Str) (hs : s.length ≤ 1000000000000) :
    Ct Tryz.prog 121 [str s] ([]) (fun _ => True) (fun v A' => ∃ r0 r1, hexP s = (r0, r1) ∧ r0.length ≤ 40000 ∧ v = .tuple #[str r0, .bool r1] ∧ A' = []) := by
  refine Ct.intro Tryz.func121 rfl Tryz.ntmps121 (Nat.le_of_ble_eq_true rfl) fun w0 hpre => ?_
  refine JC.seq ?_
  refine JC.region ?_
  refine JL.pure rfl (PO.assign (v := str []) rfl) ?_
  refine JL.pure rfl (PO.assign (v := .bool false) rfl) ?_
  refine JL.nil ?_
  refine JQ.seq ?_
  refine JC.seq ?_
  refine JC.seq ?_
  refine JC.region ?_
  refine JL.pure rfl (PO.move (v := str s) rfl) ?_
  refine JL.pure rfl (PO.lenS Tryz.underlying9 rfl) ?_
  refine JL.pure rfl (PO.gtr rfl rfl) ?_
  refine JL.nil ?_
  refine JQ.seq ?_
  by_cases h_1 : 20000 < (s.length : Int)
  · skip
    refine JC.condT (congrArg Value.bool (decide_eq_true h_1)) ?_
    refine JC.seq ?_
    refine JC.region ?_
    refine JL.pure rfl (PO.assign (v := str []) rfl) ?_
    refine JL.pure rfl (PO.assign (v := .bool false) rfl) ?_
    refine JL.nil ?_
    refine JQ.seq ?_
    refine JC.ret ?_
    refine JQ.thenRet ?_
    refine Done.two (.inl rfl) rfl (RV.tmp (v := str []) rfl) (RV.tmp (v := .bool false) rfl) (List.nil_sublist _) ?_
    exact ⟨[], false, (by first | exact hexP_yes (by assumption) | exact hexP_no (by assumption)), (by first | (rw [hexB_len]; omega) | (simp only [List.length_nil]; omega)), rfl, rfl⟩
  · skip
    refine JC.condF (congrArg Value.bool (decide_eq_false h_1)) ?_
    refine JC.skip ?_
    refine JQ.seq ?_
    refine JC.seq ?_
    refine JC.region ?_
    refine JL.pure rfl (PO.move (v := str s) rfl) ?_
    refine JL.op rfl (JO.toBytes Tryz.underlying9 Tryz.underlying39 Tryz.underlying5 rfl (by unfold maxLen; omega)) ?_
    rintro _ _ ⟨a_2, c_3, rfl, rfl⟩
    refine JL.op rfl (JO.call [] Tryz.call148 rfl (N_hexEnc a_2 c_3 s (by omega)) rfl (fun w hw => hw.see (i := 0) rfl)) ?_
    rintro _ _ ⟨_, ⟨rfl, rfl⟩, rfl⟩
    refine JL.pure rfl (PO.assign (v := str (hexB s)) rfl) ?_
    refine JL.pure rfl (PO.assign (v := .bool true) rfl) ?_
    refine JL.nil ?_
    refine JQ.seq ?_
    refine JC.ret ?_
    refine Done.two (.inl rfl) rfl (RV.tmp (v := str (hexB s)) rfl) (RV.tmp (v := .bool true) rfl) (List.nil_sublist _) ?_
    exact ⟨(hexB s), true, (by first | exact hexP_yes (by assumption) | exact hexP_no (by assumption)), (by first | (rw [hexB_len]; omega) | (simp only [List.length_nil]; omega)), rfl, rfl⟩

theorem N_hexOf (s : Str) (hs : s.length ≤ 1000000000000) :
    Ct Tryz.prog 80 [str s] ([]) (fun _ => True) (fun v A' => ∃ r0, hexS s = r0 ∧ r0.length ≤ 40000 ∧ v = str r0 ∧ A' = []) := by
  refine Ct.intro Tryz.func80 rfl Tryz.ntmps80 (Nat.le_of_ble_eq_true rfl) fun w0 hpre => ?_
  refine JC.seq ?_
  refine JC.region ?_
  refine JL.pure rfl (PO.assign (v := str []) rfl) ?_
  refine JL.nil ?_
  refine JQ.seq ?_
  refine JC.seq ?_
  refine JC.region ?_
  refine JL.pure rfl (PO.move (v := str s) rfl) ?_
  refine JL.op rfl (JO.call [] Tryz.call121 rfl (N_hex s (by omega)) rfl (fun _ _ => trivial)) ?_
  rintro _ _ ⟨_, ⟨u_3, b_5, e_1, f_4, rfl, rfl⟩, rfl⟩
  refine JL.pure rfl (PO.move (v := .tuple #[str u_3, .bool b_5]) rfl) ?_
  refine JL.pure rfl (PO.extract (v := str u_3) rfl rfl) ?_
  refine JL.pure rfl (PO.extract (v := .bool b_5) rfl rfl) ?_
  refine JL.pure rfl (PO.assign (v := str u_3) rfl) ?_
  refine JL.pure rfl (PO.assign (v := .bool b_5) rfl) ?_
  refine JL.nil ?_
  refine JQ.seq ?_
  refine JC.seq ?_
  refine JC.region ?_
  refine JL.pure rfl (PO.move (v := str u_3) rfl) ?_
  refine JL.pure rfl (PO.assign (v := str u_3) rfl) ?_
  refine JL.nil ?_
  refine JQ.seq ?_
  refine JC.ret ?_
  refine Done.one (.inl rfl) rfl (RV.tmp (v := str u_3) rfl) (List.nil_sublist _) ?_
  exact ⟨u_3, (by simp only [hexS_P, e_1, if_true, if_false, Bool.false_eq_true, Bool.not_true, Bool.not_false]; (repeat (first | rw [if_pos (by omega)] | rw [if_neg (by omega)])); all_goals (first | rfl | simp only [if_true, if_false, Bool.false_eq_true, Bool.not_true, Bool.not_false, e_1])), (by first | omega | (simp only [List.length_append, List.length_cons, List.length_nil, List.length_take, List.length_drop]; omega)), rfl, rfl⟩

theorem N_unhex (t : Str) (ht : t.length ≤ 1000000000000) :
    Ct Tryz.prog 115 [str t] ([]) (fun w => HexOk w) (fun v A' => ∃ r0 r1, unhex t = (r0, r1) ∧ r0.length ≤ 20000 ∧ v = .tuple #[str r0, .bool r1] ∧ A' = []) := by
  refine Ct.introL Tryz.func115 rfl Tryz.ntmps115 (Nat.le_of_ble_eq_true rfl) fun w0 hpre hlow => ?_
  refine JC.seq ?_
  refine JC.region ?_
  refine JL.pure rfl (PO.assign (v := str []) rfl) ?_
  refine JL.pure rfl (PO.assign (v := .bool false) rfl) ?_
  refine JL.nil ?_
  refine JQ.seq ?_
  refine JC.seq ?_
  refine JC.region ?_
  refine JL.pure rfl (PO.move (v := str t) rfl) ?_
  refine JL.op rfl (JO.call [] Tryz.call147 rfl (N_hexDec t (by omega)) rfl (fun w hw => hw.hex hlow hpre)) ?_
  rintro _ _ ⟨_, ⟨da, dc, dr, ⟨hd, rfl⟩ | ⟨hd, te, pe, rfl⟩, rfl⟩, rfl⟩
  · skip
    refine JL.pure rfl (PO.move (v := .tuple #[.slice da dr.length dc, .nilIface]) rfl) ?_
    refine JL.pure rfl (PO.extract (v := .slice da dr.length dc) rfl rfl) ?_
    refine JL.pure rfl (PO.extract (v := .nilIface) rfl rfl) ?_
    refine JL.pure rfl (PO.assign (v := .slice da dr.length dc) rfl) ?_
    refine JL.pure rfl (PO.assign (v := .nilIface) rfl) ?_
    refine JL.nil ?_
    refine JQ.seq ?_
    refine JC.seq ?_
    refine JC.seq ?_
    refine JC.region ?_
    refine JL.pure rfl (PO.move (v := .nilIface) rfl) ?_
    refine JL.pure rfl (PO.neqIfN Tryz.underlying95 rfl rfl) ?_
    refine JL.pure rfl (PO.move (v := .bool false) rfl) ?_
    refine JL.guardOn rfl rfl rfl (congrArg Value.bool rfl) (JO.ofLO (LO.pure (PO.move (v := .slice da dr.length dc) rfl))) ?_
    rintro _ _ ⟨rfl, rfl⟩
    refine JL.guardOn rfl rfl rfl (congrArg Value.bool rfl) (JO.ofLO (LO.pure (PO.lenV Tryz.underlying39 rfl))) ?_
    rintro _ _ ⟨rfl, rfl⟩
    refine JL.guardOn rfl rfl rfl (congrArg Value.bool rfl) (JO.ofLO (LO.pure (PO.gtr rfl rfl))) ?_
    rintro _ _ ⟨rfl, rfl⟩
    refine JL.pure rfl (PO.pickF (v := .bool (decide (20000 < ((dr.length : Nat) : Int)))) (congrArg Value.bool rfl) rfl) ?_
    refine JL.pure rfl (PO.move (v := .bool (decide (20000 < ((dr.length : Nat) : Int)))) rfl) ?_
    by_cases h_1 : 20000 < ((dr.length : Nat) : Int)
    · skip
      refine JL.guardOff (b := true) rfl rfl rfl (congrArg Value.bool (decide_eq_true h_1)) ?_
      refine JL.guardOff (b := true) rfl rfl rfl (congrArg Value.bool (decide_eq_true h_1)) ?_
      refine JL.guardOff (b := true) rfl rfl rfl (congrArg Value.bool (decide_eq_true h_1)) ?_
      refine JL.guardOff (b := true) rfl rfl rfl (congrArg Value.bool (decide_eq_true h_1)) ?_
      refine JL.pure rfl (PO.pickT (v := .bool true) (congrArg Value.bool (decide_eq_true h_1)) rfl) ?_
      refine JL.nil ?_
      refine JQ.seq ?_
      refine JC.condT (congrArg Value.bool rfl) ?_
      refine JC.seq ?_
      refine JC.region ?_
      refine JL.pure rfl (PO.assign (v := str []) rfl) ?_
      refine JL.pure rfl (PO.assign (v := .bool false) rfl) ?_
      refine JL.nil ?_
      refine JQ.seq ?_
      refine JC.ret ?_
      refine JQ.thenRet ?_
      refine Done.two (.inl rfl) rfl (RV.tmp (v := str []) rfl) (RV.tmp (v := .bool false) rfl) (List.nil_sublist _) ?_
      exact ⟨[], false, (by first | exact unhex_err hd | exact unhex_long hd (by assumption) | exact unhex_ne hd (by assumption) | exact unhex_yes hd (by assumption) (by assumption)), (by first | omega | (simp only [List.length_append, List.length_cons, List.length_nil, List.length_take, List.length_drop]; omega)), rfl, rfl⟩
    · skip
      refine JL.guardOn rfl rfl rfl (congrArg Value.bool (decide_eq_false h_1)) (JO.ofLO (LO.pure (PO.move (v := .slice da dr.length dc) rfl))) ?_
      rintro _ _ ⟨rfl, rfl⟩
      refine JL.guardOn rfl rfl rfl (congrArg Value.bool (decide_eq_false h_1)) (JO.call [] Tryz.call148 rfl (N_hexEnc da dc dr (by omega)) rfl (fun w hw => hw.see (i := 0) rfl)) ?_
      rintro _ _ ⟨_, ⟨rfl, rfl⟩, rfl⟩
      refine JL.guardOn rfl rfl rfl (congrArg Value.bool (decide_eq_false h_1)) (JO.ofLO (LO.pure (PO.move (v := str t) rfl))) ?_
      rintro _ _ ⟨rfl, rfl⟩
      refine JL.guardOn rfl rfl rfl (congrArg Value.bool (decide_eq_false h_1)) (JO.ofLO (LO.pure (PO.neqS rfl rfl))) ?_
      rintro _ _ ⟨rfl, rfl⟩
      refine JL.pure rfl (PO.pickF (v := .bool (!(decide ((hexB dr) = t)))) (congrArg Value.bool (decide_eq_false h_1)) rfl) ?_
      refine JL.nil ?_
      refine JQ.seq ?_
      by_cases h_2 : (hexB dr) = t
      · skip
        refine JC.condF (congrArg Value.bool (congrArg Bool.not (decide_eq_true h_2))) ?_
        refine JC.skip ?_
        refine JQ.seq ?_
        refine JC.seq ?_
        refine JC.region ?_
        refine JL.pure rfl (PO.move (v := .slice da dr.length dc) rfl) ?_
        refine JL.ld rfl (LO.toStr 0 dr rfl Tryz.underlying39 Tryz.underlying5 Tryz.underlying9 rfl rfl) ?_
        refine JL.pure rfl (PO.assign (v := str dr) rfl) ?_
        refine JL.pure rfl (PO.assign (v := .bool true) rfl) ?_
        refine JL.nil ?_
        refine JQ.seq ?_
        refine JC.ret ?_
        refine Done.two (.inl rfl) rfl (RV.tmp (v := str dr) rfl) (RV.tmp (v := .bool true) rfl) (List.nil_sublist _) ?_
        exact ⟨dr, true, (by first | exact unhex_err hd | exact unhex_long hd (by assumption) | exact unhex_ne hd (by assumption) | exact unhex_yes hd (by assumption) (by assumption)), (by first | omega | (simp only [List.length_append, List.length_cons, List.length_nil, List.length_take, List.length_drop]; omega)), rfl, rfl⟩
      · skip
        refine JC.condT (congrArg Value.bool (congrArg Bool.not (decide_eq_false h_2))) ?_
        refine JC.seq ?_
        refine JC.region ?_
        refine JL.pure rfl (PO.assign (v := str []) rfl) ?_
        refine JL.pure rfl (PO.assign (v := .bool false) rfl) ?_
        refine JL.nil ?_
        refine JQ.seq ?_
        refine JC.ret ?_
        refine JQ.thenRet ?_
        refine Done.two (.inl rfl) rfl (RV.tmp (v := str []) rfl) (RV.tmp (v := .bool false) rfl) (List.nil_sublist _) ?_
        exact ⟨[], false, (by first | exact unhex_err hd | exact unhex_long hd (by assumption) | exact unhex_ne hd (by assumption) | exact unhex_yes hd (by assumption) (by assumption)), (by first | omega | (simp only [List.length_append, List.length_cons, List.length_nil, List.length_take, List.length_drop]; omega)), rfl, rfl⟩
  · skip
    refine JL.pure rfl (PO.move (v := .tuple #[.slice da dr.length dc, (.iface te pe)]) rfl) ?_
    refine JL.pure rfl (PO.extract (v := .slice da dr.length dc) rfl rfl) ?_
    refine JL.pure rfl (PO.extract (v := (.iface te pe)) rfl rfl) ?_
    refine JL.pure rfl (PO.assign (v := .slice da dr.length dc) rfl) ?_
    refine JL.pure rfl (PO.assign (v := (.iface te pe)) rfl) ?_
    refine JL.nil ?_
    refine JQ.seq ?_
    refine JC.seq ?_
    refine JC.seq ?_
    refine JC.region ?_
    refine JL.pure rfl (PO.move (v := (.iface te pe)) rfl) ?_
    refine JL.pure rfl (PO.neqIfS Tryz.underlying95 rfl rfl) ?_
    refine JL.pure rfl (PO.move (v := .bool true) rfl) ?_
    refine JL.guardOff (b := true) rfl rfl rfl (congrArg Value.bool rfl) ?_
    refine JL.guardOff (b := true) rfl rfl rfl (congrArg Value.bool rfl) ?_
    refine JL.guardOff (b := true) rfl rfl rfl (congrArg Value.bool rfl) ?_
    refine JL.pure rfl (PO.pickT (v := .bool true) (congrArg Value.bool rfl) rfl) ?_
    refine JL.pure rfl (PO.move (v := .bool true) rfl) ?_
    refine JL.guardOff (b := true) rfl rfl rfl (congrArg Value.bool rfl) ?_
    refine JL.guardOff (b := true) rfl rfl rfl (congrArg Value.bool rfl) ?_
    refine JL.guardOff (b := true) rfl rfl rfl (congrArg Value.bool rfl) ?_
    refine JL.guardOff (b := true) rfl rfl rfl (congrArg Value.bool rfl) ?_
    refine JL.pure rfl (PO.pickT (v := .bool true) (congrArg Value.bool rfl) rfl) ?_
    refine JL.nil ?_
    refine JQ.seq ?_
    refine JC.condT (congrArg Value.bool rfl) ?_
    refine JC.seq ?_
    refine JC.region ?_
    refine JL.pure rfl (PO.assign (v := str []) rfl) ?_
    refine JL.pure rfl (PO.assign (v := .bool false) rfl) ?_
    refine JL.nil ?_
    refine JQ.seq ?_
    refine JC.ret ?_
    refine JQ.thenRet ?_
    refine Done.two (.inl rfl) rfl (RV.tmp (v := str []) rfl) (RV.tmp (v := .bool false) rfl) (List.nil_sublist _) ?_
    exact ⟨[], false, (by first | exact unhex_err hd | exact unhex_long hd (by assumption) | exact unhex_ne hd (by assumption) | exact unhex_yes hd (by assumption) (by assumption)), (by first | omega | (simp only [List.length_append, List.length_cons, List.length_nil, List.length_take, List.length_drop]; omega)), rfl, rfl⟩

theorem N_sUnhex (t : Str) (ht : t.length ≤ 1000000000000) :
    Ct Tryz.prog 107 [str t] ([]) (fun _ => True) (fun v A' => ∃ r0 r1, unhex t = (r0, r1) ∧ r0.length ≤ 20000 ∧ v = .tuple #[str r0, .bool r1] ∧ A' = []) := by
  refine Ct.intro Tryz.func107 rfl Tryz.ntmps107 (Nat.le_of_ble_eq_true rfl) fun w0 hpre => ?_
  refine JC.seq ?_
  refine JC.region ?_
  refine JL.pure rfl (PO.assign (v := str []) rfl) ?_
  refine JL.pure rfl (PO.assign (v := .bool false) rfl) ?_
  refine JL.nil ?_
  refine JQ.seq ?_
  refine JC.seq ?_
  refine JC.seq ?_
  refine JC.region ?_
  refine JL.pure rfl (PO.move (v := str t) rfl) ?_
  refine JL.pure rfl (PO.lenS Tryz.underlying9 rfl) ?_
  refine JL.pure rfl (PO.gtr rfl rfl) ?_
  refine JL.pure rfl (PO.move (v := .bool (decide (40000 < (t.length : Int)))) rfl) ?_
  by_cases h_1 : 40000 < (t.length : Int)
  · skip
    refine JL.guardOff (b := true) rfl rfl rfl (congrArg Value.bool (decide_eq_true h_1)) ?_
    refine JL.guardOff (b := true) rfl rfl rfl (congrArg Value.bool (decide_eq_true h_1)) ?_
    refine JL.guardOff (b := true) rfl rfl rfl (congrArg Value.bool (decide_eq_true h_1)) ?_
    refine JL.guardOff (b := true) rfl rfl rfl (congrArg Value.bool (decide_eq_true h_1)) ?_
    refine JL.pure rfl (PO.pickT (v := .bool true) (congrArg Value.bool (decide_eq_true h_1)) rfl) ?_
    refine JL.nil ?_
    refine JQ.seq ?_
    refine JC.condT (congrArg Value.bool rfl) ?_
    refine JC.seq ?_
    refine JC.region ?_
    refine JL.pure rfl (PO.assign (v := str []) rfl) ?_
    refine JL.pure rfl (PO.assign (v := .bool false) rfl) ?_
    refine JL.nil ?_
    refine JQ.seq ?_
    refine JC.ret ?_
    refine JQ.thenRet ?_
    refine Done.two (.inl rfl) rfl (RV.tmp (v := str []) rfl) (RV.tmp (v := .bool false) rfl) (List.nil_sublist _) ?_
    exact ⟨[], false, (by first | exact unhex_bad (by omega) | exact unhex_some (by rw [List.drop_of_length_le (by omega)] at hR; rw [← hR]; simp [unhexL]) (by assumption) | exact unhex_none (by rw [unhexL_step (by omega)] at hR; simp only [if_true] at hR; rw [if_pos (by omega)] at hR; exact hR.symm)), (by first | omega | (simp only [List.length_append, List.length_cons, List.length_nil, List.length_take, List.length_drop]; omega)), rfl, rfl⟩
  · skip
    refine JL.guardOn rfl rfl rfl (congrArg Value.bool (decide_eq_false h_1)) (JO.ofLO (LO.pure (PO.move (v := str t) rfl))) ?_
    rintro _ _ ⟨rfl, rfl⟩
    refine JL.guardOn rfl rfl rfl (congrArg Value.bool (decide_eq_false h_1)) (JO.ofLO (LO.pure (PO.lenS Tryz.underlying9 rfl))) ?_
    rintro _ _ ⟨rfl, rfl⟩
    refine JL.guardOn rfl rfl rfl (congrArg Value.bool (decide_eq_false h_1)) (JO.ofLO (LO.pure (PO.remN (c := ((t.length % 2 : Nat) : Int)) rfl rfl (by omega) (by omega) (by omega)))) ?_
    rintro _ _ ⟨rfl, rfl⟩
    refine JL.guardOn rfl rfl rfl (congrArg Value.bool (decide_eq_false h_1)) (JO.ofLO (LO.pure (PO.neqI rfl rfl))) ?_
    rintro _ _ ⟨rfl, rfl⟩
    refine JL.pure rfl (PO.pickF (v := .bool (!(decide (((t.length % 2 : Nat) : Int) = 0)))) (congrArg Value.bool (decide_eq_false h_1)) rfl) ?_
    refine JL.nil ?_
    refine JQ.seq ?_
    by_cases h_2 : ((t.length % 2 : Nat) : Int) = 0
    · skip
      refine JC.condF (congrArg Value.bool (congrArg Bool.not (decide_eq_true h_2))) ?_
      refine JC.skip ?_
      refine JQ.seq ?_
      refine JC.seq ?_
      refine JC.region ?_
      refine JL.op rfl (JO.buildSlice (ps := []) (cur := #[]) Tryz.underlying39 Tryz.sizeOf5 Tryz.zeroValue5 rfl (by kernel_rfl) (by decide) (by decide)) ?_
      rintro _ _ ⟨a_3, rfl, rfl⟩
      refine JL.pure rfl (PO.assign (v := .slice a_3 0 0) rfl) ?_
      refine JL.nil ?_
      refine JQ.seq ?_
      refine JC.seq ?_
      refine JC.seq ?_
      refine JC.region ?_
      refine JL.pure rfl (PO.assign (v := .int .i64 0) rfl) ?_
      refine JL.nil ?_
      refine JQ.seq ?_
      refine JC.block ?_
      refine JC.loop (fun k_ e_ L_ => ∃ j : Nat, ∃ oa : Option Addr, ∃ oc : Nat, ∃ o_ : Str, (j ≤ t.length) ∧ ((t.length - j) % 2 = 0) ∧ (o_.length * 2 ≤ j) ∧ ((unhexL (t.drop j)).map (o_ ++ ·) = unhexL t) ∧ e_ 0 = str t ∧ e_ 4 = .slice oa o_.length oc ∧ e_ 5 = .int .i64 ((j : Nat) : Int) ∧ L_ = [Res.row (.slice oa o_.length oc) 5 1 o_.length (o_.map encB)] ∧ k_ = t.length - j) _ ⟨0, a_3, 0, [], by omega, by omega, (by simp), (by simp), rfl, rfl, rfl, rfl, rfl⟩ ?_
      rintro _ e_4 _ ⟨j, oa, oc, o_, hj, hj2, ho, hR, he_5, he_6, he_7, rfl, rfl⟩
      refine JC.seq ?_
      refine JC.seq ?_
      refine JC.region ?_
      refine JL.pure rfl (PO.move (v := .int .i64 ((j : Nat) : Int)) he_7) ?_
      refine JL.pure rfl (PO.move (v := str t) he_5) ?_
      refine JL.pure rfl (PO.lenS Tryz.underlying9 rfl) ?_
      refine JL.pure rfl (PO.lss rfl rfl) ?_
      refine JL.nil ?_
      refine JQ.seq ?_
      by_cases h_8 : ((j : Nat) : Int) < (t.length : Int)
      · skip
        refine JC.condT (congrArg Value.bool (decide_eq_true h_8)) ?_
        refine JC.skip ?_
        refine JQ.seq ?_
        refine JC.seq ?_
        refine JC.block ?_
        refine JC.seq ?_
        refine JC.region ?_
        refine JL.pure rfl (PO.move (v := str t) he_5) ?_
        refine JL.pure rfl (PO.move (v := .int .i64 ((j : Nat) : Int)) he_7) ?_
        refine JL.pure rfl (PO.indexS (i := j) (c := t.getD j 0) Tryz.underlying9 rfl rfl (getD_some (by omega))) ?_
        have hu_9 := UInt8.toNat_lt (t.getD j 0)
        refine JL.op rfl (JO.call [] Tryz.call140 rfl (N_value (t.getD j 0)) rfl (fun _ _ => trivial)) ?_
        rintro _ _ ⟨_, ⟨n_10, e_11, f_12, rfl, rfl⟩, rfl⟩
        refine JL.pure rfl (PO.assign (v := .int .i64 n_10) rfl) ?_
        refine JL.nil ?_
        refine JQ.seq ?_
        refine JC.seq ?_
        refine JC.region ?_
        refine JL.pure rfl (PO.move (v := str t) he_5) ?_
        refine JL.pure rfl (PO.move (v := .int .i64 ((j : Nat) : Int)) he_7) ?_
        refine JL.pure rfl (PO.add (c := ((j + 1 : Nat) : Int)) rfl rfl (wr (by omega))) ?_
        refine JL.pure rfl (PO.indexS (i := j + 1) (c := t.getD (j + 1) 0) Tryz.underlying9 rfl rfl (getD_some (by omega))) ?_
        have hu_13 := UInt8.toNat_lt (t.getD (j + 1) 0)
        refine JL.op rfl (JO.call [] Tryz.call140 rfl (N_value (t.getD (j + 1) 0)) rfl (fun _ _ => trivial)) ?_
        rintro _ _ ⟨_, ⟨n_14, e_15, f_16, rfl, rfl⟩, rfl⟩
        refine JL.pure rfl (PO.assign (v := .int .i64 n_14) rfl) ?_
        refine JL.nil ?_
        refine JQ.seq ?_
        refine JC.seq ?_
        refine JC.seq ?_
        refine JC.region ?_
        refine JL.pure rfl (PO.move (v := .int .i64 n_10) rfl) ?_
        refine JL.pure rfl (PO.lss rfl rfl) ?_
        refine JL.pure rfl (PO.move (v := .bool (decide (n_10 < 0))) rfl) ?_
        by_cases h_17 : n_10 < 0
        · skip
          refine JL.guardOff (b := true) rfl rfl rfl (congrArg Value.bool (decide_eq_true h_17)) ?_
          refine JL.guardOff (b := true) rfl rfl rfl (congrArg Value.bool (decide_eq_true h_17)) ?_
          refine JL.pure rfl (PO.pickT (v := .bool true) (congrArg Value.bool (decide_eq_true h_17)) rfl) ?_
          refine JL.nil ?_
          refine JQ.seq ?_
          refine JC.condT (congrArg Value.bool rfl) ?_
          refine JC.seq ?_
          refine JC.region ?_
          refine JL.pure rfl (PO.assign (v := str []) rfl) ?_
          refine JL.pure rfl (PO.assign (v := .bool false) rfl) ?_
          refine JL.nil ?_
          refine JQ.seq ?_
          refine JC.ret ?_
          refine JQ.thenRet ?_
          refine JQ.blockRet ?_
          refine JQ.thenRet ?_
          refine JQ.thenRet ?_
          refine JQ.blockRet ?_
          refine JQ.thenRet ?_
          refine Done.two (.inl rfl) rfl (RV.tmp (v := str []) rfl) (RV.tmp (v := .bool false) rfl) (List.nil_sublist _) ?_
          exact ⟨[], false, (by first | exact unhex_bad (by omega) | exact unhex_some (by rw [List.drop_of_length_le (by omega)] at hR; rw [← hR]; simp [unhexL]) (by assumption) | exact unhex_none (by rw [unhexL_step (by omega)] at hR; simp only [e_11, e_15] at hR; rw [if_pos (by omega)] at hR; exact hR.symm)), (by first | omega | (simp only [List.length_append, List.length_cons, List.length_nil, List.length_take, List.length_drop]; omega)), rfl, rfl⟩
        · skip
          refine JL.guardOn rfl rfl rfl (congrArg Value.bool (decide_eq_false h_17)) (JO.ofLO (LO.pure (PO.move (v := .int .i64 n_14) rfl))) ?_
          rintro _ _ ⟨rfl, rfl⟩
          refine JL.guardOn rfl rfl rfl (congrArg Value.bool (decide_eq_false h_17)) (JO.ofLO (LO.pure (PO.lss rfl rfl))) ?_
          rintro _ _ ⟨rfl, rfl⟩
          refine JL.pure rfl (PO.pickF (v := .bool (decide (n_14 < 0))) (congrArg Value.bool (decide_eq_false h_17)) rfl) ?_
          refine JL.nil ?_
          refine JQ.seq ?_
          by_cases h_18 : n_14 < 0
          · skip
            refine JC.condT (congrArg Value.bool (decide_eq_true h_18)) ?_
            refine JC.seq ?_
            refine JC.region ?_
            refine JL.pure rfl (PO.assign (v := str []) rfl) ?_
            refine JL.pure rfl (PO.assign (v := .bool false) rfl) ?_
            refine JL.nil ?_
            refine JQ.seq ?_
            refine JC.ret ?_
            refine JQ.thenRet ?_
            refine JQ.blockRet ?_
            refine JQ.thenRet ?_
            refine JQ.thenRet ?_
            refine JQ.blockRet ?_
            refine JQ.thenRet ?_
            refine Done.two (.inl rfl) rfl (RV.tmp (v := str []) rfl) (RV.tmp (v := .bool false) rfl) (List.nil_sublist _) ?_
            exact ⟨[], false, (by first | exact unhex_bad (by omega) | exact unhex_some (by rw [List.drop_of_length_le (by omega)] at hR; rw [← hR]; simp [unhexL]) (by assumption) | exact unhex_none (by rw [unhexL_step (by omega)] at hR; simp only [e_11, e_15] at hR; rw [if_pos (by omega)] at hR; exact hR.symm)), (by first | omega | (simp only [List.length_append, List.length_cons, List.length_nil, List.length_take, List.length_drop]; omega)), rfl, rfl⟩
          · skip
            refine JC.condF (congrArg Value.bool (decide_eq_false h_18)) ?_
            refine JC.skip ?_
            refine JQ.seq ?_
            refine JC.region ?_
            refine JL.pure rfl (PO.move (v := .slice oa o_.length oc) he_6) ?_
            refine JL.pure rfl (PO.move (v := .int .i64 n_10) rfl) ?_
            refine JL.pure rfl (PO.mul (c := 16 * n_10) rfl rfl (wr (by omega))) ?_
            refine JL.pure rfl (PO.move (v := .int .i64 n_14) rfl) ?_
            refine JL.pure rfl (PO.add (c := (16 * n_10) + n_14) rfl rfl (wr (by omega))) ?_
            refine JL.pure rfl (PO.convI (c := (((UInt8.ofNat ((16 * n_10) + n_14).toNat).toNat : Nat) : Int)) Tryz.underlying3 Tryz.underlying5 rfl (wr8u (by omega) rfl)) ?_
            refine JL.op rfl (JO.buildSlice (ps := [(0, .int .u8 (((UInt8.ofNat ((16 * n_10) + n_14).toNat).toNat : Nat) : Int))]) (cur := #[.int .u8 (((UInt8.ofNat ((16 * n_10) + n_14).toNat).toNat : Nat) : Int)]) Tryz.underlying39 Tryz.sizeOf5 Tryz.zeroValue5 rfl (by kernel_rfl) (by decide) (by decide)) ?_
            rintro _ _ ⟨a_19, rfl, rfl⟩
            refine JL.op rfl (JO.append' 1 (q := 1) (news := ([UInt8.ofNat ((16 * n_10) + n_14).toNat] : List UInt8).map encB) (n' := (o_ ++ ([UInt8.ofNat ((16 * n_10) + n_14).toNat] : List UInt8)).length) (cs' := (o_ ++ ([UInt8.ofNat ((16 * n_10) + n_14).toNat] : List UInt8)).map encB) rfl Tryz.underlying39 Tryz.underlying39 Tryz.typeInfo5 rfl (by' := 1) rfl rfl rfl rfl rfl (fun w hw => Src.sees (hw.see (i := 0) rfl) (oneB _)) (by (try simp only [List.length_append, List.length_cons, List.length_nil, List.length_take, List.length_drop]); omega) (by (try simp only [List.length_append, List.length_cons, List.length_nil, List.length_take, List.length_drop]); omega) (by simp only [List.length_append, List.length_take, List.length_drop, List.length_cons, List.length_nil] <;> first | rfl | omega) (by simp only [List.map_append])) ?_
            rintro _ _ ⟨a_20, c_21, rfl, rfl⟩
            refine JL.pure rfl (PO.assign (v := .slice a_20 ((o_ ++ ([UInt8.ofNat ((16 * n_10) + n_14).toNat] : List UInt8)).length) c_21) rfl) ?_
            refine JL.nil ?_
            refine JQ.blockN ?_
            refine JQ.seq ?_
            refine JC.region ?_
            refine JL.pure rfl (PO.move (v := .int .i64 ((j : Nat) : Int)) he_7) ?_
            refine JL.pure rfl (PO.add (c := ((j + 2 : Nat) : Int)) rfl rfl (wr (by omega))) ?_
            refine JL.pure rfl (PO.assign (v := .int .i64 ((j + 2 : Nat) : Int)) rfl) ?_
            refine JL.nil ?_
            refine JQ.pick [1] (A := [Res.row (.slice a_20 ((o_ ++ ([UInt8.ofNat ((16 * n_10) + n_14).toNat] : List UInt8)).length) c_21) 5 1 ((o_ ++ ([UInt8.ofNat ((16 * n_10) + n_14).toNat] : List UInt8)).length) ((o_ ++ ([UInt8.ofNat ((16 * n_10) + n_14).toNat] : List UInt8)).map encB)]) rfl ?_
            refine JQ.again (t.length - (j + 2)) (by omega) ⟨j + 2, a_20, c_21, (o_ ++ ([UInt8.ofNat ((16 * n_10) + n_14).toNat] : List UInt8)), by omega, by omega, (by simp only [List.length_append, List.length_cons, List.length_nil]; omega), (by rw [unhexL_step (by omega)] at hR; simp only [e_11, e_15] at hR; rw [if_neg (by omega)] at hR; exact hR), he_5, rfl, rfl, rfl, rfl⟩
      · skip
        refine JC.condF (congrArg Value.bool (decide_eq_false h_8)) ?_
        refine JC.exit ?_
        refine JQ.thenExit ?_
        refine JQ.thenExit ?_
        refine JQ.blockE ?_
        refine JQ.seq ?_
        refine JC.seq ?_
        refine JC.region ?_
        refine JL.pure rfl (PO.move (v := .slice oa o_.length oc) he_6) ?_
        refine JL.ld rfl (LO.toStr 0 o_ rfl Tryz.underlying39 Tryz.underlying5 Tryz.underlying9 rfl rfl) ?_
        refine JL.pure rfl (PO.assign (v := str o_) rfl) ?_
        refine JL.pure rfl (PO.assign (v := .bool true) rfl) ?_
        refine JL.nil ?_
        refine JQ.seq ?_
        refine JC.ret ?_
        refine Done.two (.inl rfl) rfl (RV.tmp (v := str o_) rfl) (RV.tmp (v := .bool true) rfl) (List.nil_sublist _) ?_
        exact ⟨o_, true, (unhex_some (by rw [List.drop_of_length_le (by omega)] at hR; exact hR.symm.trans (by simp [unhexL])) (by omega)), (by first | omega | (simp only [List.length_append, List.length_cons, List.length_nil, List.length_take, List.length_drop]; omega)), rfl, rfl⟩
    · skip
      refine JC.condT (congrArg Value.bool (congrArg Bool.not (decide_eq_false h_2))) ?_
      refine JC.seq ?_
      refine JC.region ?_
      refine JL.pure rfl (PO.assign (v := str []) rfl) ?_
      refine JL.pure rfl (PO.assign (v := .bool false) rfl) ?_
      refine JL.nil ?_
      refine JQ.seq ?_
      refine JC.ret ?_
      refine JQ.thenRet ?_
      refine Done.two (.inl rfl) rfl (RV.tmp (v := str []) rfl) (RV.tmp (v := .bool false) rfl) (List.nil_sublist _) ?_
      exact ⟨[], false, (by first | exact unhex_bad (by omega) | exact unhex_some (by rw [List.drop_of_length_le (by omega)] at hR; rw [← hR]; simp [unhexL]) (by assumption) | exact unhex_none (by rw [unhexL_step (by omega)] at hR; simp only [if_true] at hR; rw [if_pos (by omega)] at hR; exact hR.symm)), (by first | omega | (simp only [List.length_append, List.length_cons, List.length_nil, List.length_take, List.length_drop]; omega)), rfl, rfl⟩

end Go.Proofs.YtjncpgcccgdeiaaGreatDoor

set_option linter.unusedSimpArgs false
set_option linter.unusedVariables false
set_option linter.unnecessarySimpa false
namespace Go.Proofs.YtjncpgcccgdeiaaGreatDoor
open Go Go.RowKit
/-- The parts of a text between signs. -/
def splitB (c : UInt8) : Str → List Str
  | [] => [[]]
  | x :: s => if x = c then [] :: splitB c s else (x :: (splitB c s).headD []) :: (splitB c s).tail
theorem splitB_ne (c : UInt8) : ∀ s, splitB c s ≠ []
  | [] => by simp [splitB]
  | x :: s => by unfold splitB; split <;> simp
theorem splitB_at (c : UInt8) : ∀ (a s : Str), (∀ x ∈ a, x ≠ c) → splitB c (a ++ c :: s) = a :: splitB c s
  | [], s, _ => by simp [splitB]
  | x :: a, s, h => by
    have ih := splitB_at c a s fun y hy => h y (List.mem_cons_of_mem _ hy)
    rw [List.cons_append, splitB, if_neg (h x (List.mem_cons_self ..)), ih]
    rfl
theorem splitB_one (c : UInt8) : ∀ a : Str, (∀ x ∈ a, x ≠ c) → splitB c a = [a]
  | [], _ => rfl
  | x :: a, h => by
    have ih := splitB_one c a fun y hy => h y (List.mem_cons_of_mem _ hy)
    rw [splitB, if_neg (h x (List.mem_cons_self ..)), ih]
    rfl
/-- What lies before and behind the first sign; all and nothing without one. -/
def cutB (c : UInt8) : Str → Str × Str
  | [] => ([], [])
  | x :: s => if x = c then ([], s) else (x :: (cutB c s).1, (cutB c s).2)
theorem splitB_single (c : UInt8) : ∀ (t q : Str), splitB c t = [q] → t = q
  | [], q, h => by simp only [splitB, List.cons.injEq, and_true] at h; exact h
  | y :: t, q, h => by
    unfold splitB at h
    split at h
    · simp only [List.cons.injEq] at h; exact absurd h.2 (splitB_ne c t)
    · simp only [List.cons.injEq] at h
      obtain ⟨rfl, h2⟩ := h
      cases hs : splitB c t with
      | nil => exact absurd hs (splitB_ne c t)
      | cons p r =>
        rw [hs] at h2
        simp only [List.tail_cons] at h2
        subst h2
        rw [splitB_single c t p hs]
        rfl
theorem cutB_two (c : UInt8) : ∀ (w q0 q1 : Str), splitB c w = [q0, q1] → cutB c w = (q0, q1)
  | [], q0, q1, h => by simp [splitB] at h
  | x :: s, q0, q1, h => by
    unfold splitB at h
    unfold cutB
    split at h
    · rename_i hx
      rw [if_pos hx]
      simp only [List.cons.injEq] at h
      obtain ⟨rfl, h⟩ := h
      rw [splitB_single c s q1 h]
    · rename_i hx
      rw [if_neg hx]
      simp only [List.cons.injEq] at h
      obtain ⟨rfl, h2⟩ := h
      cases hs : splitB c s with
      | nil => exact absurd hs (splitB_ne c s)
      | cons p r =>
        rw [hs] at h2
        simp only [List.tail_cons] at h2
        subst h2
        rw [cutB_two c s p q1 hs]
        rfl
theorem drop_no {s : Str} {c : UInt8} {b i : Nat} (hi : i ≤ s.length) (hN : ∀ k, b ≤ k → k < i → s.getD k 0 ≠ c) : ∀ x ∈ (s.drop b).take (i - b), x ≠ c := by
  intro x hx
  obtain ⟨k, hk, rfl⟩ := List.getElem_of_mem hx
  have hk' : k < (s.drop b).length ∧ k < i - b := by rw [List.length_take] at hk; omega
  rw [List.length_drop] at hk'
  have := hN (b + k) (by omega) (by omega)
  rw [List.getD_eq_getElem?_getD, List.getElem?_eq_getElem (by omega)] at this
  simpa using this
theorem split_cut {s : Str} {c : UInt8} {b i : Nat} (hi : i < s.length) (hb : b ≤ i) (hN : ∀ k, b ≤ k → k < i → s.getD k 0 ≠ c) (hc : s.getD i 0 = c) : splitB c (s.drop b) = (s.drop b).take (i - b) :: splitB c (s.drop (i + 1)) := by
  have e : s.drop b = (s.drop b).take (i - b) ++ c :: s.drop (i + 1) := by
    have h1 := (List.take_append_drop (i - b) (s.drop b)).symm
    rw [List.drop_drop, show b + (i - b) = i by omega, drop_at (getD_some (d := 0) hi), hc] at h1
    exact h1
  have h2 := splitB_at c ((s.drop b).take (i - b)) (s.drop (i + 1)) (drop_no (by omega) hN)
  rw [← e] at h2
  exact h2
theorem split_end {s : Str} {c : UInt8} {b : Nat} (hN : ∀ k, b ≤ k → k < s.length → s.getD k 0 ≠ c) : splitB c (s.drop b) = [(s.drop b).take (s.length - b)] := by
  have e : (s.drop b).take (s.length - b) = s.drop b := List.take_of_length_le (by rw [List.length_drop]; omega)
  have h := splitB_one c _ (drop_no (c := c) (b := b) (Nat.le_refl _) hN)
  rw [e] at h ⊢
  exact h
theorem u8_eq {a c : UInt8} (h : ((a.toNat : Nat) : Int) = ((c.toNat : Nat) : Int)) : a = c := UInt8.toNat_inj.1 (by omega)
theorem u8_ne {a c : UInt8} (h : ¬ ((a.toNat : Nat) : Int) = ((c.toNat : Nat) : Int)) : a ≠ c := fun e => h (by rw [e])
/- a record's text -/
def sumF (n : Nat) : Str → Nat
  | [] => n
  | c :: s => sumF ((31 * n + c.toNat) % 9973) s
def byteSum (s : Str) : Nat := sumF 7 s
theorem sumF_lo : ∀ (s : Str) (n : Nat), n ≤ 9972 → sumF n s ≤ 9972
  | [], n, h => h
  | c :: s, n, h => sumF_lo s _ (by omega)
theorem byteSum_lo (s : Str) : byteSum s ≤ 9972 := sumF_lo s 7 (by omega)
theorem sumF_step {s : Str} {n j : Nat} (h : j < s.length) : sumF n (s.drop j) = sumF ((31 * n + (s.getD j 0).toNat) % 9973) (s.drop (j + 1)) := by
  rw [drop_at (getD_some (d := 0) h), sumF]
theorem keyOk_len {k : Str} (h : keyOk k = true) : k.length ≤ 40 := by
  simp only [keyOk, Bool.and_eq_true, decide_eq_true_eq] at h
  exact h.2
def recRow (c : Cell) : Str := [32] ++ hexB c.1 ++ [61] ++ hexB c.2
def recBad (b : Str) (c : Cell) : Bool := !keyOk c.1 || (decide ((60 : Int) < ((c.2.length : Nat) : Int)) || decide ((4000 : Int) < ((b.length : Nat) : Int)))
def recEnd (b : Str) : Str := if (4000 : Int) < (((b ++ [32, 35] ++ dec ((byteSum b : Nat) : Int) ++ [10]).length : Nat) : Int) then [] else b ++ [32, 35] ++ dec ((byteSum b : Nat) : Int) ++ [10]
def recGo : Str → List Cell → Str
  | b, [] => recEnd b
  | b, c :: l => if recBad b c = true then [] else recGo (b ++ recRow c) l
def recText (seq : Int) (l : List Cell) : Str := if within 1 seq 100000 = true then recGo (dec seq) l else []
theorem recGo_step {l : List Cell} {b : Str} {j : Nat} (h : j < l.length) : recGo b (l.drop j) = if recBad b (l.getD j c0) = true then [] else recGo (b ++ recRow (l.getD j c0)) (l.drop (j + 1)) := by
  rw [drop_at (getD_some (d := c0) h), recGo]
theorem recGo_some : ∀ (l : List Cell) (b : Str), recGo b l ≠ [] → ∃ b', b' = b ++ l.flatMap recRow ∧ recGo b l = b' ++ [32, 35] ++ dec ((byteSum b' : Nat) : Int) ++ [10]
  | [], b, h => by
    refine ⟨b, by simp, ?_⟩
    unfold recGo recEnd at *
    split at h
    · exact absurd rfl h
    · rename_i hn; rw [if_neg hn]
  | c :: l, b, h => by
    unfold recGo at h ⊢
    split at h
    · exact absurd rfl h
    · rename_i hn
      rw [if_neg hn]
      obtain ⟨b', e, h2⟩ := recGo_some l _ h
      exact ⟨b', by rw [e, List.flatMap_cons, List.append_assoc], h2⟩
theorem hexFig_ne (x : Nat) (h : x < 16) : hexFig x ≠ 32 ∧ hexFig x ≠ 61 ∧ hexFig x ≠ 10 := by
  have : ∀ k : Fin 16, hexFig k.val ≠ 32 ∧ hexFig k.val ≠ 61 ∧ hexFig k.val ≠ 10 := by decide
  exact this ⟨x, h⟩
theorem hexB_ne : ∀ (s : Str) (x : UInt8), x ∈ hexB s → x ≠ 32 ∧ x ≠ 61 ∧ x ≠ 10
  | [], x, h => by cases h
  | c :: s, x, h => by
    have hc := c.toNat_lt
    simp only [hexB, List.mem_cons] at h
    rcases h with rfl | rfl | h
    · exact hexFig_ne _ (by omega)
    · exact hexFig_ne _ (by omega)
    · exact hexB_ne s x h
theorem split_rows : ∀ (l : List Cell) (a e : Str), (∀ x ∈ a, x ≠ 32) → (∀ x ∈ e, x ≠ 32) → splitB 32 (a ++ l.flatMap recRow ++ 32 :: e) = a :: (l.map fun c => hexB c.1 ++ [61] ++ hexB c.2) ++ [e]
  | [], a, e, ha, he => by
    rw [List.flatMap_nil, List.append_nil, splitB_at 32 a e ha, splitB_one 32 e he]
    rfl
  | c :: l, a, e, ha, he => by
    have ih := split_rows l (hexB c.1 ++ [61] ++ hexB c.2) e (fun x hx => by
      simp only [List.mem_append, List.mem_singleton] at hx
      rcases hx with (hx | rfl) | hx
      · exact (hexB_ne _ _ hx).1
      · decide
      · exact (hexB_ne _ _ hx).1) he
    have : a ++ (c :: l).flatMap recRow ++ 32 :: e = a ++ 32 :: ((hexB c.1 ++ [61] ++ hexB c.2) ++ l.flatMap recRow ++ 32 :: e) := by
      simp only [List.flatMap_cons, recRow, List.append_assoc, List.cons_append, List.nil_append, List.singleton_append]
    rw [this, splitB_at 32 a _ ha, ih]
    rfl
theorem split_mid (c : Cell) : splitB 61 (hexB c.1 ++ [61] ++ hexB c.2) = [hexB c.1, hexB c.2] := by
  rw [List.append_assoc, List.singleton_append, splitB_at 61 _ _ fun x hx => (hexB_ne _ _ hx).2.1, splitB_one 61 _ fun x hx => (hexB_ne _ _ hx).2.1]
theorem digits_no : ∀ (f k : Nat), k ≤ f → ∀ x ∈ Lib.decDigits k, 48 ≤ x.toNat ∧ x.toNat ≤ 57 := by
  have fig : ∀ k, k < 10 → 48 ≤ (UInt8.ofNat (48 + k)).toNat ∧ (UInt8.ofNat (48 + k)).toNat ≤ 57 := fun k hk => by
    have : ∀ q : Fin 10, 48 ≤ (UInt8.ofNat (48 + q.val)).toNat ∧ (UInt8.ofNat (48 + q.val)).toNat ≤ 57 := by decide
    exact this ⟨k, hk⟩
  intro f
  induction f with
  | zero =>
    intro k hk x hx
    rw [Lib.decDigits, dif_pos (by omega), List.mem_singleton] at hx
    subst hx
    exact fig k (by omega)
  | succ f ih =>
    intro k hk x hx
    rw [Lib.decDigits] at hx
    split at hx
    · rw [List.mem_singleton] at hx
      subst hx
      exact fig k (by omega)
    · rcases List.mem_append.1 hx with hx | hx
      · exact ih (k / 10) (by omega) x hx
      · rw [List.mem_singleton] at hx
        subst hx
        exact fig (k % 10) (by omega)
theorem dec_no32 {n : Int} (h : 0 ≤ n) : ∀ x ∈ dec n, x ≠ 32 := by
  intro x hx
  unfold dec Lib.itoa at hx
  rw [if_neg (by omega)] at hx
  have := digits_no _ _ (Nat.le_refl _) x hx
  rintro rfl
  revert this
  decide
/- reading a record -/
def readWord (w : Str) : Cell := ((unhex (cutB 61 w).1).1, (unhex (cutB 61 w).2).1)
def midsOf (p : List Str) : List Str := (p.drop 1).take (p.length - 2)
def readI (t : Str) : Int × List Cell × Bool :=
  if (4000 : Int) < ((t.length : Nat) : Int) then (0, [], false)
  else if t = [] ∨ recText (readDec ((splitB 32 t).getD 0 [])).1 ((midsOf (splitB 32 t)).map readWord) ≠ t then (0, [], false)
  else ((readDec ((splitB 32 t).getD 0 [])).1, (midsOf (splitB 32 t)).map readWord, true)
def readS (t : Str) : Int × List Cell × Bool :=
  if (4000 : Int) < ((t.length : Nat) : Int) then (0, [], false)
  else if ∃ w ∈ midsOf (splitB 32 t), (splitB 61 w).length ≠ 2 then (0, [], false)
  else if (readDec ((splitB 32 t).getD 0 [])).2 = false ∨ recText (readDec ((splitB 32 t).getD 0 [])).1 ((midsOf (splitB 32 t)).map readWord) = [] ∨ recText (readDec ((splitB 32 t).getD 0 [])).1 ((midsOf (splitB 32 t)).map readWord) ≠ t then (0, [], false)
  else ((readDec ((splitB 32 t).getD 0 [])).1, (midsOf (splitB 32 t)).map readWord, true)
theorem mids_rec {seq : Int} {l : List Cell} {t : Str} (h : recText seq l = t) (ht : t ≠ []) : midsOf (splitB 32 t) = l.map fun c => hexB c.1 ++ [61] ++ hexB c.2 := by
  unfold recText at h
  split at h
  · rename_i hw
    have hw := (show 1 ≤ seq ∧ seq ≤ 100000 by simpa only [within, Bool.and_eq_true, decide_eq_true_eq] using hw)
    obtain ⟨b, hb, he⟩ := recGo_some l (dec seq) (by rw [h]; exact ht)
    have hs := byteSum_lo b
    have e : t = dec seq ++ l.flatMap recRow ++ 32 :: (35 :: dec ((byteSum b : Nat) : Int) ++ [10]) := by
      rw [← h, he, hb]
      simp only [List.append_assoc, List.cons_append, List.nil_append]
    rw [e, split_rows l (dec seq) _ (dec_no32 (by omega)) (fun x hx => by
      simp only [List.cons_append, List.mem_cons, List.mem_append, List.not_mem_nil, or_false] at hx
      rcases hx with rfl | hx | rfl
      · decide
      · exact dec_no32 (Int.natCast_nonneg _) x hx
      · decide)]
    unfold midsOf
    simp only [List.cons_append, List.drop_succ_cons, List.drop_zero, List.length_cons, List.length_append, List.length_map, List.length_nil]
    rw [show l.length + (0 + 1) + 1 - 2 = (l.map fun c => hexB c.1 ++ [61] ++ hexB c.2).length by rw [List.length_map]; omega]
    rw [List.take_append_of_le_length (Nat.le_refl _), List.take_length]
  · exact absurd h.symm ht
theorem readS_eq (t : Str) : readS t = readI t := by
  unfold readS readI
  split
  · rfl
  · by_cases hm : ∃ w ∈ midsOf (splitB 32 t), (splitB 61 w).length ≠ 2
    · rw [if_pos hm]
      symm
      refine if_pos ?_
      by_cases ht : t = []
      · exact .inl ht
      · refine .inr fun hr => ?_
        obtain ⟨w, hw, h2⟩ := hm
        rw [mids_rec hr ht] at hw
        obtain ⟨c, _, rfl⟩ := List.mem_map.1 hw
        rw [split_mid c] at h2
        exact h2 rfl
    · rw [if_neg hm]
      by_cases hr : recText (readDec ((splitB 32 t).getD 0 [])).1 ((midsOf (splitB 32 t)).map readWord) = t
      · by_cases ht : t = []
        · rw [if_pos (.inr (.inl (hr.trans ht))), if_pos (.inl ht)]
        · rw [if_neg (c := t = [] ∨ _) (by rintro (h | h); exact ht h; exact h hr)]
          refine if_neg ?_
          rintro (h | h | h)
          · have h0 := readDec_no h
            rw [h0] at hr
            exact ht hr.symm
          · exact ht (hr.symm.trans h)
          · exact h hr
      · rw [if_pos (.inr (.inr hr)), if_pos (.inr hr)]
theorem splitB_len (c : UInt8) : ∀ s : Str, (splitB c s).length ≤ s.length + 1 ∧ 1 ≤ (splitB c s).length
  | [] => ⟨by simp [splitB], by simp [splitB]⟩
  | x :: s => by
    have ih := splitB_len c s
    unfold splitB
    split
    · simp only [List.length_cons]; omega
    · simp only [List.length_cons, List.length_tail]; omega
theorem splitB_mem (c : UInt8) : ∀ (s x : Str), x ∈ splitB c s → x.length ≤ s.length
  | [], x, h => by simp [splitB] at h; simp [h]
  | y :: s, x, h => by
    unfold splitB at h
    split at h
    · rcases List.mem_cons.1 h with rfl | h
      · simp
      · have := splitB_mem c s x h; simp only [List.length_cons]; omega
    · rcases List.mem_cons.1 h with rfl | h
      · cases hs : splitB c s with
        | nil => simp
        | cons p r =>
          have := splitB_mem c s p (by rw [hs]; exact List.mem_cons_self ..)
          simp only [List.headD_cons, List.length_cons]; omega
      · have := splitB_mem c s x (List.mem_of_mem_tail h); simp only [List.length_cons]; omega
theorem splitB_get (c : UInt8) (s : Str) (k : Nat) : ((splitB c s).getD k []).length ≤ s.length := by
  by_cases h : k < (splitB c s).length
  · exact splitB_mem c s _ (getD_mem h)
  · rw [List.getD_eq_getElem?_getD, List.getElem?_eq_none (by omega)]; exact Nat.zero_le _
theorem readWord_two {w : Str} (h : (splitB 61 w).length = 2) : readWord w = ((unhex ((splitB 61 w).getD 0 [])).1, (unhex ((splitB 61 w).getD 1 [])).1) := by
  match hs : splitB 61 w, h with
  | [q0, q1], _ => rw [readWord, cutB_two 61 w q0 q1 hs]; rfl
theorem okC_read {l : List Str} (h : l.length ≤ 1000000) : okC (l.map readWord) := ⟨by rw [List.length_map]; omega, fun j hj => by
  rw [List.length_map] at hj
  rw [List.getD_eq_getElem?_getD, List.getElem?_eq_getElem (by rw [List.length_map]; exact hj)]
  simp only [List.getElem_map, Option.getD_some, readWord]
  have h1 := unhex_len (cutB 61 l[j]).1
  have h2 := unhex_len (cutB 61 l[j]).2
  exact ⟨by omega, by omega⟩⟩
theorem readS_long {t : Str} (h : (4000 : Int) < ((t.length : Nat) : Int)) : readS t = (0, [], false) := if_pos h
theorem mids_get {p : List Str} {k : Nat} (h1 : 1 ≤ k) (h2 : k + 1 < p.length) : p.getD k [] ∈ midsOf p := by
  unfold midsOf
  rw [List.mem_iff_getElem]
  refine ⟨k - 1, by rw [List.length_take, List.length_drop]; omega, ?_⟩
  rw [List.getElem_take, List.getElem_drop, List.getD_eq_getElem?_getD, List.getElem?_eq_getElem (by omega)]
  simp only [Option.getD_some]
  congr 1
  omega
theorem readS_mid {t : Str} {i : Nat} (h4 : ¬ (4000 : Int) < ((t.length : Nat) : Int)) (h1 : 1 ≤ i) (h2 : i + 1 < (splitB 32 t).length) (h : ¬ (splitB 61 ((splitB 32 t).getD i [])).length = 2) : readS t = (0, [], false) := by
  unfold readS
  rw [if_neg h4, if_pos ⟨_, mids_get h1 h2, h⟩]
theorem readS_end {t : Str} {i : Nat} (h4 : ¬ (4000 : Int) < ((t.length : Nat) : Int)) (hi : i - 1 = (splitB 32 t).length - 2) (hN : ∀ k, 1 ≤ k → k < i → (splitB 61 ((splitB 32 t).getD k [])).length = 2) :
    readS t = if (readDec ((splitB 32 t).getD 0 [])).2 = false ∨ recText (readDec ((splitB 32 t).getD 0 [])).1 ((((splitB 32 t).drop 1).take (i - 1)).map readWord) = [] ∨ recText (readDec ((splitB 32 t).getD 0 [])).1 ((((splitB 32 t).drop 1).take (i - 1)).map readWord) ≠ t then (0, [], false)
      else ((readDec ((splitB 32 t).getD 0 [])).1, (((splitB 32 t).drop 1).take (i - 1)).map readWord, true) := by
  unfold readS
  rw [if_neg h4, hi, if_neg]
  · rfl
  · rintro ⟨w, hw, h⟩
    unfold midsOf at hw
    obtain ⟨k, hk, rfl⟩ := List.getElem_of_mem hw
    rw [List.length_take, List.length_drop] at hk
    have := hN (k + 1) (by omega) (by omega)
    rw [List.getD_eq_getElem?_getD, List.getElem?_eq_getElem (by omega)] at this
    apply h
    rw [List.getElem_take, List.getElem_drop]
    simpa [Nat.add_comm] using this
theorem mids_step {p : List Str} {i : Nat} (h1 : 1 ≤ i) (h2 : i + 1 < p.length) : ((p.drop 1).take (i + 1 - 1)).map readWord = ((p.drop 1).take (i - 1)).map readWord ++ [readWord (p.getD i [])] := by
  rw [show i + 1 - 1 = (i - 1) + 1 by omega, take_at (v := p.getD i []) ?_, List.map_append]
  · rfl
  · rw [List.getElem?_drop, show 1 + (i - 1) = i by omega, List.getD_eq_getElem?_getD, List.getElem?_eq_getElem (by omega)]
    rfl
/- lines -/
def linesG (b : Str) : Str → List Str
  | [] => []
  | c :: s => if c = 10 then (b ++ [c]) :: linesG [] s else linesG (b ++ [c]) s
def linesOf (t : Str) : List Str := linesG [] t
theorem front_snoc {s : Str} {b i : Nat} (hi : i < s.length) (hb : b ≤ i) : (s.drop b).take (i + 1 - b) = (s.drop b).take (i - b) ++ [s.getD i 0] := by
  rw [show i + 1 - b = (i - b) + 1 by omega]
  refine take_at ?_
  rw [List.getElem?_drop, show b + (i - b) = i by omega]
  exact getD_some hi
theorem lines_step {s : Str} {b i : Nat} (hi : i < s.length) (hb : b ≤ i) : linesG ((s.drop b).take (i - b)) (s.drop i) = if s.getD i 0 = 10 then (s.drop b).take (i + 1 - b) :: linesG ((s.drop (i + 1)).take (i + 1 - (i + 1))) (s.drop (i + 1)) else linesG ((s.drop b).take (i + 1 - b)) (s.drop (i + 1)) := by
  conv => lhs; rw [drop_at (getD_some (d := 0) hi), linesG]
  rw [front_snoc hi hb, Nat.sub_self, List.take_zero]
theorem u8_ten {a : UInt8} (h : ((a.toNat : Nat) : Int) = 10) : a = 10 := u8_eq (c := 10) h
theorem u8_not10 {a : UInt8} (h : ¬ ((a.toNat : Nat) : Int) = 10) : ¬ a = 10 := fun e => h (by rw [e]; rfl)
end Go.Proofs.YtjncpgcccgdeiaaGreatDoor

set_option linter.unusedSimpArgs false
set_option linter.unusedVariables false
set_option linter.unnecessarySimpa false
namespace Go.Proofs.YtjncpgcccgdeiaaGreatDoor
open Go Go.RowKit
section
variable {P : Program} {ops : Array Oper} {Q : Exit → Act → World → Prop} {n : Nat} {w0 w : World} {D : List Nat} {L : List Res} {e : Env}
variable {d : Option Tmp} {ty : TypeId} {pos : String} {aft : Array Edge} {gd : Option (Nat × Bool)}
theorem Src.str {P : Program} {w : World} (s : Str) : Src P w 1 s.length (str s) (s.map encB) := by
  have hz : (ByteArray.mk s.toArray).size = s.length := by simp [ByteArray.size]
  refine ⟨fun w' _ => ?_, ?_, by simp, ?_⟩
  · have e := Lib.run_firstCells_string (P := P) w' 1 (ByteArray.mk s.toArray)
    rw [hz] at e
    refine e.trans ?_
    rfl
  · show (pure (ByteArray.mk s.toArray).size : Sem Nat).run P w = _
    rw [hz]
    rfl
  · intro u hu
    obtain ⟨c, _, rfl⟩ := List.mem_map.1 hu
    rfl
theorem JO.appendS (i : Nat) {t u el k m c q by' : Nat} {x y : Operand} {vy : Value} {a : Option Addr} {cs news : List Value} {ti : TypeInfo} {z : Value}
    (hL : L[i]? = some (.row (.slice a m c) el k m cs)) (ht : P.underlying t = some (.slice el)) (hu : P.underlying u = some .string)
    (hti : ∀ w, (typeInfo el).run P w = .ok ti w) (hk : ti.size = k) (hby : ti.bytes = by') (hz : ti.zero = some z) (hzc : z.cells.size = k)
    (hx : rd n e x = .slice a m c) (hy : rd n e y = vy) (hsrc : ∀ w, St w0 D L w → Src P w k q vy news) (hb : (m + q) * by' ≤ 140737488355328) (hmax : m + q ≤ 9223372036854775807) :
    JO P n w0 D L e ⟨d, .call ⟨.builtin .append, #[x, y], #[t, u]⟩, ty, pos, aft, gd⟩ (fun v L' => ∃ a' c', v = .slice a' (m + q) c' ∧ L' = L.set i (.row (.slice a' (m + q) c') el k (m + q) (cs ++ news))) := JO.ofRun fun w hw => by
  have hrow := hw.get hL
  obtain ⟨hnf, hlen, hnl, hone⟩ := hsrc w hw
  have hnews := hnf w rfl
  have hnewsD : (Builtin.firstCells k q vy).run P w.drew = .ok news.toArray w.drew := hnf w.drew rfl
  have h63 : ¬ (9223372036854775807 < ((m : Int) + (q : Int))) := by omega
  have hsl : cs.length = m * k := hrow.1
  by_cases hroom : m + q ≤ c
  · rcases hrow.2 with ⟨hv, h0⟩ | ⟨g, cap, cur, hv, hg0, hg, h1, h2, h3, h4⟩
    · simp only [Value.slice.injEq] at hv
      obtain ⟨rfl, rfl, rfl⟩ := hv
      have hq : q = 0 := by omega
      subst hq
      have hn0 : news = [] := by simpa using hnl
      subst hn0
      refine ⟨_, _, w, ?_, ⟨none, 0, rfl, rfl⟩, ?_⟩
      · simp [execOp, resolve, invoke, builtin, hx, hy, Builtin.append_, run_underlying ht, run_underlying hu, sizeOf, hti, hk, hlen, hnews]
      · have : L.set i (.row (.slice none (0 + 0) 0) el k (0 + 0) (cs ++ [])) = L := by
          rw [List.append_nil]
          exact List.ext_getElem? fun j => by
            rw [List.getElem?_set]
            split
            · rename_i hij; subst hij; split <;> simp_all
            · rfl
        rw [this]; exact hw
    · simp only [Value.slice.injEq] at hv
      obtain ⟨rfl, _, rfl⟩ := hv
      have hfit : m * k + 0 + news.length ≤ cur.size := by
        refine Nat.le_trans ?_ h3
        rw [hnl, Nat.add_zero, ← Nat.add_mul]; exact Nat.mul_le_mul_right _ hroom
      have hst := run_storeCells_R P g (m * k) el news 0 cur w hg hfit hone
      simp only [Nat.add_zero] at hst
      refine ⟨_, _, w.setRow g (cur.toList.take (m * k) ++ news ++ cur.toList.drop (m * k + news.length)).toArray, ?_, ⟨some ⟨g, 0, none⟩, c, rfl, rfl⟩, ?_⟩
      · simp [execOp, resolve, invoke, builtin, hx, hy, Builtin.append_, run_underlying ht, run_underlying hu, sizeOf, hti, hk, hlen, hnews, hroom, add_lit, hst]
      · refine hw.turn1 hL rfl rfl rfl (by simp) (fun q' _ hq' => setRow_other w g q' _ (by simpa [Res.ids, Value.ownBlock] using hq')) ?_ (by simp [Res.ids, Value.ownBlock]) (fun q' hq' => .inl (by simpa [Res.ids, Value.ownBlock] using hq'))
        refine ⟨by rw [List.length_append, hsl, hnl, Nat.add_mul], .inr ⟨g, c, _, rfl, hg0, hg.setRow (by simp only [List.size_toArray, List.length_append, List.length_take, List.length_drop, Array.length_toList]; omega), hroom, h2, ?_, ?_⟩⟩
        · simp only [List.size_toArray, List.length_append, List.length_take, List.length_drop, Array.length_toList]
          omega
        · rw [h4, List.append_assoc, ← List.append_assoc cs]
          rw [List.take_append_of_le_length (by rw [List.length_append, hsl, hnl, Nat.add_mul]; exact Nat.le_refl _)]
          exact List.take_of_length_le (by rw [List.length_append, hsl, hnl, Nat.add_mul]; exact Nat.le_refl _)
  · have hnr : ¬ (m + q ≤ c) := hroom
    have h48 : ¬ (281474976710656 < Builtin.nextslicecap (m + q) c * by') := by
      have := growslice_fits (need := m + q) (old := c) (bytes := by') (by omega) hb
      omega
    have hold : (Builtin.firstCells k m (.slice a m c)).run P w.drew = .ok cs.toArray w.drew := by
      rcases hrow.2 with ⟨hv, h0⟩ | ⟨g, cap, cur, hv, hg0, hg, h1, h2, h3, h4⟩
      · simp only [Value.slice.injEq] at hv
        obtain ⟨rfl, rfl, rfl⟩ := hv
        simp only [Nat.zero_mul, List.length_eq_zero_iff] at hsl
        subst hsl
        simp [Builtin.firstCells]
      · simp only [Value.slice.injEq] at hv
        obtain ⟨rfl, _, rfl⟩ := hv
        refine run_firstCells_some w.drew k m ⟨g, 0, none⟩ m c cs hsl fun j v hj => ?_
        obtain ⟨g', hg', hc'⟩ := row_cell hrow hj
        simp only [Option.some.injEq, Addr.mk.injEq, and_true] at hg'
        rw [add_lit, Nat.zero_add, hg', World.cell?_drew]
        exact hc'
    have hgc := grownCap_ge w (m + q) c el
    have hgm := grownCap_le_maxLen w (m + q) c el (by unfold maxLen; omega)
    have hrest : (Builtin.zeroCells z.cells (grownCap w (m + q) c el - (m + q))).size = (grownCap w (m + q) c el - (m + q)) * k := by rw [size_zeroCells, hzc]
    have hst := (hw.drew).turn (A := [.row (.slice a m c) el k m cs]) (F := L.eraseIdx i)
      (A' := [.row (.slice (some ⟨w.heap.size, 0, none⟩) (m + q) (grownCap w (m + q) c el)) el k (m + q) (cs ++ news)])
      (w' := w.drew.alloc (.cells (cs.toArray ++ news.toArray ++ Builtin.zeroCells z.cells (grownCap w (m + q) c el - (m + q))) el))
      (perm_set i _ (.row (.slice a m c) el k m cs) hL).1 rfl rfl rfl (by simp) (fun q' hq' _ => Below.heap_alloc _ _ _ hq') (by
        intro r hr
        simp only [List.mem_singleton] at hr
        subst hr
        refine ⟨by rw [List.length_append, hsl, hnl, Nat.add_mul], .inr ⟨w.heap.size, _, _, rfl, Nat.zero_le _, CellsAt.new w.drew _ _, hgc, hgm, ?_, ?_⟩⟩
        · refine Nat.le_of_eq (Eq.symm ?_)
          simp only [Array.size_append, List.size_toArray, hsl, hnl, hrest]
          rw [← Nat.add_mul, ← Nat.add_mul]
          congr 1
          omega
        · simp only [Array.toList_append]
          rw [List.take_append_of_le_length (by rw [List.length_append, hsl, hnl, Nat.add_mul]; exact Nat.le_refl _)]
          exact List.take_of_length_le (by rw [List.length_append, hsl, hnl, Nat.add_mul]; exact Nat.le_refl _)) (by simp [idsOf, Res.ids, Value.ownBlock]) (by
        intro j hj
        simp only [idsOf, Res.ids, Value.ownBlock, List.flatMap_cons, List.flatMap_nil, List.append_nil, Option.mem_toList, Option.some.injEq] at hj
        exact .inr (by rw [← hj]; exact Nat.le_refl _))
    refine ⟨_, _, _, ?_, ⟨some ⟨w.heap.size, 0, none⟩, grownCap w (m + q) c el, rfl, rfl⟩, hst.perm (perm_set i _ _ hL).2⟩
    have h63' : ¬ (9223372036854775807 < ((m : Int) + (q : Int))) := h63
    simp [execOp, resolve, invoke, builtin, hx, hy, Builtin.append_, run_underlying ht, run_underlying hu, sizeOf, hti, hk, hby, hz, hlen, hnr, h63, h48, Question.forced, hold, hnewsD, newRow, zeroValue, grownCap]
    congr 2
    apply Array.ext'
    simp [List.append_assoc]
theorem JO.appendS' (i : Nat) {t u el k m c q by' n' : Nat} {x y : Operand} {vy : Value} {a : Option Addr} {cs news cs' : List Value} {ti : TypeInfo} {z : Value}
    (hL : L[i]? = some (.row (.slice a m c) el k m cs)) (ht : P.underlying t = some (.slice el)) (hu : P.underlying u = some .string)
    (hti : ∀ w, (typeInfo el).run P w = .ok ti w) (hk : ti.size = k) (hby : ti.bytes = by') (hz : ti.zero = some z) (hzc : z.cells.size = k)
    (hx : rd n e x = .slice a m c) (hy : rd n e y = vy) (hsrc : ∀ w, St w0 D L w → Src P w k q vy news) (hb : (m + q) * by' ≤ 140737488355328) (hmax : m + q ≤ 9223372036854775807) (hn : m + q = n') (hc : cs ++ news = cs') :
    JO P n w0 D L e ⟨d, .call ⟨.builtin .append, #[x, y], #[t, u]⟩, ty, pos, aft, gd⟩ (fun v L' => ∃ a' c', v = .slice a' n' c' ∧ L' = L.set i (.row (.slice a' n' c') el k n' cs')) := by
  subst hn; subst hc
  exact JO.appendS i hL ht hu hti hk hby hz hzc hx hy hsrc hb hmax
end
end Go.Proofs.YtjncpgcccgdeiaaGreatDoor
