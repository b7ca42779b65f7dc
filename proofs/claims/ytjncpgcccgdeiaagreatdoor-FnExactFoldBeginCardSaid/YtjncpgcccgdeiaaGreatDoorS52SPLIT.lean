/-
  Texts of the walk, joined: what each one proves stands at its theorems.
-/
import Derived.Test.YtjncpgcccgdeiaaGreatDoorS08IMPL
import Derived.Test.YtjncpgcccgdeiaaGreatDoorSlStr
import Derived.Lib.Builder
import Derived.Laws.Externs
import Derived.Lib.UnsafeStr
import Derived.Lib.Bytealg
import Derived.Lib.Strings
import Derived.Shelf.Small.Wraps
import Derived.Shelf.Strings.Prefix
import Derived.Shelf.Strings.Search2
import Derived.Shelf.Strings.Search3
import Derived.Shelf.Strings.Count
import Derived.Test.YtjncpgcccgdeiaaGreatDoorProg
import Derived.Test.YtjncpgcccgdeiaaGreatDoorDatM
set_option linter.unusedSimpArgs false
set_option linter.unusedVariables false
set_option linter.unnecessarySimpa false
namespace Go.Proofs.YtjncpgcccgdeiaaGreatDoor
open Go Go.RowKit
attribute [local irreducible] JL JC JQ JO LO PO JA JX Ct

theorem Y_implSum (s : Str) (hs : s.length ≤ 9223372036854775807) :
    Ct Tryz.prog 82 [str s] [] (fun _ => True) (fun v A' => v = .int .i64 ((byteSum s : Nat) : Int) ∧ A' = []) := by
  refine Ct.intro Tryz.func82 rfl Tryz.ntmps82 (Nat.le_of_ble_eq_true rfl) fun w0 hpre => ?_
  refine JC.seq ?_
  refine JC.region ?_
  refine JL.pure rfl (PO.assign (v := .int .i64 0) rfl) ?_
  refine JL.nil ?_
  refine JQ.seq ?_
  refine JC.seq ?_
  refine JC.region ?_
  refine JL.pure rfl (PO.assign (v := .int .i64 7) rfl) ?_
  refine JL.nil ?_
  refine JQ.seq ?_
  refine JC.seq ?_
  refine JC.seq ?_
  refine JC.region ?_
  refine JL.pure rfl (PO.move (v := str s) rfl) ?_
  refine JL.pure rfl (PO.lenS Tryz.underlying9 rfl) ?_
  refine JL.pure rfl (PO.move (v := .int .i64 0) rfl) ?_
  refine JL.nil ?_
  refine JQ.seq ?_
  refine JC.block ?_
  refine JC.loop (fun k_ e_ L_ => ∃ j : Nat, ∃ q : Nat, (j ≤ s.length) ∧ (q ≤ 9972) ∧ (sumF q (s.drop j) = byteSum s) ∧ e_ 0 = str s ∧ e_ 2 = .int .i64 0 ∧ e_ 3 = .int .i64 ((q : Nat) : Int) ∧ e_ 6 = .int .i64 (s.length : Int) ∧ e_ 7 = .int .i64 ((j : Nat) : Int) ∧ L_ = [] ∧ k_ = s.length - j) _ ⟨0, 7, by omega, by omega, rfl, rfl, rfl, rfl, rfl, rfl, rfl, rfl⟩ ?_
  rintro _ e_1 _ ⟨j, q, hj, hq, hR, he_2, he_3, he_4, he_5, he_6, rfl, rfl⟩
  refine JC.seq ?_
  refine JC.region ?_
  refine JL.pure rfl (PO.lss he_6 he_5) ?_
  refine JL.nil ?_
  refine JQ.seq ?_
  refine JC.seq ?_
  by_cases h_7 : ((j : Nat) : Int) < (s.length : Int)
  · skip
    have hlt : j < s.length := by omega
    have hu8 := UInt8.toNat_lt (s.getD j 0)
    refine JC.condT (congrArg Value.bool (decide_eq_true h_7)) ?_
    refine JC.skip ?_
    refine JQ.seq ?_
    refine JC.seq ?_
    refine JC.block ?_
    refine JC.seq ?_
    refine JC.region ?_
    refine JL.pure rfl (PO.move (v := .int .i64 ((j : Nat) : Int)) he_6) ?_
    refine JL.pure rfl (PO.assign (v := .int .i64 ((j : Nat) : Int)) rfl) ?_
    refine JL.nil ?_
    refine JQ.seq ?_
    refine JC.region ?_
    refine JL.pure rfl (PO.move (v := .int .i64 ((q : Nat) : Int)) he_4) ?_
    refine JL.pure rfl (PO.mul (c := ((31 * q : Nat) : Int)) rfl rfl (wr (by omega))) ?_
    refine JL.pure rfl (PO.move (v := str s) he_2) ?_
    refine JL.pure rfl (PO.move (v := .int .i64 ((j : Nat) : Int)) rfl) ?_
    refine JL.pure rfl (PO.indexS (i := j) (c := s.getD j 0) Tryz.underlying9 rfl rfl (getD_some (by omega))) ?_
    have hu_8 := UInt8.toNat_lt (s.getD j 0)
    refine JL.pure rfl (PO.convI (c := ((s.getD j 0).toNat : Int)) Tryz.underlying5 Tryz.underlying3 rfl (wr (by omega))) ?_
    refine JL.pure rfl (PO.add (c := (((31 * q) + ((s.getD j 0).toNat) : Nat) : Int)) rfl rfl (wr (by omega))) ?_
    refine JL.pure rfl (PO.remN (c := ((((31 * q) + ((s.getD j 0).toNat)) % 9973 : Nat) : Int)) rfl rfl (by omega) (by omega) (by omega)) ?_
    refine JL.pure rfl (PO.assign (v := .int .i64 ((((31 * q) + ((s.getD j 0).toNat)) % 9973 : Nat) : Int)) rfl) ?_
    refine JL.nil ?_
    refine JQ.blockN ?_
    refine JQ.seq ?_
    refine JC.region ?_
    refine JL.pure rfl (PO.add (c := ((j + 1 : Nat) : Int)) he_6 rfl (wr (by omega))) ?_
    refine JL.pure rfl (PO.move (v := .int .i64 ((j + 1 : Nat) : Int)) rfl) ?_
    refine JL.nil ?_
    refine JQ.again (s.length - (j + 1)) (by omega) ⟨j + 1, ((31 * q) + ((s.getD j 0).toNat)) % 9973, by omega, by omega, (by rw [sumF_step hlt] at hR; exact hR), he_2, he_3, rfl, he_5, rfl, rfl, rfl⟩
  · skip
    refine JC.condF (congrArg Value.bool (decide_eq_false h_7)) ?_
    refine JC.exit ?_
    refine JQ.thenExit ?_
    refine JQ.thenExit ?_
    refine JQ.blockE ?_
    refine JQ.seq ?_
    refine JC.seq ?_
    refine JC.region ?_
    refine JL.pure rfl (PO.move (v := .int .i64 ((q : Nat) : Int)) he_4) ?_
    refine JL.pure rfl (PO.assign (v := .int .i64 ((q : Nat) : Int)) rfl) ?_
    refine JL.nil ?_
    refine JQ.seq ?_
    refine JC.ret ?_
    refine Done.one (.inl rfl) rfl (RV.tmp (v := .int .i64 ((q : Nat) : Int)) rfl) (List.nil_sublist _) ?_
    refine ⟨congrArg (fun q : Nat => Value.int .i64 ((q : Nat) : Int)) ?_, rfl⟩
    rw [List.drop_of_length_le (by omega)] at hR
    exact hR

theorem Y_specSum (s : Str) (hs : s.length ≤ 9223372036854775807) :
    Ct Tryz.prog 94 [str s] [] (fun _ => True) (fun v A' => v = .int .i64 ((byteSum s : Nat) : Int) ∧ A' = []) := by
  refine Ct.intro Tryz.func94 rfl Tryz.ntmps94 (Nat.le_of_ble_eq_true rfl) fun w0 hpre => ?_
  refine JC.seq ?_
  refine JC.region ?_
  refine JL.pure rfl (PO.assign (v := .int .i64 0) rfl) ?_
  refine JL.nil ?_
  refine JQ.seq ?_
  refine JC.seq ?_
  refine JC.region ?_
  refine JL.pure rfl (PO.assign (v := .int .i64 7) rfl) ?_
  refine JL.nil ?_
  refine JQ.seq ?_
  refine JC.seq ?_
  refine JC.seq ?_
  refine JC.region ?_
  refine JL.pure rfl (PO.assign (v := .int .i64 0) rfl) ?_
  refine JL.nil ?_
  refine JQ.seq ?_
  refine JC.block ?_
  refine JC.loop (fun k_ e_ L_ => ∃ j : Nat, ∃ q : Nat, (j ≤ s.length) ∧ (q ≤ 9972) ∧ (sumF q (s.drop j) = byteSum s) ∧ e_ 0 = str s ∧ e_ 2 = .int .i64 0 ∧ e_ 3 = .int .i64 ((q : Nat) : Int) ∧ e_ 4 = .int .i64 ((j : Nat) : Int) ∧ L_ = [] ∧ k_ = s.length - j) _ ⟨0, 7, by omega, by omega, rfl, rfl, rfl, rfl, rfl, rfl, rfl⟩ ?_
  rintro _ e_1 _ ⟨j, q, hj, hq, hR, he_2, he_3, he_4, he_5, rfl, rfl⟩
  refine JC.seq ?_
  refine JC.seq ?_
  refine JC.region ?_
  refine JL.pure rfl (PO.move (v := .int .i64 ((j : Nat) : Int)) he_5) ?_
  refine JL.pure rfl (PO.move (v := str s) he_2) ?_
  refine JL.pure rfl (PO.lenS Tryz.underlying9 rfl) ?_
  refine JL.pure rfl (PO.lss rfl rfl) ?_
  refine JL.nil ?_
  refine JQ.seq ?_
  by_cases h_6 : ((j : Nat) : Int) < (s.length : Int)
  · skip
    have hlt : j < s.length := by omega
    have hu8 := UInt8.toNat_lt (s.getD j 0)
    refine JC.condT (congrArg Value.bool (decide_eq_true h_6)) ?_
    refine JC.skip ?_
    refine JQ.seq ?_
    refine JC.seq ?_
    refine JC.block ?_
    refine JC.region ?_
    refine JL.pure rfl (PO.move (v := .int .i64 ((q : Nat) : Int)) he_4) ?_
    refine JL.pure rfl (PO.mul (c := ((31 * q : Nat) : Int)) rfl rfl (wr (by omega))) ?_
    refine JL.pure rfl (PO.move (v := str s) he_2) ?_
    refine JL.pure rfl (PO.move (v := .int .i64 ((j : Nat) : Int)) he_5) ?_
    refine JL.pure rfl (PO.indexS (i := j) (c := s.getD j 0) Tryz.underlying9 rfl rfl (getD_some (by omega))) ?_
    have hu_7 := UInt8.toNat_lt (s.getD j 0)
    refine JL.pure rfl (PO.convI (c := ((s.getD j 0).toNat : Int)) Tryz.underlying5 Tryz.underlying3 rfl (wr (by omega))) ?_
    refine JL.pure rfl (PO.add (c := (((31 * q) + ((s.getD j 0).toNat) : Nat) : Int)) rfl rfl (wr (by omega))) ?_
    refine JL.pure rfl (PO.remN (c := ((((31 * q) + ((s.getD j 0).toNat)) % 9973 : Nat) : Int)) rfl rfl (by omega) (by omega) (by omega)) ?_
    refine JL.pure rfl (PO.assign (v := .int .i64 ((((31 * q) + ((s.getD j 0).toNat)) % 9973 : Nat) : Int)) rfl) ?_
    refine JL.nil ?_
    refine JQ.blockN ?_
    refine JQ.seq ?_
    refine JC.region ?_
    refine JL.pure rfl (PO.move (v := .int .i64 ((j : Nat) : Int)) he_5) ?_
    refine JL.pure rfl (PO.add (c := ((j + 1 : Nat) : Int)) rfl rfl (wr (by omega))) ?_
    refine JL.pure rfl (PO.assign (v := .int .i64 ((j + 1 : Nat) : Int)) rfl) ?_
    refine JL.nil ?_
    refine JQ.again (s.length - (j + 1)) (by omega) ⟨j + 1, ((31 * q) + ((s.getD j 0).toNat)) % 9973, by omega, by omega, (by rw [sumF_step hlt] at hR; exact hR), he_2, he_3, rfl, rfl, rfl, rfl⟩
  · skip
    refine JC.condF (congrArg Value.bool (decide_eq_false h_6)) ?_
    refine JC.exit ?_
    refine JQ.thenExit ?_
    refine JQ.thenExit ?_
    refine JQ.blockE ?_
    refine JQ.seq ?_
    refine JC.seq ?_
    refine JC.region ?_
    refine JL.pure rfl (PO.move (v := .int .i64 ((q : Nat) : Int)) he_4) ?_
    refine JL.pure rfl (PO.assign (v := .int .i64 ((q : Nat) : Int)) rfl) ?_
    refine JL.nil ?_
    refine JQ.seq ?_
    refine JC.ret ?_
    refine Done.one (.inl rfl) rfl (RV.tmp (v := .int .i64 ((q : Nat) : Int)) rfl) (List.nil_sublist _) ?_
    refine ⟨congrArg (fun q : Nat => Value.int .i64 ((q : Nat) : Int)) ?_, rfl⟩
    rw [List.drop_of_length_le (by omega)] at hR
    exact hR

theorem Y_sHex (s : Str) (hs : s.length ≤ 20000) : Ct Tryz.prog 93 [str s] [] (fun _ => True) (fun v A' => v = .tuple #[str (hexB s), .bool true] ∧ A' = []) :=
  (N_sHex s (by omega)).weak (fun _ h => h) fun v A' ⟨u, b, e, _, hv, hA⟩ => by
    rw [hexP_no (by omega)] at e
    simp only [Prod.mk.injEq] at e
    obtain ⟨rfl, rfl⟩ := e
    exact ⟨hv, hA⟩

set_option maxRecDepth 4000 in
set_option maxHeartbeats 1000000 in
theorem Y_sRec (seq : Int) (a : Option Addr) (c : Nat) (l : List Cell) (hl : okC l) :
    Ct Tryz.prog 41 [.int .i64 seq, .slice a l.length c] [] (fun w => Sees w (.slice a l.length c) 2 l.length (l.flatMap encC)) (fun v A' => v = str (recText seq l) ∧ A' = []) := by
  refine Ct.intro Tryz.func41 rfl Tryz.ntmps41 (Nat.le_of_ble_eq_true rfl) fun w0 hpre => ?_
  have hs_a : Sees w0 _ _ _ _ := hpre
  have hll := hl.1
  refine JC.seq ?_
  refine JC.region ?_
  refine JL.pure rfl (PO.assign (v := str []) rfl) ?_
  refine JL.nil ?_
  refine JQ.seq ?_
  refine JC.seq ?_
  refine JC.seq ?_
  refine JC.region ?_
  refine JL.pure rfl (PO.move (v := .int .i64 seq) rfl) ?_
  refine JL.op rfl (JO.call [] Tryz.call89 rfl (Y_l01In seq 1 100000) rfl (fun _ _ => trivial)) ?_
  rintro _ _ ⟨_, ⟨rfl, rfl⟩, rfl⟩
  refine JL.pure rfl (PO.not rfl) ?_
  refine JL.nil ?_
  refine JQ.seq ?_
  rcases Bool.eq_false_or_eq_true (within 1 seq 100000) with h_1 | h_1
  · skip
    refine JC.condF (congrArg Value.bool (congrArg Bool.not h_1)) ?_
    refine JC.skip ?_
    refine JQ.seq ?_
    refine JC.seq ?_
    have hwi := (show 1 ≤ seq ∧ seq ≤ 100000 by simpa only [within, Bool.and_eq_true, decide_eq_true_eq] using h_1)
    have hdl := dec_len (n := seq) (by omega) (by omega)
    refine JC.region ?_
    refine JL.pure rfl (PO.move (v := .int .i64 seq) rfl) ?_
    refine JL.op rfl (JO.call [] Tryz.call91 rfl (C_sDec seq (by omega) (by omega)) rfl (fun _ _ => trivial)) ?_
    rintro _ _ ⟨_, ⟨rfl, rfl⟩, rfl⟩
    have hdl_2 := dec_len (n := seq) (by omega) (by omega)
    refine JL.op rfl (JO.toBytes Tryz.underlying9 Tryz.underlying39 Tryz.underlying5 rfl (by unfold maxLen; omega)) ?_
    rintro _ _ ⟨a_3, c_4, rfl, rfl⟩
    refine JL.pure rfl (PO.assign (v := .slice a_3 ((dec seq).length) c_4) rfl) ?_
    refine JL.nil ?_
    refine JQ.seq ?_
    refine JC.seq ?_
    refine JC.seq ?_
    refine JC.region ?_
    refine JL.pure rfl (PO.assign (v := .int .i64 0) rfl) ?_
    refine JL.nil ?_
    refine JQ.seq ?_
    refine JC.block ?_
    refine JC.loop (fun k_ e_ L_ => ∃ j : Nat, ∃ oa : Option Addr, ∃ oc : Nat, ∃ b : Str, (j ≤ l.length) ∧ (b.length ≤ 5000) ∧ (recGo b (l.drop j) = recGo (dec seq) l) ∧ e_ 1 = .slice a l.length c ∧ e_ 5 = .slice oa b.length oc ∧ e_ 6 = .int .i64 ((j : Nat) : Int) ∧ L_ = [Res.row (.slice oa b.length oc) 5 1 b.length (b.map encB)] ∧ k_ = l.length - j) _ ⟨0, a_3, c_4, (dec seq), by omega, by omega, rfl, rfl, rfl, rfl, rfl, rfl⟩ ?_
    rintro _ e_5 _ ⟨j, oa, oc, b, hj, hb, hR, he_6, he_7, he_8, rfl, rfl⟩
    refine JC.seq ?_
    refine JC.seq ?_
    refine JC.region ?_
    refine JL.pure rfl (PO.move (v := .int .i64 ((j : Nat) : Int)) he_8) ?_
    refine JL.pure rfl (PO.move (v := .slice a l.length c) he_6) ?_
    refine JL.pure rfl (PO.lenV Tryz.underlying49 rfl) ?_
    refine JL.pure rfl (PO.lss rfl rfl) ?_
    refine JL.nil ?_
    refine JQ.seq ?_
    by_cases h_9 : ((j : Nat) : Int) < ((l.length : Nat) : Int)
    · skip
      have hlt : j < l.length := by omega
      refine JC.condT (congrArg Value.bool (decide_eq_true h_9)) ?_
      refine JC.skip ?_
      refine JQ.seq ?_
      refine JC.seq ?_
      refine JC.block ?_
      refine JC.seq ?_
      refine JC.seq ?_
      refine JC.region ?_
      refine JL.pure rfl (PO.move (v := .slice a l.length c) he_6) ?_
      refine JL.pure rfl (PO.move (v := .int .i64 ((j : Nat) : Int)) he_8) ?_
      obtain ⟨hr_10, hr_10b, -⟩ := sees_some hs_a (by omega)
      refine JL.pure rfl (PO.indexAddrV (i := j) Tryz.underlying49 Tryz.sizeOf48 hr_10 hr_10b rfl rfl (by omega)) ?_
      refine JL.pure rfl (PO.fieldAddrE fo48_0 hr_10 rfl) ?_
      refine JL.ld rfl (LO.loadS1 (v := str ((l.getD j c0).1)) hs_a (fun _ _ => List.not_mem_nil) rfl Tryz.isAgg9 (atC1 (by omega))) ?_
      refine JL.op rfl (JO.call [] Tryz.call92 rfl (Y_specKeyOk ((l.getD j c0).1) (hl.2 j hlt).1) rfl (fun _ _ => trivial)) ?_
      rintro _ _ ⟨_, ⟨rfl, rfl⟩, rfl⟩
      refine JL.pure rfl (PO.not rfl) ?_
      refine JL.pure rfl (PO.move (v := .bool (!(keyOk ((l.getD j c0).1)))) rfl) ?_
      rcases Bool.eq_false_or_eq_true (keyOk ((l.getD j c0).1)) with h_11 | h_11
      · skip
        have hk40 := keyOk_len h_11
        refine JL.guardOn rfl rfl rfl (congrArg Value.bool (congrArg Bool.not h_11)) (JO.ofLO (LO.pure (PO.move (v := .slice a l.length c) he_6))) ?_
        rintro _ _ ⟨rfl, rfl⟩
        refine JL.guardOn rfl rfl rfl (congrArg Value.bool (congrArg Bool.not h_11)) (JO.ofLO (LO.pure (PO.move (v := .int .i64 ((j : Nat) : Int)) he_8))) ?_
        rintro _ _ ⟨rfl, rfl⟩
        refine JL.guardOn rfl rfl rfl (congrArg Value.bool (congrArg Bool.not h_11)) (JO.ofLO (LO.pure (PO.indexAddrV (i := j) Tryz.underlying49 Tryz.sizeOf48 hr_10 hr_10b rfl rfl (by omega)))) ?_
        rintro _ _ ⟨rfl, rfl⟩
        refine JL.guardOn rfl rfl rfl (congrArg Value.bool (congrArg Bool.not h_11)) (JO.ofLO (LO.pure (PO.fieldAddrE fo48_1 hr_10 rfl))) ?_
        rintro _ _ ⟨rfl, rfl⟩
        refine JL.guardOn rfl rfl rfl (congrArg Value.bool (congrArg Bool.not h_11)) (JO.ofLO (LO.loadS1 (v := str ((l.getD j c0).2)) hs_a (fun _ _ => List.not_mem_nil) rfl Tryz.isAgg9 (atC2 (by omega)))) ?_
        rintro _ _ ⟨rfl, rfl⟩
        refine JL.guardOn rfl rfl rfl (congrArg Value.bool (congrArg Bool.not h_11)) (JO.ofLO (LO.pure (PO.lenS Tryz.underlying9 rfl))) ?_
        rintro _ _ ⟨rfl, rfl⟩
        refine JL.guardOn rfl rfl rfl (congrArg Value.bool (congrArg Bool.not h_11)) (JO.ofLO (LO.pure (PO.gtr rfl rfl))) ?_
        rintro _ _ ⟨rfl, rfl⟩
        refine JL.pure rfl (PO.pickF (v := .bool (decide (60 < (((l.getD j c0).2).length : Int)))) (congrArg Value.bool (congrArg Bool.not h_11)) rfl) ?_
        refine JL.pure rfl (PO.move (v := .bool (decide (60 < (((l.getD j c0).2).length : Int)))) rfl) ?_
        by_cases h_12 : 60 < (((l.getD j c0).2).length : Int)
        · skip
          refine JL.guardOff (b := true) rfl rfl rfl (congrArg Value.bool (decide_eq_true h_12)) ?_
          refine JL.guardOff (b := true) rfl rfl rfl (congrArg Value.bool (decide_eq_true h_12)) ?_
          refine JL.guardOff (b := true) rfl rfl rfl (congrArg Value.bool (decide_eq_true h_12)) ?_
          refine JL.pure rfl (PO.pickT (v := .bool true) (congrArg Value.bool (decide_eq_true h_12)) rfl) ?_
          refine JL.nil ?_
          refine JQ.seq ?_
          refine JC.condT (congrArg Value.bool rfl) ?_
          refine JC.seq ?_
          refine JC.region ?_
          refine JL.pure rfl (PO.assign (v := str []) rfl) ?_
          refine JL.nil ?_
          refine JQ.seq ?_
          refine JC.ret ?_
          refine JQ.thenRet ?_
          refine JQ.blockRet ?_
          refine JQ.thenRet ?_
          refine JQ.thenRet ?_
          refine JQ.blockRet ?_
          refine JQ.thenRet ?_
          refine Done.one (.inl rfl) rfl (RV.tmp (v := str []) rfl) (List.nil_sublist _) ?_
          refine ⟨congrArg str ?_, rfl⟩
          have hrt : recText seq l = recGo (dec seq) l := by unfold recText; rw [if_pos h_1]
          rw [hrt, ← hR, recGo_step hlt, if_pos (by simp only [recBad, Bool.and_true, Bool.true_and, Bool.and_false, Bool.false_and, Bool.or_true, Bool.true_or, Bool.or_false, Bool.false_or, Bool.not_true, Bool.not_false, (h_1), ((decide_eq_true h_9)), (h_11), ((decide_eq_true h_12))])]
        · skip
          refine JL.guardOn rfl rfl rfl (congrArg Value.bool (decide_eq_false h_12)) (JO.ofLO (LO.pure (PO.move (v := .slice oa b.length oc) he_7))) ?_
          rintro _ _ ⟨rfl, rfl⟩
          refine JL.guardOn rfl rfl rfl (congrArg Value.bool (decide_eq_false h_12)) (JO.ofLO (LO.pure (PO.lenV Tryz.underlying39 rfl))) ?_
          rintro _ _ ⟨rfl, rfl⟩
          refine JL.guardOn rfl rfl rfl (congrArg Value.bool (decide_eq_false h_12)) (JO.ofLO (LO.pure (PO.gtr rfl rfl))) ?_
          rintro _ _ ⟨rfl, rfl⟩
          refine JL.pure rfl (PO.pickF (v := .bool (decide (4000 < ((b.length : Nat) : Int)))) (congrArg Value.bool (decide_eq_false h_12)) rfl) ?_
          refine JL.nil ?_
          refine JQ.seq ?_
          by_cases h_13 : 4000 < ((b.length : Nat) : Int)
          · skip
            refine JC.condT (congrArg Value.bool (decide_eq_true h_13)) ?_
            refine JC.seq ?_
            refine JC.region ?_
            refine JL.pure rfl (PO.assign (v := str []) rfl) ?_
            refine JL.nil ?_
            refine JQ.seq ?_
            refine JC.ret ?_
            refine JQ.thenRet ?_
            refine JQ.blockRet ?_
            refine JQ.thenRet ?_
            refine JQ.thenRet ?_
            refine JQ.blockRet ?_
            refine JQ.thenRet ?_
            refine Done.one (.inl rfl) rfl (RV.tmp (v := str []) rfl) (List.nil_sublist _) ?_
            refine ⟨congrArg str ?_, rfl⟩
            have hrt : recText seq l = recGo (dec seq) l := by unfold recText; rw [if_pos h_1]
            rw [hrt, ← hR, recGo_step hlt, if_pos (by simp only [recBad, Bool.and_true, Bool.true_and, Bool.and_false, Bool.false_and, Bool.or_true, Bool.true_or, Bool.or_false, Bool.false_or, Bool.not_true, Bool.not_false, (h_1), ((decide_eq_true h_9)), (h_11), ((decide_eq_false h_12)), ((decide_eq_true h_13))])]
          · skip
            refine JC.condF (congrArg Value.bool (decide_eq_false h_13)) ?_
            refine JC.skip ?_
            refine JQ.seq ?_
            refine JC.seq ?_
            refine JC.region ?_
            refine JL.pure rfl (PO.move (v := .slice a l.length c) he_6) ?_
            refine JL.pure rfl (PO.move (v := .int .i64 ((j : Nat) : Int)) he_8) ?_
            refine JL.pure rfl (PO.indexAddrV (i := j) Tryz.underlying49 Tryz.sizeOf48 hr_10 hr_10b rfl rfl (by omega)) ?_
            refine JL.pure rfl (PO.fieldAddrE fo48_0 hr_10 rfl) ?_
            refine JL.ld rfl (LO.loadS1 (v := str ((l.getD j c0).1)) hs_a (fun _ _ => List.not_mem_nil) rfl Tryz.isAgg9 (atC1 (by omega))) ?_
            refine JL.op rfl (JO.call [] Tryz.call93 rfl (Y_sHex ((l.getD j c0).1) (by omega)) rfl (fun _ _ => trivial)) ?_
            rintro _ _ ⟨_, ⟨rfl, rfl⟩, rfl⟩
            have hxl_14 := hexB_len ((l.getD j c0).1)
            refine JL.pure rfl (PO.move (v := .tuple #[str (hexB ((l.getD j c0).1)), .bool true]) rfl) ?_
            refine JL.pure rfl (PO.extract (v := str (hexB ((l.getD j c0).1))) rfl rfl) ?_
            refine JL.pure rfl (PO.extract (v := .bool true) rfl rfl) ?_
            refine JL.pure rfl (PO.assign (v := str (hexB ((l.getD j c0).1))) rfl) ?_
            refine JL.pure rfl (PO.assign (v := .bool true) rfl) ?_
            refine JL.nil ?_
            refine JQ.seq ?_
            refine JC.seq ?_
            refine JC.region ?_
            refine JL.pure rfl (PO.move (v := .slice a l.length c) he_6) ?_
            refine JL.pure rfl (PO.move (v := .int .i64 ((j : Nat) : Int)) he_8) ?_
            refine JL.pure rfl (PO.indexAddrV (i := j) Tryz.underlying49 Tryz.sizeOf48 hr_10 hr_10b rfl rfl (by omega)) ?_
            refine JL.pure rfl (PO.fieldAddrE fo48_1 hr_10 rfl) ?_
            refine JL.ld rfl (LO.loadS1 (v := str ((l.getD j c0).2)) hs_a (fun _ _ => List.not_mem_nil) rfl Tryz.isAgg9 (atC2 (by omega))) ?_
            refine JL.op rfl (JO.call [] Tryz.call93 rfl (Y_sHex ((l.getD j c0).2) (by omega)) rfl (fun _ _ => trivial)) ?_
            rintro _ _ ⟨_, ⟨rfl, rfl⟩, rfl⟩
            have hxl_15 := hexB_len ((l.getD j c0).2)
            refine JL.pure rfl (PO.move (v := .tuple #[str (hexB ((l.getD j c0).2)), .bool true]) rfl) ?_
            refine JL.pure rfl (PO.extract (v := str (hexB ((l.getD j c0).2))) rfl rfl) ?_
            refine JL.pure rfl (PO.extract (v := .bool true) rfl rfl) ?_
            refine JL.pure rfl (PO.assign (v := str (hexB ((l.getD j c0).2))) rfl) ?_
            refine JL.pure rfl (PO.assign (v := .bool true) rfl) ?_
            refine JL.nil ?_
            refine JQ.seq ?_
            refine JC.region ?_
            refine JL.pure rfl (PO.move (v := .slice oa b.length oc) he_7) ?_
            refine JL.op rfl (JO.buildSlice (ps := [(0, .int .u8 32)]) (cur := #[.int .u8 32]) Tryz.underlying39 Tryz.sizeOf5 Tryz.zeroValue5 rfl (by kernel_rfl) (by decide) (by decide)) ?_
            rintro _ _ ⟨a_16, rfl, rfl⟩
            refine JL.op rfl (JO.append' 1 (q := 1) (news := ([32] : List UInt8).map encB) (n' := (b ++ ([32] : List UInt8)).length) (cs' := (b ++ ([32] : List UInt8)).map encB) rfl Tryz.underlying39 Tryz.underlying39 Tryz.typeInfo5 rfl (by' := 1) rfl rfl rfl rfl rfl (fun w hw => Src.sees (hw.see (i := 0) rfl) (oneB _)) (by (try simp only [List.length_append, List.length_cons, List.length_nil, List.length_take, List.length_drop]); omega) (by (try simp only [List.length_append, List.length_cons, List.length_nil, List.length_take, List.length_drop]); omega) (by simp only [List.length_append, List.length_take, List.length_drop, List.length_cons, List.length_nil] <;> first | rfl | omega) (by simp only [List.map_append])) ?_
            rintro _ _ ⟨a_17, c_18, rfl, rfl⟩
            refine JL.pure rfl (PO.move (v := str (hexB ((l.getD j c0).1))) rfl) ?_
            refine JL.op rfl (JO.appendS' 1 (q := (hexB ((l.getD j c0).1)).length) (news := (hexB ((l.getD j c0).1)).map encB) (n' := ((b ++ ([32] : List UInt8)) ++ (hexB ((l.getD j c0).1))).length) (cs' := ((b ++ ([32] : List UInt8)) ++ (hexB ((l.getD j c0).1))).map encB) rfl Tryz.underlying39 Tryz.underlying9 Tryz.typeInfo5 rfl (by' := 1) rfl rfl rfl rfl rfl (fun w hw => Src.str (hexB ((l.getD j c0).1))) (by (try simp only [List.length_append, List.length_cons, List.length_nil]); omega) (by (try simp only [List.length_append, List.length_cons, List.length_nil]); omega) (by simp only [List.length_append]) (by simp only [List.map_append])) ?_
            rintro _ _ ⟨a_19, c_20, rfl, rfl⟩
            refine JL.op rfl (JO.buildSlice (ps := [(0, .int .u8 61)]) (cur := #[.int .u8 61]) Tryz.underlying39 Tryz.sizeOf5 Tryz.zeroValue5 rfl (by kernel_rfl) (by decide) (by decide)) ?_
            rintro _ _ ⟨a_21, rfl, rfl⟩
            refine JL.op rfl (JO.append' 2 (q := 1) (news := ([61] : List UInt8).map encB) (n' := (((b ++ ([32] : List UInt8)) ++ (hexB ((l.getD j c0).1))) ++ ([61] : List UInt8)).length) (cs' := (((b ++ ([32] : List UInt8)) ++ (hexB ((l.getD j c0).1))) ++ ([61] : List UInt8)).map encB) rfl Tryz.underlying39 Tryz.underlying39 Tryz.typeInfo5 rfl (by' := 1) rfl rfl rfl rfl rfl (fun w hw => Src.sees (hw.see (i := 0) rfl) (oneB _)) (by (try simp only [List.length_append, List.length_cons, List.length_nil, List.length_take, List.length_drop]); omega) (by (try simp only [List.length_append, List.length_cons, List.length_nil, List.length_take, List.length_drop]); omega) (by simp only [List.length_append, List.length_take, List.length_drop, List.length_cons, List.length_nil] <;> first | rfl | omega) (by simp only [List.map_append])) ?_
            rintro _ _ ⟨a_22, c_23, rfl, rfl⟩
            refine JL.pure rfl (PO.move (v := str (hexB ((l.getD j c0).2))) rfl) ?_
            refine JL.op rfl (JO.appendS' 2 (q := (hexB ((l.getD j c0).2)).length) (news := (hexB ((l.getD j c0).2)).map encB) (n' := ((((b ++ ([32] : List UInt8)) ++ (hexB ((l.getD j c0).1))) ++ ([61] : List UInt8)) ++ (hexB ((l.getD j c0).2))).length) (cs' := ((((b ++ ([32] : List UInt8)) ++ (hexB ((l.getD j c0).1))) ++ ([61] : List UInt8)) ++ (hexB ((l.getD j c0).2))).map encB) rfl Tryz.underlying39 Tryz.underlying9 Tryz.typeInfo5 rfl (by' := 1) rfl rfl rfl rfl rfl (fun w hw => Src.str (hexB ((l.getD j c0).2))) (by (try simp only [List.length_append, List.length_cons, List.length_nil]); omega) (by (try simp only [List.length_append, List.length_cons, List.length_nil]); omega) (by simp only [List.length_append]) (by simp only [List.map_append])) ?_
            rintro _ _ ⟨a_24, c_25, rfl, rfl⟩
            refine JL.pure rfl (PO.assign (v := .slice a_24 (((((b ++ ([32] : List UInt8)) ++ (hexB ((l.getD j c0).1))) ++ ([61] : List UInt8)) ++ (hexB ((l.getD j c0).2))).length) c_25) rfl) ?_
            refine JL.nil ?_
            refine JQ.blockN ?_
            refine JQ.seq ?_
            refine JC.region ?_
            refine JL.pure rfl (PO.move (v := .int .i64 ((j : Nat) : Int)) he_8) ?_
            refine JL.pure rfl (PO.add (c := ((j + 1 : Nat) : Int)) rfl rfl (wr (by omega))) ?_
            refine JL.pure rfl (PO.assign (v := .int .i64 ((j + 1 : Nat) : Int)) rfl) ?_
            refine JL.nil ?_
            refine JQ.pick [2] (A := [Res.row (.slice a_24 (((((b ++ ([32] : List UInt8)) ++ (hexB ((l.getD j c0).1))) ++ ([61] : List UInt8)) ++ (hexB ((l.getD j c0).2))).length) c_25) 5 1 (((((b ++ ([32] : List UInt8)) ++ (hexB ((l.getD j c0).1))) ++ ([61] : List UInt8)) ++ (hexB ((l.getD j c0).2))).length) (((((b ++ ([32] : List UInt8)) ++ (hexB ((l.getD j c0).1))) ++ ([61] : List UInt8)) ++ (hexB ((l.getD j c0).2))).map encB)]) rfl ?_
            refine JQ.again (l.length - (j + 1)) (by omega) ⟨j + 1, a_24, c_25, ((((b ++ ([32] : List UInt8)) ++ (hexB ((l.getD j c0).1))) ++ ([61] : List UInt8)) ++ (hexB ((l.getD j c0).2))), by omega, (by simp only [List.length_append, List.length_cons, List.length_nil]; omega), (by rw [recGo_step hlt, if_neg (by simp only [recBad, Bool.and_true, Bool.true_and, Bool.and_false, Bool.false_and, Bool.or_true, Bool.true_or, Bool.or_false, Bool.false_or, Bool.not_true, Bool.not_false, (h_1), ((decide_eq_true h_9)), (h_11), ((decide_eq_false h_12)), ((decide_eq_false h_13))]; exact Bool.false_ne_true)] at hR; simp only [recRow, ← List.append_assoc] at hR; exact hR), he_6, rfl, rfl, rfl, rfl⟩
      · skip
        refine JL.guardOff (b := true) rfl rfl rfl (congrArg Value.bool (congrArg Bool.not h_11)) ?_
        refine JL.guardOff (b := true) rfl rfl rfl (congrArg Value.bool (congrArg Bool.not h_11)) ?_
        refine JL.guardOff (b := true) rfl rfl rfl (congrArg Value.bool (congrArg Bool.not h_11)) ?_
        refine JL.guardOff (b := true) rfl rfl rfl (congrArg Value.bool (congrArg Bool.not h_11)) ?_
        refine JL.guardOff (b := true) rfl rfl rfl (congrArg Value.bool (congrArg Bool.not h_11)) ?_
        refine JL.guardOff (b := true) rfl rfl rfl (congrArg Value.bool (congrArg Bool.not h_11)) ?_
        refine JL.guardOff (b := true) rfl rfl rfl (congrArg Value.bool (congrArg Bool.not h_11)) ?_
        refine JL.pure rfl (PO.pickT (v := .bool true) (congrArg Value.bool (congrArg Bool.not h_11)) rfl) ?_
        refine JL.pure rfl (PO.move (v := .bool true) rfl) ?_
        refine JL.guardOff (b := true) rfl rfl rfl (congrArg Value.bool rfl) ?_
        refine JL.guardOff (b := true) rfl rfl rfl (congrArg Value.bool rfl) ?_
        refine JL.guardOff (b := true) rfl rfl rfl (congrArg Value.bool rfl) ?_
        refine JL.pure rfl (PO.pickT (v := .bool true) (congrArg Value.bool rfl) rfl) ?_
        refine JL.nil ?_
        refine JQ.seq ?_
        refine JC.condT (congrArg Value.bool rfl) ?_
        refine JC.seq ?_
        refine JC.region ?_
        refine JL.pure rfl (PO.assign (v := str []) rfl) ?_
        refine JL.nil ?_
        refine JQ.seq ?_
        refine JC.ret ?_
        refine JQ.thenRet ?_
        refine JQ.blockRet ?_
        refine JQ.thenRet ?_
        refine JQ.thenRet ?_
        refine JQ.blockRet ?_
        refine JQ.thenRet ?_
        refine Done.one (.inl rfl) rfl (RV.tmp (v := str []) rfl) (List.nil_sublist _) ?_
        refine ⟨congrArg str ?_, rfl⟩
        have hrt : recText seq l = recGo (dec seq) l := by unfold recText; rw [if_pos h_1]
        rw [hrt, ← hR, recGo_step hlt, if_pos (by simp only [recBad, Bool.and_true, Bool.true_and, Bool.and_false, Bool.false_and, Bool.or_true, Bool.true_or, Bool.or_false, Bool.false_or, Bool.not_true, Bool.not_false, (h_1), ((decide_eq_true h_9)), (h_11)])]
    · skip
      refine JC.condF (congrArg Value.bool (decide_eq_false h_9)) ?_
      refine JC.exit ?_
      refine JQ.thenExit ?_
      refine JQ.thenExit ?_
      refine JQ.blockE ?_
      refine JQ.seq ?_
      refine JC.seq ?_
      refine JC.regionA [Res.row (.slice oa b.length oc) 5 1 b.length (b.map encB)] 7 mixed (by simp) ?_
      refine JA.takeP 0 rfl (by kernel_rfl) (NP.th NP.body) (by kernel_rfl) (by kernel_rfl) rfl (PO.move (v := .slice oa b.length oc) he_7) ?_
      refine JA.takeP 3 rfl (by kernel_rfl) (NP.th NP.body) (by kernel_rfl) (by kernel_rfl) rfl (PO.move (v := .slice oa b.length oc) he_7) ?_
      refine JA.two (i := 1) (j := 4) (by kernel_rfl) ?_ ?_
      · skip
        refine JX.op rfl rfl (JO.ofLO (LO.toStr 0 b rfl Tryz.underlying39 Tryz.underlying5 Tryz.underlying9 rfl rfl)) ?_
        rintro _ _ ⟨rfl, rfl⟩
        refine ⟨by simp, ?_⟩
        refine JA.takeP 2 rfl (by kernel_rfl) (NP.th NP.body) (by kernel_rfl) (by kernel_rfl) rfl (PO.addS rfl rfl (by (try simp only [List.length_append, List.length_cons, List.length_nil, List.length_drop, List.length_take]); omega)) ?_
        refine JA.one (i := 4) (by kernel_rfl) ?_
        refine JX.op rfl rfl (JO.ofLO (LO.toStr 0 b rfl Tryz.underlying39 Tryz.underlying5 Tryz.underlying9 rfl rfl)) ?_
        rintro _ _ ⟨rfl, rfl⟩
        refine ⟨by simp, ?_⟩
        refine JA.one (i := 5) (by kernel_rfl) ?_
        refine JX.op rfl rfl (JO.call [] Tryz.call94 rfl (Y_specSum b (by (try simp only [List.length_append, List.length_cons, List.length_nil]); omega)) rfl (fun _ _ => trivial)) ?_
        rintro _ _ ⟨_, ⟨rfl, rfl⟩, rfl⟩
        have hbs_27 := byteSum_lo b
        refine ⟨by simp, ?_⟩
        refine JA.one (i := 6) (by kernel_rfl) ?_
        refine JX.op rfl rfl (JO.call [] Tryz.call91 rfl (C_sDec ((byteSum b : Nat) : Int) (by omega) (by omega)) rfl (fun _ _ => trivial)) ?_
        rintro _ _ ⟨_, ⟨rfl, rfl⟩, rfl⟩
        have hdl_29 := dec_len (n := ((byteSum b : Nat) : Int)) (by omega) (by omega)
        refine ⟨by simp, ?_⟩
        refine JA.takeP 7 rfl (by kernel_rfl) (NP.th NP.body) (by kernel_rfl) (by kernel_rfl) rfl (PO.addS rfl rfl (by (try simp only [List.length_append, List.length_cons, List.length_nil, List.length_drop, List.length_take]); omega)) ?_
        refine JA.takeP 8 rfl (by kernel_rfl) (NP.th NP.body) (by kernel_rfl) (by kernel_rfl) rfl (PO.addS rfl rfl (by (try simp only [List.length_append, List.length_cons, List.length_nil, List.length_drop, List.length_take]); omega)) ?_
        refine JA.takeP 9 rfl (by kernel_rfl) (NP.th NP.body) (by kernel_rfl) (by kernel_rfl) rfl (PO.assign (v := str (((b ++ [32, 35]) ++ (dec ((byteSum b : Nat) : Int))) ++ [10])) rfl) ?_
        refine JA.done (by kernel_rfl) ?_
        refine JQ.seq ?_
        refine JC.seq ?_
        refine JC.seq ?_
        refine JC.region ?_
        refine JL.pure rfl (PO.move (v := str (((b ++ [32, 35]) ++ (dec ((byteSum b : Nat) : Int))) ++ [10])) rfl) ?_
        refine JL.pure rfl (PO.lenS Tryz.underlying9 rfl) ?_
        refine JL.pure rfl (PO.gtr rfl rfl) ?_
        refine JL.nil ?_
        refine JQ.seq ?_
        by_cases h_30 : 4000 < ((((b ++ [32, 35]) ++ (dec ((byteSum b : Nat) : Int))) ++ [10]).length : Int)
        · skip
          refine JC.condT (congrArg Value.bool (decide_eq_true h_30)) ?_
          refine JC.seq ?_
          refine JC.region ?_
          refine JL.pure rfl (PO.assign (v := str []) rfl) ?_
          refine JL.nil ?_
          refine JQ.seq ?_
          refine JC.ret ?_
          refine JQ.thenRet ?_
          refine Done.one (.inl rfl) rfl (RV.tmp (v := str []) rfl) (List.nil_sublist _) ?_
          refine ⟨congrArg str ?_, rfl⟩
          have hrt : recText seq l = recGo (dec seq) l := by unfold recText; rw [if_pos h_1]
          rw [hrt, ← hR, List.drop_of_length_le (by omega), recGo, recEnd]
          first | rw [if_pos (by assumption)] | rw [if_neg (by assumption)]
        · skip
          refine JC.condF (congrArg Value.bool (decide_eq_false h_30)) ?_
          refine JC.skip ?_
          refine JQ.seq ?_
          refine JC.seq ?_
          refine JC.region ?_
          refine JL.pure rfl (PO.move (v := str (((b ++ [32, 35]) ++ (dec ((byteSum b : Nat) : Int))) ++ [10])) rfl) ?_
          refine JL.pure rfl (PO.assign (v := str (((b ++ [32, 35]) ++ (dec ((byteSum b : Nat) : Int))) ++ [10])) rfl) ?_
          refine JL.nil ?_
          refine JQ.seq ?_
          refine JC.ret ?_
          refine Done.one (.inl rfl) rfl (RV.tmp (v := str (((b ++ [32, 35]) ++ (dec ((byteSum b : Nat) : Int))) ++ [10])) rfl) (List.nil_sublist _) ?_
          refine ⟨congrArg str ?_, rfl⟩
          have hrt : recText seq l = recGo (dec seq) l := by unfold recText; rw [if_pos h_1]
          rw [hrt, ← hR, List.drop_of_length_le (by omega), recGo, recEnd]
          first | rw [if_pos (by assumption)] | rw [if_neg (by assumption)]
      · skip
        refine JX.op rfl rfl (JO.ofLO (LO.toStr 0 b rfl Tryz.underlying39 Tryz.underlying5 Tryz.underlying9 rfl rfl)) ?_
        rintro _ _ ⟨rfl, rfl⟩
        refine ⟨by simp, ?_⟩
        refine JA.two (i := 1) (j := 5) (by kernel_rfl) ?_ ?_
        · skip
          refine JX.op rfl rfl (JO.ofLO (LO.toStr 0 b rfl Tryz.underlying39 Tryz.underlying5 Tryz.underlying9 rfl rfl)) ?_
          rintro _ _ ⟨rfl, rfl⟩
          refine ⟨by simp, ?_⟩
          refine JA.takeP 2 rfl (by kernel_rfl) (NP.th NP.body) (by kernel_rfl) (by kernel_rfl) rfl (PO.addS rfl rfl (by (try simp only [List.length_append, List.length_cons, List.length_nil, List.length_drop, List.length_take]); omega)) ?_
          refine JA.one (i := 5) (by kernel_rfl) ?_
          refine JX.op rfl rfl (JO.call [] Tryz.call94 rfl (Y_specSum b (by (try simp only [List.length_append, List.length_cons, List.length_nil]); omega)) rfl (fun _ _ => trivial)) ?_
          rintro _ _ ⟨_, ⟨rfl, rfl⟩, rfl⟩
          have hbs_33 := byteSum_lo b
          refine ⟨by simp, ?_⟩
          refine JA.one (i := 6) (by kernel_rfl) ?_
          refine JX.op rfl rfl (JO.call [] Tryz.call91 rfl (C_sDec ((byteSum b : Nat) : Int) (by omega) (by omega)) rfl (fun _ _ => trivial)) ?_
          rintro _ _ ⟨_, ⟨rfl, rfl⟩, rfl⟩
          have hdl_35 := dec_len (n := ((byteSum b : Nat) : Int)) (by omega) (by omega)
          refine ⟨by simp, ?_⟩
          refine JA.takeP 7 rfl (by kernel_rfl) (NP.th NP.body) (by kernel_rfl) (by kernel_rfl) rfl (PO.addS rfl rfl (by (try simp only [List.length_append, List.length_cons, List.length_nil, List.length_drop, List.length_take]); omega)) ?_
          refine JA.takeP 8 rfl (by kernel_rfl) (NP.th NP.body) (by kernel_rfl) (by kernel_rfl) rfl (PO.addS rfl rfl (by (try simp only [List.length_append, List.length_cons, List.length_nil, List.length_drop, List.length_take]); omega)) ?_
          refine JA.takeP 9 rfl (by kernel_rfl) (NP.th NP.body) (by kernel_rfl) (by kernel_rfl) rfl (PO.assign (v := str (((b ++ [32, 35]) ++ (dec ((byteSum b : Nat) : Int))) ++ [10])) rfl) ?_
          refine JA.done (by kernel_rfl) ?_
          refine JQ.seq ?_
          refine JC.seq ?_
          refine JC.seq ?_
          refine JC.region ?_
          refine JL.pure rfl (PO.move (v := str (((b ++ [32, 35]) ++ (dec ((byteSum b : Nat) : Int))) ++ [10])) rfl) ?_
          refine JL.pure rfl (PO.lenS Tryz.underlying9 rfl) ?_
          refine JL.pure rfl (PO.gtr rfl rfl) ?_
          refine JL.nil ?_
          refine JQ.seq ?_
          by_cases h_36 : 4000 < ((((b ++ [32, 35]) ++ (dec ((byteSum b : Nat) : Int))) ++ [10]).length : Int)
          · skip
            refine JC.condT (congrArg Value.bool (decide_eq_true h_36)) ?_
            refine JC.seq ?_
            refine JC.region ?_
            refine JL.pure rfl (PO.assign (v := str []) rfl) ?_
            refine JL.nil ?_
            refine JQ.seq ?_
            refine JC.ret ?_
            refine JQ.thenRet ?_
            refine Done.one (.inl rfl) rfl (RV.tmp (v := str []) rfl) (List.nil_sublist _) ?_
            refine ⟨congrArg str ?_, rfl⟩
            have hrt : recText seq l = recGo (dec seq) l := by unfold recText; rw [if_pos h_1]
            rw [hrt, ← hR, List.drop_of_length_le (by omega), recGo, recEnd]
            first | rw [if_pos (by assumption)] | rw [if_neg (by assumption)]
          · skip
            refine JC.condF (congrArg Value.bool (decide_eq_false h_36)) ?_
            refine JC.skip ?_
            refine JQ.seq ?_
            refine JC.seq ?_
            refine JC.region ?_
            refine JL.pure rfl (PO.move (v := str (((b ++ [32, 35]) ++ (dec ((byteSum b : Nat) : Int))) ++ [10])) rfl) ?_
            refine JL.pure rfl (PO.assign (v := str (((b ++ [32, 35]) ++ (dec ((byteSum b : Nat) : Int))) ++ [10])) rfl) ?_
            refine JL.nil ?_
            refine JQ.seq ?_
            refine JC.ret ?_
            refine Done.one (.inl rfl) rfl (RV.tmp (v := str (((b ++ [32, 35]) ++ (dec ((byteSum b : Nat) : Int))) ++ [10])) rfl) (List.nil_sublist _) ?_
            refine ⟨congrArg str ?_, rfl⟩
            have hrt : recText seq l = recGo (dec seq) l := by unfold recText; rw [if_pos h_1]
            rw [hrt, ← hR, List.drop_of_length_le (by omega), recGo, recEnd]
            first | rw [if_pos (by assumption)] | rw [if_neg (by assumption)]
        · skip
          refine JX.op rfl rfl (JO.call [] Tryz.call94 rfl (Y_specSum b (by (try simp only [List.length_append, List.length_cons, List.length_nil]); omega)) rfl (fun _ _ => trivial)) ?_
          rintro _ _ ⟨_, ⟨rfl, rfl⟩, rfl⟩
          have hbs_37 := byteSum_lo b
          refine ⟨by simp, ?_⟩
          refine JA.two (i := 1) (j := 6) (by kernel_rfl) ?_ ?_
          · skip
            refine JX.op rfl rfl (JO.ofLO (LO.toStr 0 b rfl Tryz.underlying39 Tryz.underlying5 Tryz.underlying9 rfl rfl)) ?_
            rintro _ _ ⟨rfl, rfl⟩
            refine ⟨by simp, ?_⟩
            refine JA.takeP 2 rfl (by kernel_rfl) (NP.th NP.body) (by kernel_rfl) (by kernel_rfl) rfl (PO.addS rfl rfl (by (try simp only [List.length_append, List.length_cons, List.length_nil, List.length_drop, List.length_take]); omega)) ?_
            refine JA.one (i := 6) (by kernel_rfl) ?_
            refine JX.op rfl rfl (JO.call [] Tryz.call91 rfl (C_sDec ((byteSum b : Nat) : Int) (by omega) (by omega)) rfl (fun _ _ => trivial)) ?_
            rintro _ _ ⟨_, ⟨rfl, rfl⟩, rfl⟩
            have hdl_40 := dec_len (n := ((byteSum b : Nat) : Int)) (by omega) (by omega)
            refine ⟨by simp, ?_⟩
            refine JA.takeP 7 rfl (by kernel_rfl) (NP.th NP.body) (by kernel_rfl) (by kernel_rfl) rfl (PO.addS rfl rfl (by (try simp only [List.length_append, List.length_cons, List.length_nil, List.length_drop, List.length_take]); omega)) ?_
            refine JA.takeP 8 rfl (by kernel_rfl) (NP.th NP.body) (by kernel_rfl) (by kernel_rfl) rfl (PO.addS rfl rfl (by (try simp only [List.length_append, List.length_cons, List.length_nil, List.length_drop, List.length_take]); omega)) ?_
            refine JA.takeP 9 rfl (by kernel_rfl) (NP.th NP.body) (by kernel_rfl) (by kernel_rfl) rfl (PO.assign (v := str (((b ++ [32, 35]) ++ (dec ((byteSum b : Nat) : Int))) ++ [10])) rfl) ?_
            refine JA.done (by kernel_rfl) ?_
            refine JQ.seq ?_
            refine JC.seq ?_
            refine JC.seq ?_
            refine JC.region ?_
            refine JL.pure rfl (PO.move (v := str (((b ++ [32, 35]) ++ (dec ((byteSum b : Nat) : Int))) ++ [10])) rfl) ?_
            refine JL.pure rfl (PO.lenS Tryz.underlying9 rfl) ?_
            refine JL.pure rfl (PO.gtr rfl rfl) ?_
            refine JL.nil ?_
            refine JQ.seq ?_
            by_cases h_41 : 4000 < ((((b ++ [32, 35]) ++ (dec ((byteSum b : Nat) : Int))) ++ [10]).length : Int)
            · skip
              refine JC.condT (congrArg Value.bool (decide_eq_true h_41)) ?_
              refine JC.seq ?_
              refine JC.region ?_
              refine JL.pure rfl (PO.assign (v := str []) rfl) ?_
              refine JL.nil ?_
              refine JQ.seq ?_
              refine JC.ret ?_
              refine JQ.thenRet ?_
              refine Done.one (.inl rfl) rfl (RV.tmp (v := str []) rfl) (List.nil_sublist _) ?_
              refine ⟨congrArg str ?_, rfl⟩
              have hrt : recText seq l = recGo (dec seq) l := by unfold recText; rw [if_pos h_1]
              rw [hrt, ← hR, List.drop_of_length_le (by omega), recGo, recEnd]
              first | rw [if_pos (by assumption)] | rw [if_neg (by assumption)]
            · skip
              refine JC.condF (congrArg Value.bool (decide_eq_false h_41)) ?_
              refine JC.skip ?_
              refine JQ.seq ?_
              refine JC.seq ?_
              refine JC.region ?_
              refine JL.pure rfl (PO.move (v := str (((b ++ [32, 35]) ++ (dec ((byteSum b : Nat) : Int))) ++ [10])) rfl) ?_
              refine JL.pure rfl (PO.assign (v := str (((b ++ [32, 35]) ++ (dec ((byteSum b : Nat) : Int))) ++ [10])) rfl) ?_
              refine JL.nil ?_
              refine JQ.seq ?_
              refine JC.ret ?_
              refine Done.one (.inl rfl) rfl (RV.tmp (v := str (((b ++ [32, 35]) ++ (dec ((byteSum b : Nat) : Int))) ++ [10])) rfl) (List.nil_sublist _) ?_
              refine ⟨congrArg str ?_, rfl⟩
              have hrt : recText seq l = recGo (dec seq) l := by unfold recText; rw [if_pos h_1]
              rw [hrt, ← hR, List.drop_of_length_le (by omega), recGo, recEnd]
              first | rw [if_pos (by assumption)] | rw [if_neg (by assumption)]
          · skip
            refine JX.op rfl rfl (JO.call [] Tryz.call91 rfl (C_sDec ((byteSum b : Nat) : Int) (by omega) (by omega)) rfl (fun _ _ => trivial)) ?_
            rintro _ _ ⟨_, ⟨rfl, rfl⟩, rfl⟩
            have hdl_42 := dec_len (n := ((byteSum b : Nat) : Int)) (by omega) (by omega)
            refine ⟨by simp, ?_⟩
            refine JA.one (i := 1) (by kernel_rfl) ?_
            refine JX.op rfl rfl (JO.ofLO (LO.toStr 0 b rfl Tryz.underlying39 Tryz.underlying5 Tryz.underlying9 rfl rfl)) ?_
            rintro _ _ ⟨rfl, rfl⟩
            refine ⟨by simp, ?_⟩
            refine JA.takeP 2 rfl (by kernel_rfl) (NP.th NP.body) (by kernel_rfl) (by kernel_rfl) rfl (PO.addS rfl rfl (by (try simp only [List.length_append, List.length_cons, List.length_nil, List.length_drop, List.length_take]); omega)) ?_
            refine JA.takeP 7 rfl (by kernel_rfl) (NP.th NP.body) (by kernel_rfl) (by kernel_rfl) rfl (PO.addS rfl rfl (by (try simp only [List.length_append, List.length_cons, List.length_nil, List.length_drop, List.length_take]); omega)) ?_
            refine JA.takeP 8 rfl (by kernel_rfl) (NP.th NP.body) (by kernel_rfl) (by kernel_rfl) rfl (PO.addS rfl rfl (by (try simp only [List.length_append, List.length_cons, List.length_nil, List.length_drop, List.length_take]); omega)) ?_
            refine JA.takeP 9 rfl (by kernel_rfl) (NP.th NP.body) (by kernel_rfl) (by kernel_rfl) rfl (PO.assign (v := str (((b ++ [32, 35]) ++ (dec ((byteSum b : Nat) : Int))) ++ [10])) rfl) ?_
            refine JA.done (by kernel_rfl) ?_
            refine JQ.seq ?_
            refine JC.seq ?_
            refine JC.seq ?_
            refine JC.region ?_
            refine JL.pure rfl (PO.move (v := str (((b ++ [32, 35]) ++ (dec ((byteSum b : Nat) : Int))) ++ [10])) rfl) ?_
            refine JL.pure rfl (PO.lenS Tryz.underlying9 rfl) ?_
            refine JL.pure rfl (PO.gtr rfl rfl) ?_
            refine JL.nil ?_
            refine JQ.seq ?_
            by_cases h_43 : 4000 < ((((b ++ [32, 35]) ++ (dec ((byteSum b : Nat) : Int))) ++ [10]).length : Int)
            · skip
              refine JC.condT (congrArg Value.bool (decide_eq_true h_43)) ?_
              refine JC.seq ?_
              refine JC.region ?_
              refine JL.pure rfl (PO.assign (v := str []) rfl) ?_
              refine JL.nil ?_
              refine JQ.seq ?_
              refine JC.ret ?_
              refine JQ.thenRet ?_
              refine Done.one (.inl rfl) rfl (RV.tmp (v := str []) rfl) (List.nil_sublist _) ?_
              refine ⟨congrArg str ?_, rfl⟩
              have hrt : recText seq l = recGo (dec seq) l := by unfold recText; rw [if_pos h_1]
              rw [hrt, ← hR, List.drop_of_length_le (by omega), recGo, recEnd]
              first | rw [if_pos (by assumption)] | rw [if_neg (by assumption)]
            · skip
              refine JC.condF (congrArg Value.bool (decide_eq_false h_43)) ?_
              refine JC.skip ?_
              refine JQ.seq ?_
              refine JC.seq ?_
              refine JC.region ?_
              refine JL.pure rfl (PO.move (v := str (((b ++ [32, 35]) ++ (dec ((byteSum b : Nat) : Int))) ++ [10])) rfl) ?_
              refine JL.pure rfl (PO.assign (v := str (((b ++ [32, 35]) ++ (dec ((byteSum b : Nat) : Int))) ++ [10])) rfl) ?_
              refine JL.nil ?_
              refine JQ.seq ?_
              refine JC.ret ?_
              refine Done.one (.inl rfl) rfl (RV.tmp (v := str (((b ++ [32, 35]) ++ (dec ((byteSum b : Nat) : Int))) ++ [10])) rfl) (List.nil_sublist _) ?_
              refine ⟨congrArg str ?_, rfl⟩
              have hrt : recText seq l = recGo (dec seq) l := by unfold recText; rw [if_pos h_1]
              rw [hrt, ← hR, List.drop_of_length_le (by omega), recGo, recEnd]
              first | rw [if_pos (by assumption)] | rw [if_neg (by assumption)]
  · skip
    refine JC.condT (congrArg Value.bool (congrArg Bool.not h_1)) ?_
    refine JC.seq ?_
    refine JC.region ?_
    refine JL.pure rfl (PO.assign (v := str []) rfl) ?_
    refine JL.nil ?_
    refine JQ.seq ?_
    refine JC.ret ?_
    refine JQ.thenRet ?_
    refine Done.one (.inl rfl) rfl (RV.tmp (v := str []) rfl) (List.nil_sublist _) ?_
    refine ⟨congrArg str ?_, rfl⟩
    unfold recText
    rw [h_1]
    rfl

set_option maxRecDepth 4000 in
set_option maxHeartbeats 1000000 in
theorem Y_sSplit (s : Str) (sg : UInt8) (hs : s.length ≤ 100000000) :
    Ct Tryz.prog 105 [str s, .int .u8 ((sg.toNat : Nat) : Int)] [] (fun _ => True) (fun v A' => ∃ a c, v = .slice a (splitB sg s).length c ∧ A' = [.row (.slice a (splitB sg s).length c) 9 1 (splitB sg s).length ((splitB sg s).map str)]) := by
  refine Ct.intro Tryz.func105 rfl Tryz.ntmps105 (Nat.le_of_ble_eq_true rfl) fun w0 hpre => ?_
  refine JC.seq ?_
  refine JC.region ?_
  refine JL.pure rfl (PO.assign (v := .slice none 0 0) rfl) ?_
  refine JL.nil ?_
  refine JQ.seq ?_
  refine JC.seq ?_
  refine JC.region ?_
  refine JL.op rfl (JO.buildSlice (ps := []) (cur := #[]) Tryz.underlying71 Tryz.sizeOf9 Tryz.zeroValue9 rfl (by kernel_rfl) (by decide) (by decide)) ?_
  rintro _ _ ⟨a_1, rfl, rfl⟩
  refine JL.pure rfl (PO.assign (v := .slice a_1 0 0) rfl) ?_
  refine JL.nil ?_
  refine JQ.seq ?_
  refine JC.seq ?_
  refine JC.region ?_
  refine JL.pure rfl (PO.assign (v := .int .i64 0) rfl) ?_
  refine JL.nil ?_
  refine JQ.seq ?_
  refine JC.seq ?_
  refine JC.seq ?_
  refine JC.region ?_
  refine JL.pure rfl (PO.assign (v := .int .i64 0) rfl) ?_
  refine JL.nil ?_
  refine JQ.seq ?_
  refine JC.block ?_
  refine JC.loop (fun k_ e_ L_ => ∃ i : Nat, ∃ b : Nat, ∃ oa : Option Addr, ∃ oc : Nat, ∃ o_ : List Str, (i ≤ s.length + 1) ∧ (b ≤ i) ∧ (o_.length ≤ i) ∧ (∀ k, b ≤ k → k < i → i ≤ s.length → s.getD k 0 ≠ sg) ∧ (i ≤ s.length → o_ ++ splitB sg (s.drop b) = splitB sg s) ∧ (s.length < i → o_ = splitB sg s) ∧ e_ 0 = str s ∧ e_ 1 = .int .u8 ((sg.toNat : Nat) : Int) ∧ e_ 4 = .slice none 0 0 ∧ e_ 5 = .slice oa o_.length oc ∧ e_ 6 = .int .i64 ((b : Nat) : Int) ∧ e_ 7 = .int .i64 ((i : Nat) : Int) ∧ L_ = [rS oa oc o_] ∧ k_ = s.length + 1 - i) _ ⟨0, 0, a_1, 0, [], by omega, by omega, (by simp), (fun k h1 h2 => absurd h2 (by omega)), (fun _ => rfl), (fun h3 => absurd h3 (by omega)), rfl, rfl, rfl, rfl, rfl, rfl, rfl, rfl⟩ ?_
  rintro _ e_2 _ ⟨i, b, oa, oc, o_, hi, hb, ho, hN, hR, hE, he_3, he_4, he_5, he_6, he_7, he_8, rfl, rfl⟩
  refine JC.seq ?_
  refine JC.seq ?_
  refine JC.region ?_
  refine JL.pure rfl (PO.move (v := .int .i64 ((i : Nat) : Int)) he_8) ?_
  refine JL.pure rfl (PO.move (v := str s) he_3) ?_
  refine JL.pure rfl (PO.lenS Tryz.underlying9 rfl) ?_
  refine JL.pure rfl (PO.leq rfl rfl) ?_
  refine JL.nil ?_
  refine JQ.seq ?_
  by_cases h_9 : ((i : Nat) : Int) ≤ (s.length : Int)
  · skip
    refine JC.condT (congrArg Value.bool (decide_eq_true h_9)) ?_
    refine JC.skip ?_
    refine JQ.seq ?_
    refine JC.seq ?_
    refine JC.block ?_
    refine JC.seq ?_
    refine JC.region ?_
    refine JL.pure rfl (PO.move (v := .int .i64 ((i : Nat) : Int)) he_8) ?_
    refine JL.pure rfl (PO.move (v := str s) he_3) ?_
    refine JL.pure rfl (PO.lenS Tryz.underlying9 rfl) ?_
    refine JL.pure rfl (PO.eqlI rfl rfl) ?_
    refine JL.pure rfl (PO.move (v := .bool (decide (((i : Nat) : Int) = (s.length : Int)))) rfl) ?_
    by_cases h_10 : ((i : Nat) : Int) = (s.length : Int)
    · skip
      refine JL.guardOff (b := true) rfl rfl rfl (congrArg Value.bool (decide_eq_true h_10)) ?_
      refine JL.guardOff (b := true) rfl rfl rfl (congrArg Value.bool (decide_eq_true h_10)) ?_
      refine JL.guardOff (b := true) rfl rfl rfl (congrArg Value.bool (decide_eq_true h_10)) ?_
      refine JL.guardOff (b := true) rfl rfl rfl (congrArg Value.bool (decide_eq_true h_10)) ?_
      refine JL.guardOff (b := true) rfl rfl rfl (congrArg Value.bool (decide_eq_true h_10)) ?_
      refine JL.pure rfl (PO.pickT (v := .bool true) (congrArg Value.bool (decide_eq_true h_10)) rfl) ?_
      refine JL.nil ?_
      refine JQ.seq ?_
      refine JC.condT (congrArg Value.bool rfl) ?_
      refine JC.seq ?_
      refine JC.region ?_
      refine JL.pure rfl (PO.move (v := .slice oa o_.length oc) he_6) ?_
      refine JL.pure rfl (PO.move (v := str s) he_3) ?_
      refine JL.pure rfl (PO.move (v := .int .i64 ((b : Nat) : Int)) he_7) ?_
      refine JL.pure rfl (PO.move (v := .int .i64 ((i : Nat) : Int)) he_8) ?_
      refine JL.pure rfl (PO.sliceS (i := b) (j := i) Tryz.underlying9 rfl rfl rfl (by omega) (by omega)) ?_
      refine JL.op rfl (JO.buildSlice (ps := [(0, str ((s.drop b).take (i - b)))]) (cur := #[str ((s.drop b).take (i - b))]) Tryz.underlying71 Tryz.sizeOf9 Tryz.zeroValue9 rfl (by kernel_rfl) (by decide) (by decide)) ?_
      rintro _ _ ⟨a_11, rfl, rfl⟩
      refine JL.op rfl (JO.append' 1 (q := 1) (news := ([(s.drop b).take (i - b)] : List Str).map str) (n' := (o_ ++ ([(s.drop b).take (i - b)] : List Str)).length) (cs' := (o_ ++ ([(s.drop b).take (i - b)] : List Str)).map str) rfl Tryz.underlying71 Tryz.underlying71 Tryz.typeInfo9 rfl (by' := 16) rfl rfl rfl rfl rfl (fun w hw => Src.sees (hw.see (i := 0) rfl) (oneS _)) (by (try simp only [List.length_append, List.length_cons, List.length_nil, List.length_take, List.length_drop]); omega) (by (try simp only [List.length_append, List.length_cons, List.length_nil, List.length_take, List.length_drop]); omega) (by simp only [List.length_append, List.length_take, List.length_drop, List.length_cons, List.length_nil] <;> first | rfl | omega) (by simp only [List.map_append])) ?_
      rintro _ _ ⟨a_12, c_13, rfl, rfl⟩
      refine JL.pure rfl (PO.assign (v := .slice a_12 ((o_ ++ ([(s.drop b).take (i - b)] : List Str)).length) c_13) rfl) ?_
      refine JL.nil ?_
      refine JQ.seq ?_
      refine JC.region ?_
      refine JL.pure rfl (PO.move (v := .int .i64 ((i : Nat) : Int)) he_8) ?_
      refine JL.pure rfl (PO.add (c := ((i + 1 : Nat) : Int)) rfl rfl (wr (by omega))) ?_
      refine JL.pure rfl (PO.assign (v := .int .i64 ((i + 1 : Nat) : Int)) rfl) ?_
      refine JL.nil ?_
      refine JQ.blockN ?_
      refine JQ.seq ?_
      refine JC.region ?_
      refine JL.pure rfl (PO.move (v := .int .i64 ((i : Nat) : Int)) he_8) ?_
      refine JL.pure rfl (PO.add (c := ((i + 1 : Nat) : Int)) rfl rfl (wr (by omega))) ?_
      refine JL.pure rfl (PO.assign (v := .int .i64 ((i + 1 : Nat) : Int)) rfl) ?_
      refine JL.nil ?_
      refine JQ.pick [1] (A := [rS a_12 c_13 (o_ ++ ([(s.drop b).take (i - b)] : List Str))]) rfl ?_
      refine JQ.again (s.length + 1 - (i + 1)) (by omega) ⟨i + 1, i + 1, a_12, c_13, (o_ ++ ([(s.drop b).take (i - b)] : List Str)), by omega, by omega, (by (try simp only [List.length_append, List.length_cons, List.length_nil]); omega), (fun k h1 h2 h3 => absurd h3 (by omega)), (fun h3 => absurd h3 (by omega)), (fun _ => by have hil : i = s.length := (by omega); subst hil; have h_ := hR (by omega); rw [split_end (fun k h1 h2 => hN k h1 h2 (by omega))] at h_; exact h_), he_3, he_4, he_5, rfl, rfl, rfl, rfl, rfl⟩
    · skip
      refine JL.guardOn rfl rfl rfl (congrArg Value.bool (decide_eq_false h_10)) (JO.ofLO (LO.pure (PO.move (v := str s) he_3))) ?_
      rintro _ _ ⟨rfl, rfl⟩
      refine JL.guardOn rfl rfl rfl (congrArg Value.bool (decide_eq_false h_10)) (JO.ofLO (LO.pure (PO.move (v := .int .i64 ((i : Nat) : Int)) he_8))) ?_
      rintro _ _ ⟨rfl, rfl⟩
      refine JL.guardOn rfl rfl rfl (congrArg Value.bool (decide_eq_false h_10)) (JO.ofLO (LO.pure (PO.indexS (i := i) (c := s.getD i 0) Tryz.underlying9 rfl rfl (getD_some (by omega))))) ?_
      rintro _ _ ⟨rfl, rfl⟩
      have hu_14 := UInt8.toNat_lt (s.getD i 0)
      refine JL.guardOn rfl rfl rfl (congrArg Value.bool (decide_eq_false h_10)) (JO.ofLO (LO.pure (PO.move (v := .int .u8 ((sg.toNat : Nat) : Int)) he_4))) ?_
      rintro _ _ ⟨rfl, rfl⟩
      refine JL.guardOn rfl rfl rfl (congrArg Value.bool (decide_eq_false h_10)) (JO.ofLO (LO.pure (PO.eqlI rfl rfl))) ?_
      rintro _ _ ⟨rfl, rfl⟩
      refine JL.pure rfl (PO.pickF (v := .bool (decide (((s.getD i 0).toNat : Int) = ((sg.toNat : Nat) : Int)))) (congrArg Value.bool (decide_eq_false h_10)) rfl) ?_
      refine JL.nil ?_
      refine JQ.seq ?_
      by_cases h_15 : ((s.getD i 0).toNat : Int) = ((sg.toNat : Nat) : Int)
      · skip
        have hu_16 := u8_eq h_15
        refine JC.condT (congrArg Value.bool (decide_eq_true h_15)) ?_
        refine JC.seq ?_
        refine JC.region ?_
        refine JL.pure rfl (PO.move (v := .slice oa o_.length oc) he_6) ?_
        refine JL.pure rfl (PO.move (v := str s) he_3) ?_
        refine JL.pure rfl (PO.move (v := .int .i64 ((b : Nat) : Int)) he_7) ?_
        refine JL.pure rfl (PO.move (v := .int .i64 ((i : Nat) : Int)) he_8) ?_
        refine JL.pure rfl (PO.sliceS (i := b) (j := i) Tryz.underlying9 rfl rfl rfl (by omega) (by omega)) ?_
        refine JL.op rfl (JO.buildSlice (ps := [(0, str ((s.drop b).take (i - b)))]) (cur := #[str ((s.drop b).take (i - b))]) Tryz.underlying71 Tryz.sizeOf9 Tryz.zeroValue9 rfl (by kernel_rfl) (by decide) (by decide)) ?_
        rintro _ _ ⟨a_17, rfl, rfl⟩
        refine JL.op rfl (JO.append' 1 (q := 1) (news := ([(s.drop b).take (i - b)] : List Str).map str) (n' := (o_ ++ ([(s.drop b).take (i - b)] : List Str)).length) (cs' := (o_ ++ ([(s.drop b).take (i - b)] : List Str)).map str) rfl Tryz.underlying71 Tryz.underlying71 Tryz.typeInfo9 rfl (by' := 16) rfl rfl rfl rfl rfl (fun w hw => Src.sees (hw.see (i := 0) rfl) (oneS _)) (by (try simp only [List.length_append, List.length_cons, List.length_nil, List.length_take, List.length_drop]); omega) (by (try simp only [List.length_append, List.length_cons, List.length_nil, List.length_take, List.length_drop]); omega) (by simp only [List.length_append, List.length_take, List.length_drop, List.length_cons, List.length_nil] <;> first | rfl | omega) (by simp only [List.map_append])) ?_
        rintro _ _ ⟨a_18, c_19, rfl, rfl⟩
        refine JL.pure rfl (PO.assign (v := .slice a_18 ((o_ ++ ([(s.drop b).take (i - b)] : List Str)).length) c_19) rfl) ?_
        refine JL.nil ?_
        refine JQ.seq ?_
        refine JC.region ?_
        refine JL.pure rfl (PO.move (v := .int .i64 ((i : Nat) : Int)) he_8) ?_
        refine JL.pure rfl (PO.add (c := ((i + 1 : Nat) : Int)) rfl rfl (wr (by omega))) ?_
        refine JL.pure rfl (PO.assign (v := .int .i64 ((i + 1 : Nat) : Int)) rfl) ?_
        refine JL.nil ?_
        refine JQ.blockN ?_
        refine JQ.seq ?_
        refine JC.region ?_
        refine JL.pure rfl (PO.move (v := .int .i64 ((i : Nat) : Int)) he_8) ?_
        refine JL.pure rfl (PO.add (c := ((i + 1 : Nat) : Int)) rfl rfl (wr (by omega))) ?_
        refine JL.pure rfl (PO.assign (v := .int .i64 ((i + 1 : Nat) : Int)) rfl) ?_
        refine JL.nil ?_
        refine JQ.pick [1] (A := [rS a_18 c_19 (o_ ++ ([(s.drop b).take (i - b)] : List Str))]) rfl ?_
        refine JQ.again (s.length + 1 - (i + 1)) (by omega) ⟨i + 1, i + 1, a_18, c_19, (o_ ++ ([(s.drop b).take (i - b)] : List Str)), by omega, by omega, (by (try simp only [List.length_append, List.length_cons, List.length_nil]); omega), (fun k h1 h2 h3 => absurd h2 (by omega)), (fun h3 => by have h_ := hR (by omega); rw [split_cut (by omega) hb (fun k h1 h2 => hN k h1 h2 (by omega)) hu_16] at h_; rw [List.append_assoc]; exact h_), (fun h3 => absurd h3 (by omega)), he_3, he_4, he_5, rfl, rfl, rfl, rfl, rfl⟩
      · skip
        have hu_20 := u8_ne h_15
        refine JC.condF (congrArg Value.bool (decide_eq_false h_15)) ?_
        refine JC.skip ?_
        refine JQ.blockN ?_
        refine JQ.seq ?_
        refine JC.region ?_
        refine JL.pure rfl (PO.move (v := .int .i64 ((i : Nat) : Int)) he_8) ?_
        refine JL.pure rfl (PO.add (c := ((i + 1 : Nat) : Int)) rfl rfl (wr (by omega))) ?_
        refine JL.pure rfl (PO.assign (v := .int .i64 ((i + 1 : Nat) : Int)) rfl) ?_
        refine JL.nil ?_
        refine JQ.pick [0] (A := [rS oa oc o_]) rfl ?_
        refine JQ.again (s.length + 1 - (i + 1)) (by omega) ⟨i + 1, b, oa, oc, o_, by omega, by omega, (by (try simp only [List.length_append, List.length_cons, List.length_nil]); omega), (fun k h1 h2 h3 => if h : k = i then h ▸ hu_20 else hN k h1 (by omega) (by omega)), (fun h3 => hR (by omega)), (fun h3 => absurd h3 (by omega)), he_3, he_4, he_5, he_6, he_7, rfl, rfl, rfl⟩
  · skip
    refine JC.condF (congrArg Value.bool (decide_eq_false h_9)) ?_
    refine JC.exit ?_
    refine JQ.thenExit ?_
    refine JQ.thenExit ?_
    refine JQ.blockE ?_
    refine JQ.seq ?_
    refine JC.seq ?_
    refine JC.region ?_
    refine JL.pure rfl (PO.move (v := .slice oa o_.length oc) he_6) ?_
    refine JL.pure rfl (PO.assign (v := .slice oa o_.length oc) rfl) ?_
    refine JL.nil ?_
    refine JQ.seq ?_
    refine JC.ret ?_
    refine Done.one (.inl rfl) rfl (RV.tmp (v := .slice oa o_.length oc) rfl) (List.Sublist.refl _) ?_
    have he := hE (by omega)
    exact ⟨_, _, by rw [← he], by rw [← he]⟩

theorem Y_sUnhex (t : Str) (ht : t.length ≤ 100000000) : Ct Tryz.prog 107 [str t] [] (fun _ => True) (fun v A' => v = .tuple #[str (unhex t).1, .bool (unhex t).2] ∧ A' = []) :=
  (N_sUnhex t (by omega)).weak (fun _ h => h) fun v A' ⟨u, b, e, _, hv, hA⟩ => ⟨by rw [hv, e], hA⟩

set_option maxRecDepth 4000 in
set_option maxHeartbeats 1000000 in
theorem Y_sRead (t : Str) (ht : t.length ≤ 100000000) :
    Ct Tryz.prog 58 [str t] [] (fun _ => True) (fun v A' => ∃ a c, v = .tuple #[.int .i64 (readI t).1, .slice a (readI t).2.1.length c, .bool (readI t).2.2] ∧ A' = [.row (.slice a (readI t).2.1.length c) 48 2 (readI t).2.1.length ((readI t).2.1.flatMap encC)]) := by
  refine Ct.intro Tryz.func58 rfl Tryz.ntmps58 (Nat.le_of_ble_eq_true rfl) fun w0 hpre => ?_
  refine JC.seq ?_
  refine JC.region ?_
  refine JL.pure rfl (PO.assign (v := .int .i64 0) rfl) ?_
  refine JL.pure rfl (PO.assign (v := .slice none 0 0) rfl) ?_
  refine JL.pure rfl (PO.assign (v := .bool false) rfl) ?_
  refine JL.nil ?_
  refine JQ.seq ?_
  refine JC.seq ?_
  refine JC.region ?_
  refine JL.op rfl (JO.buildSlice (ps := []) (cur := #[]) Tryz.underlying49 Tryz.sizeOf48 Tryz.zeroValue48 rfl (by kernel_rfl) (by decide) (by decide)) ?_
  rintro _ _ ⟨a_1, rfl, rfl⟩
  refine JL.pure rfl (PO.assign (v := .slice a_1 0 0) rfl) ?_
  refine JL.nil ?_
  refine JQ.seq ?_
  refine JC.seq ?_
  refine JC.seq ?_
  refine JC.region ?_
  refine JL.pure rfl (PO.move (v := str t) rfl) ?_
  refine JL.pure rfl (PO.lenS Tryz.underlying9 rfl) ?_
  refine JL.pure rfl (PO.gtr rfl rfl) ?_
  refine JL.nil ?_
  refine JQ.seq ?_
  by_cases h_2 : 4000 < (t.length : Int)
  · skip
    refine JC.condT (congrArg Value.bool (decide_eq_true h_2)) ?_
    refine JC.seq ?_
    refine JC.region ?_
    refine JL.pure rfl (PO.move (v := .slice a_1 0 0) rfl) ?_
    refine JL.pure rfl (PO.assign (v := .int .i64 0) rfl) ?_
    refine JL.pure rfl (PO.assign (v := .slice a_1 0 0) rfl) ?_
    refine JL.pure rfl (PO.assign (v := .bool false) rfl) ?_
    refine JL.nil ?_
    refine JQ.seq ?_
    refine JC.ret ?_
    refine JQ.thenRet ?_
    refine Done.three (.inl rfl) rfl (RV.tmp (v := .int .i64 0) rfl) (RV.tmp (v := .slice a_1 0 0) rfl) (RV.tmp (v := .bool false) rfl) (List.Sublist.refl _) ?_
    have he := readS_long h_2
    exact ⟨a_1, 0, by rw [← readS_eq, he] <;> rfl, by rw [← readS_eq, he] <;> rfl⟩
  · skip
    refine JC.condF (congrArg Value.bool (decide_eq_false h_2)) ?_
    refine JC.skip ?_
    refine JQ.seq ?_
    refine JC.seq ?_
    refine JC.region ?_
    refine JL.pure rfl (PO.move (v := str t) rfl) ?_
    refine JL.op rfl (JO.call [] Tryz.call105 rfl (Y_sSplit t 32 (by omega)) rfl (fun _ _ => trivial)) ?_
    rintro _ _ ⟨_, ⟨a_3, c_4, rfl, rfl⟩, rfl⟩
    have hsp_5 := splitB_len 32 t
    refine JL.pure rfl (PO.assign (v := .slice a_3 ((splitB 32 t).length) c_4) rfl) ?_
    refine JL.nil ?_
    refine JQ.seq ?_
    refine JC.seq ?_
    refine JC.region ?_
    refine JL.pure rfl (PO.move (v := .slice a_3 ((splitB 32 t).length) c_4) rfl) ?_
    refine JL.facts fun hst => ?_
    obtain ⟨hr_6, hr_6b, -⟩ := row_some 0 rfl (by omega) hst
    refine JL.pure rfl (PO.indexAddrV (i := 0) Tryz.underlying71 Tryz.sizeOf9 hr_6 hr_6b rfl rfl (by omega)) ?_
    refine JL.ld rfl (LO.loadR1 0 (v := str ((splitB 32 t).getD 0 [])) rfl rfl Tryz.isAgg9 (atS (by omega))) ?_
    refine JL.op rfl (JO.call [] Tryz.call106 rfl (C_sReadDec ((splitB 32 t).getD 0 []) (by have h_2 := splitB_get 32 t 0; omega)) rfl (fun _ _ => trivial)) ?_
    rintro _ _ ⟨_, ⟨rfl, rfl⟩, rfl⟩
    refine JL.pure rfl (PO.move (v := .tuple #[.int .i64 ((readDec ((splitB 32 t).getD 0 [])).1), .bool ((readDec ((splitB 32 t).getD 0 [])).2)]) rfl) ?_
    refine JL.pure rfl (PO.extract (v := .int .i64 ((readDec ((splitB 32 t).getD 0 [])).1)) rfl rfl) ?_
    refine JL.pure rfl (PO.extract (v := .bool ((readDec ((splitB 32 t).getD 0 [])).2)) rfl rfl) ?_
    refine JL.pure rfl (PO.assign (v := .int .i64 ((readDec ((splitB 32 t).getD 0 [])).1)) rfl) ?_
    refine JL.pure rfl (PO.assign (v := .bool ((readDec ((splitB 32 t).getD 0 [])).2)) rfl) ?_
    refine JL.nil ?_
    refine JQ.seq ?_
    refine JC.seq ?_
    refine JC.region ?_
    refine JL.op rfl (JO.buildSlice (ps := []) (cur := #[]) Tryz.underlying49 Tryz.sizeOf48 Tryz.zeroValue48 rfl (by kernel_rfl) (by decide) (by decide)) ?_
    rintro _ _ ⟨a_7, rfl, rfl⟩
    refine JL.pure rfl (PO.assign (v := .slice a_7 0 0) rfl) ?_
    refine JL.nil ?_
    refine JQ.seq ?_
    refine JC.seq ?_
    refine JC.seq ?_
    refine JC.region ?_
    refine JL.pure rfl (PO.assign (v := .int .i64 1) rfl) ?_
    refine JL.nil ?_
    refine JQ.seq ?_
    refine JC.block ?_
    refine JC.loop (fun k_ e_ L_ => ∃ i : Nat, ∃ oa : Option Addr, ∃ oc : Nat, ∃ o_ : List Cell, (1 ≤ i) ∧ (i = 1 ∨ i + 1 ≤ (splitB 32 t).length) ∧ (o_.length ≤ i) ∧ (o_ = (((splitB 32 t).drop 1).take (i - 1)).map readWord) ∧ (∀ k, 1 ≤ k → k < i → (splitB 61 ((splitB 32 t).getD k [])).length = 2) ∧ e_ 0 = str t ∧ e_ 5 = .slice a_1 0 0 ∧ e_ 6 = .slice a_3 ((splitB 32 t).length) c_4 ∧ e_ 7 = .int .i64 ((readDec ((splitB 32 t).getD 0 [])).1) ∧ e_ 8 = .bool ((readDec ((splitB 32 t).getD 0 [])).2) ∧ e_ 9 = .slice oa o_.length oc ∧ e_ 10 = .int .i64 ((i : Nat) : Int) ∧ L_ = [rC oa oc o_, rS a_3 c_4 (splitB 32 t), Res.row (.slice a_1 0 0) 48 2 0 (([] : List Cell).flatMap encC)] ∧ k_ = (splitB 32 t).length - i) _ ⟨1, a_7, 0, [], by omega, by omega, (by simp), (by simp), (fun k h1 h2 => absurd h1 (by omega)), rfl, rfl, rfl, rfl, rfl, rfl, rfl, rfl, rfl⟩ ?_
    rintro _ e_8 _ ⟨i, oa, oc, o_, h1, hi, hol, ho, hN, he_9, he_10, he_11, he_12, he_13, he_14, he_15, rfl, rfl⟩
    refine JC.seq ?_
    refine JC.seq ?_
    refine JC.region ?_
    refine JL.pure rfl (PO.move (v := .int .i64 ((i : Nat) : Int)) he_15) ?_
    refine JL.pure rfl (PO.move (v := .slice a_3 ((splitB 32 t).length) c_4) he_11) ?_
    refine JL.pure rfl (PO.lenV Tryz.underlying71 rfl) ?_
    refine JL.pure rfl (PO.sub (c := (((splitB 32 t).length : Nat) : Int) - 1) rfl rfl (wr (by omega))) ?_
    refine JL.pure rfl (PO.lss rfl rfl) ?_
    refine JL.nil ?_
    refine JQ.seq ?_
    by_cases h_16 : ((i : Nat) : Int) < ((((splitB 32 t).length : Nat) : Int) - 1)
    · skip
      refine JC.condT (congrArg Value.bool (decide_eq_true h_16)) ?_
      refine JC.skip ?_
      refine JQ.seq ?_
      refine JC.seq ?_
      refine JC.block ?_
      refine JC.seq ?_
      refine JC.region ?_
      refine JL.pure rfl (PO.move (v := .slice a_3 ((splitB 32 t).length) c_4) he_11) ?_
      refine JL.pure rfl (PO.move (v := .int .i64 ((i : Nat) : Int)) he_15) ?_
      refine JL.pure rfl (PO.indexAddrV (i := i) Tryz.underlying71 Tryz.sizeOf9 hr_6 hr_6b rfl rfl (by omega)) ?_
      refine JL.ld rfl (LO.loadR1 1 (v := str ((splitB 32 t).getD i [])) rfl rfl Tryz.isAgg9 (atS (by omega))) ?_
      refine JL.op rfl (JO.call [] Tryz.call105 rfl (Y_sSplit ((splitB 32 t).getD i []) 61 (by have h_1 := splitB_get 32 t i; have h_2 := splitB_get 32 t 0; have h_3 := splitB_get 61 ((splitB 32 t).getD i []) 0; have h_4 := splitB_get 61 ((splitB 32 t).getD i []) 1; omega)) rfl (fun _ _ => trivial)) ?_
      rintro _ _ ⟨_, ⟨a_17, c_18, rfl, rfl⟩, rfl⟩
      have hsp_19 := splitB_len 61 ((splitB 32 t).getD i [])
      refine JL.pure rfl (PO.assign (v := .slice a_17 ((splitB 61 ((splitB 32 t).getD i [])).length) c_18) rfl) ?_
      refine JL.nil ?_
      refine JQ.seq ?_
      refine JC.seq ?_
      refine JC.seq ?_
      refine JC.region ?_
      refine JL.pure rfl (PO.move (v := .slice a_17 ((splitB 61 ((splitB 32 t).getD i [])).length) c_18) rfl) ?_
      refine JL.pure rfl (PO.lenV Tryz.underlying71 rfl) ?_
      refine JL.pure rfl (PO.neqI rfl rfl) ?_
      refine JL.nil ?_
      refine JQ.seq ?_
      by_cases h_20 : (((splitB 61 ((splitB 32 t).getD i [])).length : Nat) : Int) = 2
      · skip
        refine JC.condF (congrArg Value.bool (congrArg Bool.not (decide_eq_true h_20))) ?_
        refine JC.skip ?_
        refine JQ.seq ?_
        refine JC.seq ?_
        refine JC.region ?_
        refine JL.pure rfl (PO.move (v := .slice a_17 ((splitB 61 ((splitB 32 t).getD i [])).length) c_18) rfl) ?_
        refine JL.facts fun hst => ?_
        obtain ⟨hr_21, hr_21b, -⟩ := row_some 0 rfl (by omega) hst
        refine JL.pure rfl (PO.indexAddrV (i := 0) Tryz.underlying71 Tryz.sizeOf9 hr_21 hr_21b rfl rfl (by omega)) ?_
        refine JL.ld rfl (LO.loadR1 0 (v := str ((splitB 61 ((splitB 32 t).getD i [])).getD 0 [])) rfl rfl Tryz.isAgg9 (atS (by omega))) ?_
        refine JL.op rfl (JO.call [] Tryz.call107 rfl (Y_sUnhex ((splitB 61 ((splitB 32 t).getD i [])).getD 0 []) (by have h_1 := splitB_get 32 t i; have h_2 := splitB_get 32 t 0; have h_3 := splitB_get 61 ((splitB 32 t).getD i []) 0; have h_4 := splitB_get 61 ((splitB 32 t).getD i []) 1; omega)) rfl (fun _ _ => trivial)) ?_
        rintro _ _ ⟨_, ⟨rfl, rfl⟩, rfl⟩
        refine JL.pure rfl (PO.move (v := .tuple #[str ((unhex ((splitB 61 ((splitB 32 t).getD i [])).getD 0 [])).1), .bool ((unhex ((splitB 61 ((splitB 32 t).getD i [])).getD 0 [])).2)]) rfl) ?_
        refine JL.pure rfl (PO.extract (v := str ((unhex ((splitB 61 ((splitB 32 t).getD i [])).getD 0 [])).1)) rfl rfl) ?_
        refine JL.pure rfl (PO.extract (v := .bool ((unhex ((splitB 61 ((splitB 32 t).getD i [])).getD 0 [])).2)) rfl rfl) ?_
        refine JL.pure rfl (PO.assign (v := str ((unhex ((splitB 61 ((splitB 32 t).getD i [])).getD 0 [])).1)) rfl) ?_
        refine JL.pure rfl (PO.assign (v := .bool ((unhex ((splitB 61 ((splitB 32 t).getD i [])).getD 0 [])).2)) rfl) ?_
        refine JL.nil ?_
        refine JQ.seq ?_
        refine JC.seq ?_
        refine JC.region ?_
        refine JL.pure rfl (PO.move (v := .slice a_17 ((splitB 61 ((splitB 32 t).getD i [])).length) c_18) rfl) ?_
        refine JL.pure rfl (PO.indexAddrV (i := 1) Tryz.underlying71 Tryz.sizeOf9 hr_21 hr_21b rfl rfl (by omega)) ?_
        refine JL.ld rfl (LO.loadR1 0 (v := str ((splitB 61 ((splitB 32 t).getD i [])).getD 1 [])) rfl rfl Tryz.isAgg9 (atS (by omega))) ?_
        refine JL.op rfl (JO.call [] Tryz.call107 rfl (Y_sUnhex ((splitB 61 ((splitB 32 t).getD i [])).getD 1 []) (by have h_1 := splitB_get 32 t i; have h_2 := splitB_get 32 t 0; have h_3 := splitB_get 61 ((splitB 32 t).getD i []) 0; have h_4 := splitB_get 61 ((splitB 32 t).getD i []) 1; omega)) rfl (fun _ _ => trivial)) ?_
        rintro _ _ ⟨_, ⟨rfl, rfl⟩, rfl⟩
        refine JL.pure rfl (PO.move (v := .tuple #[str ((unhex ((splitB 61 ((splitB 32 t).getD i [])).getD 1 [])).1), .bool ((unhex ((splitB 61 ((splitB 32 t).getD i [])).getD 1 [])).2)]) rfl) ?_
        refine JL.pure rfl (PO.extract (v := str ((unhex ((splitB 61 ((splitB 32 t).getD i [])).getD 1 [])).1)) rfl rfl) ?_
        refine JL.pure rfl (PO.extract (v := .bool ((unhex ((splitB 61 ((splitB 32 t).getD i [])).getD 1 [])).2)) rfl rfl) ?_
        refine JL.pure rfl (PO.assign (v := str ((unhex ((splitB 61 ((splitB 32 t).getD i [])).getD 1 [])).1)) rfl) ?_
        refine JL.pure rfl (PO.assign (v := .bool ((unhex ((splitB 61 ((splitB 32 t).getD i [])).getD 1 [])).2)) rfl) ?_
        refine JL.nil ?_
        refine JQ.seq ?_
        refine JC.region ?_
        refine JL.pure rfl (PO.move (v := .slice oa o_.length oc) he_14) ?_
        refine JL.pure rfl (PO.move (v := str ((unhex ((splitB 61 ((splitB 32 t).getD i [])).getD 0 [])).1)) rfl) ?_
        refine JL.pure rfl (PO.move (v := str ((unhex ((splitB 61 ((splitB 32 t).getD i [])).getD 1 [])).1)) rfl) ?_
        refine JL.pure rfl (PO.build (ps := [(0, str ((unhex ((splitB 61 ((splitB 32 t).getD i [])).getD 0 [])).1)), (1, str ((unhex ((splitB 61 ((splitB 32 t).getD i [])).getD 1 [])).1))]) (cs := [str ((unhex ((splitB 61 ((splitB 32 t).getD i [])).getD 0 [])).1), str ((unhex ((splitB 61 ((splitB 32 t).getD i [])).getD 1 [])).1)]) rfl (by kernel_rfl)) ?_
        refine JL.op rfl (JO.buildSlice (ps := [(0, .agg #[str ((unhex ((splitB 61 ((splitB 32 t).getD i [])).getD 0 [])).1), str ((unhex ((splitB 61 ((splitB 32 t).getD i [])).getD 1 [])).1)])]) (cur := #[str ((unhex ((splitB 61 ((splitB 32 t).getD i [])).getD 0 [])).1), str ((unhex ((splitB 61 ((splitB 32 t).getD i [])).getD 1 [])).1)]) Tryz.underlying49 Tryz.sizeOf48 Tryz.zeroValue48 rfl (by kernel_rfl) (by decide) (by decide)) ?_
        rintro _ _ ⟨a_22, rfl, rfl⟩
        refine JL.op rfl (JO.append' 2 (q := 1) (news := ([((unhex ((splitB 61 ((splitB 32 t).getD i [])).getD 0 [])).1, (unhex ((splitB 61 ((splitB 32 t).getD i [])).getD 1 [])).1)] : List Cell).flatMap encC) (n' := (o_ ++ ([((unhex ((splitB 61 ((splitB 32 t).getD i [])).getD 0 [])).1, (unhex ((splitB 61 ((splitB 32 t).getD i [])).getD 1 [])).1)] : List Cell)).length) (cs' := (o_ ++ ([((unhex ((splitB 61 ((splitB 32 t).getD i [])).getD 0 [])).1, (unhex ((splitB 61 ((splitB 32 t).getD i [])).getD 1 [])).1)] : List Cell)).flatMap encC) rfl Tryz.underlying49 Tryz.underlying49 Tryz.typeInfo48 rfl (by' := 32) rfl rfl rfl rfl rfl (fun w hw => Src.sees (hw.see (i := 0) rfl) (oneC _)) (by (try simp only [List.length_append, List.length_cons, List.length_nil, List.length_take, List.length_drop]); omega) (by (try simp only [List.length_append, List.length_cons, List.length_nil, List.length_take, List.length_drop]); omega) (by simp only [List.length_append, List.length_take, List.length_drop, List.length_cons, List.length_nil] <;> first | rfl | omega) (by simp only [List.flatMap_append])) ?_
        rintro _ _ ⟨a_23, c_24, rfl, rfl⟩
        refine JL.pure rfl (PO.assign (v := .slice a_23 ((o_ ++ ([((unhex ((splitB 61 ((splitB 32 t).getD i [])).getD 0 [])).1, (unhex ((splitB 61 ((splitB 32 t).getD i [])).getD 1 [])).1)] : List Cell)).length) c_24) rfl) ?_
        refine JL.nil ?_
        refine JQ.blockN ?_
        refine JQ.seq ?_
        refine JC.region ?_
        refine JL.pure rfl (PO.move (v := .int .i64 ((i : Nat) : Int)) he_15) ?_
        refine JL.pure rfl (PO.add (c := ((i + 1 : Nat) : Int)) rfl rfl (wr (by omega))) ?_
        refine JL.pure rfl (PO.assign (v := .int .i64 ((i + 1 : Nat) : Int)) rfl) ?_
        refine JL.nil ?_
        refine JQ.pick [2, 2, 2] (A := [rC a_23 c_24 (o_ ++ ([((unhex ((splitB 61 ((splitB 32 t).getD i [])).getD 0 [])).1, (unhex ((splitB 61 ((splitB 32 t).getD i [])).getD 1 [])).1)] : List Cell)), rS a_3 c_4 (splitB 32 t), Res.row (.slice a_1 0 0) 48 2 0 (([] : List Cell).flatMap encC)]) rfl ?_
        refine JQ.again ((splitB 32 t).length - (i + 1)) (by omega) ⟨i + 1, a_23, c_24, (o_ ++ ([((unhex ((splitB 61 ((splitB 32 t).getD i [])).getD 0 [])).1, (unhex ((splitB 61 ((splitB 32 t).getD i [])).getD 1 [])).1)] : List Cell)), by omega, by omega, (by (try simp only [List.length_append, List.length_cons, List.length_nil]); omega), (by rw [mids_step (by omega) (by omega), ← ho, readWord_two (by have h_ := h_20; omega)]), (fun k h1 h2 => if h : k = i then h ▸ (by have h_ := h_20; omega) else hN k h1 (by omega)), he_9, he_10, he_11, he_12, he_13, rfl, rfl, rfl, rfl⟩
      · skip
        refine JC.condT (congrArg Value.bool (congrArg Bool.not (decide_eq_false h_20))) ?_
        refine JC.seq ?_
        refine JC.region ?_
        refine JL.pure rfl (PO.move (v := .slice a_1 0 0) he_10) ?_
        refine JL.pure rfl (PO.assign (v := .int .i64 0) rfl) ?_
        refine JL.pure rfl (PO.assign (v := .slice a_1 0 0) rfl) ?_
        refine JL.pure rfl (PO.assign (v := .bool false) rfl) ?_
        refine JL.nil ?_
        refine JQ.seq ?_
        refine JC.ret ?_
        refine JQ.thenRet ?_
        refine JQ.blockRet ?_
        refine JQ.thenRet ?_
        refine JQ.thenRet ?_
        refine JQ.blockRet ?_
        refine JQ.thenRet ?_
        refine JQ.perm (pick_perm [3] (A := [Res.row (.slice a_1 0 0) 48 2 0 (([] : List Cell).flatMap encC)]) (F := [rS a_17 c_18 (splitB 61 ((splitB 32 t).getD i [])), rC oa oc o_, rS a_3 c_4 (splitB 32 t)]) rfl).symm ?_
        refine Done.three (.inl rfl) rfl (RV.tmp (v := .int .i64 0) rfl) (RV.tmp (v := .slice a_1 0 0) rfl) (RV.tmp (v := .bool false) rfl) (List.sublist_append_left [Res.row (.slice a_1 0 0) 48 2 0 (([] : List Cell).flatMap encC)] [rS a_17 c_18 (splitB 61 ((splitB 32 t).getD i [])), rC oa oc o_, rS a_3 c_4 (splitB 32 t)]) ?_
        have he := readS_mid h_2 (by omega) (by omega) (show ¬ (splitB 61 ((splitB 32 t).getD i [])).length = 2 by have h_ := h_20; omega)
        exact ⟨a_1, 0, by rw [← readS_eq, he] <;> rfl, by rw [← readS_eq, he] <;> rfl⟩
    · skip
      refine JC.condF (congrArg Value.bool (decide_eq_false h_16)) ?_
      refine JC.exit ?_
      refine JQ.thenExit ?_
      refine JQ.thenExit ?_
      refine JQ.blockE ?_
      refine JQ.seq ?_
      refine JC.seq ?_
      have hokl : okC o_ := by rw [ho]; exact okC_read (by rw [List.length_take, List.length_drop]; omega)
      refine JC.region ?_
      refine JL.pure rfl (PO.move (v := .int .i64 ((readDec ((splitB 32 t).getD 0 [])).1)) he_12) ?_
      refine JL.pure rfl (PO.move (v := .slice oa o_.length oc) he_14) ?_
      refine JL.op rfl (JO.call [] Tryz.call41 rfl (Y_sRec ((readDec ((splitB 32 t).getD 0 [])).1) oa oc o_ hokl) rfl (fun w hw => hw.see (i := 0) rfl)) ?_
      rintro _ _ ⟨_, ⟨rfl, rfl⟩, rfl⟩
      refine JL.pure rfl (PO.assign (v := str (recText ((readDec ((splitB 32 t).getD 0 [])).1) o_)) rfl) ?_
      refine JL.nil ?_
      refine JQ.seq ?_
      refine JC.seq ?_
      refine JC.seq ?_
      refine JC.region ?_
      refine JL.pure rfl (PO.move (v := .bool ((readDec ((splitB 32 t).getD 0 [])).2)) he_13) ?_
      refine JL.pure rfl (PO.not rfl) ?_
      refine JL.pure rfl (PO.move (v := .bool (!((readDec ((splitB 32 t).getD 0 [])).2))) rfl) ?_
      rcases Bool.eq_false_or_eq_true ((readDec ((splitB 32 t).getD 0 [])).2) with h_25 | h_25
      · skip
        refine JL.guardOn rfl rfl rfl (congrArg Value.bool (congrArg Bool.not h_25)) (JO.ofLO (LO.pure (PO.move (v := str (recText ((readDec ((splitB 32 t).getD 0 [])).1) o_)) rfl))) ?_
        rintro _ _ ⟨rfl, rfl⟩
        refine JL.guardOn rfl rfl rfl (congrArg Value.bool (congrArg Bool.not h_25)) (JO.ofLO (LO.pure (PO.eqlS rfl rfl))) ?_
        rintro _ _ ⟨rfl, rfl⟩
        refine JL.pure rfl (PO.pickF (v := .bool (decide ((recText ((readDec ((splitB 32 t).getD 0 [])).1) o_) = []))) (congrArg Value.bool (congrArg Bool.not h_25)) rfl) ?_
        refine JL.pure rfl (PO.move (v := .bool (decide ((recText ((readDec ((splitB 32 t).getD 0 [])).1) o_) = []))) rfl) ?_
        by_cases h_26 : (recText ((readDec ((splitB 32 t).getD 0 [])).1) o_) = []
        · skip
          refine JL.guardOff (b := true) rfl rfl rfl (congrArg Value.bool (decide_eq_true h_26)) ?_
          refine JL.guardOff (b := true) rfl rfl rfl (congrArg Value.bool (decide_eq_true h_26)) ?_
          refine JL.guardOff (b := true) rfl rfl rfl (congrArg Value.bool (decide_eq_true h_26)) ?_
          refine JL.pure rfl (PO.pickT (v := .bool true) (congrArg Value.bool (decide_eq_true h_26)) rfl) ?_
          refine JL.nil ?_
          refine JQ.seq ?_
          refine JC.condT (congrArg Value.bool rfl) ?_
          refine JC.seq ?_
          refine JC.region ?_
          refine JL.pure rfl (PO.move (v := .slice a_1 0 0) he_10) ?_
          refine JL.pure rfl (PO.assign (v := .int .i64 0) rfl) ?_
          refine JL.pure rfl (PO.assign (v := .slice a_1 0 0) rfl) ?_
          refine JL.pure rfl (PO.assign (v := .bool false) rfl) ?_
          refine JL.nil ?_
          refine JQ.seq ?_
          refine JC.ret ?_
          refine JQ.thenRet ?_
          refine JQ.perm (pick_perm [2] (A := [Res.row (.slice a_1 0 0) 48 2 0 (([] : List Cell).flatMap encC)]) (F := [rC oa oc o_, rS a_3 c_4 (splitB 32 t)]) rfl).symm ?_
          refine Done.three (.inl rfl) rfl (RV.tmp (v := .int .i64 0) rfl) (RV.tmp (v := .slice a_1 0 0) rfl) (RV.tmp (v := .bool false) rfl) (List.sublist_append_left [Res.row (.slice a_1 0 0) 48 2 0 (([] : List Cell).flatMap encC)] [rC oa oc o_, rS a_3 c_4 (splitB 32 t)]) ?_
          have he := readS_end h_2 (i := i) (by omega) hN
          rw [← ho] at he
          rw [if_pos (by first | exact .inl (by assumption) | exact .inr (.inl (by assumption)) | exact .inr (.inr (by assumption)))] at he
          exact ⟨a_1, 0, by rw [← readS_eq, he] <;> rfl, by rw [← readS_eq, he] <;> rfl⟩
        · skip
          refine JL.guardOn rfl rfl rfl (congrArg Value.bool (decide_eq_false h_26)) (JO.ofLO (LO.pure (PO.move (v := str (recText ((readDec ((splitB 32 t).getD 0 [])).1) o_)) rfl))) ?_
          rintro _ _ ⟨rfl, rfl⟩
          refine JL.guardOn rfl rfl rfl (congrArg Value.bool (decide_eq_false h_26)) (JO.ofLO (LO.pure (PO.move (v := str t) he_9))) ?_
          rintro _ _ ⟨rfl, rfl⟩
          refine JL.guardOn rfl rfl rfl (congrArg Value.bool (decide_eq_false h_26)) (JO.ofLO (LO.pure (PO.neqS rfl rfl))) ?_
          rintro _ _ ⟨rfl, rfl⟩
          refine JL.pure rfl (PO.pickF (v := .bool (!(decide ((recText ((readDec ((splitB 32 t).getD 0 [])).1) o_) = t)))) (congrArg Value.bool (decide_eq_false h_26)) rfl) ?_
          refine JL.nil ?_
          refine JQ.seq ?_
          by_cases h_27 : (recText ((readDec ((splitB 32 t).getD 0 [])).1) o_) = t
          · skip
            refine JC.condF (congrArg Value.bool (congrArg Bool.not (decide_eq_true h_27))) ?_
            refine JC.skip ?_
            refine JQ.seq ?_
            refine JC.seq ?_
            refine JC.region ?_
            refine JL.pure rfl (PO.move (v := .int .i64 ((readDec ((splitB 32 t).getD 0 [])).1)) he_12) ?_
            refine JL.pure rfl (PO.move (v := .slice oa o_.length oc) he_14) ?_
            refine JL.pure rfl (PO.assign (v := .int .i64 ((readDec ((splitB 32 t).getD 0 [])).1)) rfl) ?_
            refine JL.pure rfl (PO.assign (v := .slice oa o_.length oc) rfl) ?_
            refine JL.pure rfl (PO.assign (v := .bool true) rfl) ?_
            refine JL.nil ?_
            refine JQ.seq ?_
            refine JC.ret ?_
            refine Done.three (.inl rfl) rfl (RV.tmp (v := .int .i64 ((readDec ((splitB 32 t).getD 0 [])).1)) rfl) (RV.tmp (v := .slice oa o_.length oc) rfl) (RV.tmp (v := .bool true) rfl) (List.sublist_append_left [rC oa oc o_] [rS a_3 c_4 (splitB 32 t), Res.row (.slice a_1 0 0) 48 2 0 (([] : List Cell).flatMap encC)]) ?_
            have he := readS_end h_2 (i := i) (by omega) hN
            rw [← ho] at he
            rw [if_neg (by rintro (h_ | h_ | h_) <;> simp_all)] at he
            exact ⟨oa, oc, by rw [← readS_eq, he] <;> rfl, by rw [← readS_eq, he] <;> rfl⟩
          · skip
            refine JC.condT (congrArg Value.bool (congrArg Bool.not (decide_eq_false h_27))) ?_
            refine JC.seq ?_
            refine JC.region ?_
            refine JL.pure rfl (PO.move (v := .slice a_1 0 0) he_10) ?_
            refine JL.pure rfl (PO.assign (v := .int .i64 0) rfl) ?_
            refine JL.pure rfl (PO.assign (v := .slice a_1 0 0) rfl) ?_
            refine JL.pure rfl (PO.assign (v := .bool false) rfl) ?_
            refine JL.nil ?_
            refine JQ.seq ?_
            refine JC.ret ?_
            refine JQ.thenRet ?_
            refine JQ.perm (pick_perm [2] (A := [Res.row (.slice a_1 0 0) 48 2 0 (([] : List Cell).flatMap encC)]) (F := [rC oa oc o_, rS a_3 c_4 (splitB 32 t)]) rfl).symm ?_
            refine Done.three (.inl rfl) rfl (RV.tmp (v := .int .i64 0) rfl) (RV.tmp (v := .slice a_1 0 0) rfl) (RV.tmp (v := .bool false) rfl) (List.sublist_append_left [Res.row (.slice a_1 0 0) 48 2 0 (([] : List Cell).flatMap encC)] [rC oa oc o_, rS a_3 c_4 (splitB 32 t)]) ?_
            have he := readS_end h_2 (i := i) (by omega) hN
            rw [← ho] at he
            rw [if_pos (by first | exact .inl (by assumption) | exact .inr (.inl (by assumption)) | exact .inr (.inr (by assumption)))] at he
            exact ⟨a_1, 0, by rw [← readS_eq, he] <;> rfl, by rw [← readS_eq, he] <;> rfl⟩
      · skip
        refine JL.guardOff (b := true) rfl rfl rfl (congrArg Value.bool (congrArg Bool.not h_25)) ?_
        refine JL.guardOff (b := true) rfl rfl rfl (congrArg Value.bool (congrArg Bool.not h_25)) ?_
        refine JL.pure rfl (PO.pickT (v := .bool true) (congrArg Value.bool (congrArg Bool.not h_25)) rfl) ?_
        refine JL.pure rfl (PO.move (v := .bool true) rfl) ?_
        refine JL.guardOff (b := true) rfl rfl rfl (congrArg Value.bool rfl) ?_
        refine JL.guardOff (b := true) rfl rfl rfl (congrArg Value.bool rfl) ?_
        refine JL.guardOff (b := true) rfl rfl rfl (congrArg Value.bool rfl) ?_
        refine JL.pure rfl (PO.pickT (v := .bool true) (congrArg Value.bool rfl) rfl) ?_
        refine JL.nil ?_
        refine JQ.seq ?_
        refine JC.condT (congrArg Value.bool rfl) ?_
        refine JC.seq ?_
        refine JC.region ?_
        refine JL.pure rfl (PO.move (v := .slice a_1 0 0) he_10) ?_
        refine JL.pure rfl (PO.assign (v := .int .i64 0) rfl) ?_
        refine JL.pure rfl (PO.assign (v := .slice a_1 0 0) rfl) ?_
        refine JL.pure rfl (PO.assign (v := .bool false) rfl) ?_
        refine JL.nil ?_
        refine JQ.seq ?_
        refine JC.ret ?_
        refine JQ.thenRet ?_
        refine JQ.perm (pick_perm [2] (A := [Res.row (.slice a_1 0 0) 48 2 0 (([] : List Cell).flatMap encC)]) (F := [rC oa oc o_, rS a_3 c_4 (splitB 32 t)]) rfl).symm ?_
        refine Done.three (.inl rfl) rfl (RV.tmp (v := .int .i64 0) rfl) (RV.tmp (v := .slice a_1 0 0) rfl) (RV.tmp (v := .bool false) rfl) (List.sublist_append_left [Res.row (.slice a_1 0 0) 48 2 0 (([] : List Cell).flatMap encC)] [rC oa oc o_, rS a_3 c_4 (splitB 32 t)]) ?_
        have he := readS_end h_2 (i := i) (by omega) hN
        rw [← ho] at he
        rw [if_pos (by first | exact .inl (by assumption) | exact .inr (.inl (by assumption)) | exact .inr (.inr (by assumption)))] at he
        exact ⟨a_1, 0, by rw [← readS_eq, he] <;> rfl, by rw [← readS_eq, he] <;> rfl⟩

set_option maxRecDepth 4000 in
set_option maxHeartbeats 1000000 in
theorem Y_sLines (s : Str) (hs : s.length ≤ 100000000) :
    Ct Tryz.prog 57 [str s] [] (fun _ => True) (fun v A' => ∃ a c, v = .slice a (linesOf s).length c ∧ A' = [.row (.slice a (linesOf s).length c) 9 1 (linesOf s).length ((linesOf s).map str)]) := by
  refine Ct.intro Tryz.func57 rfl Tryz.ntmps57 (Nat.le_of_ble_eq_true rfl) fun w0 hpre => ?_
  refine JC.seq ?_
  refine JC.region ?_
  refine JL.pure rfl (PO.assign (v := .slice none 0 0) rfl) ?_
  refine JL.nil ?_
  refine JQ.seq ?_
  refine JC.seq ?_
  refine JC.region ?_
  refine JL.op rfl (JO.buildSlice (ps := []) (cur := #[]) Tryz.underlying71 Tryz.sizeOf9 Tryz.zeroValue9 rfl (by kernel_rfl) (by decide) (by decide)) ?_
  rintro _ _ ⟨a_1, rfl, rfl⟩
  refine JL.pure rfl (PO.assign (v := .slice a_1 0 0) rfl) ?_
  refine JL.nil ?_
  refine JQ.seq ?_
  refine JC.seq ?_
  refine JC.region ?_
  refine JL.pure rfl (PO.assign (v := .int .i64 0) rfl) ?_
  refine JL.nil ?_
  refine JQ.seq ?_
  refine JC.seq ?_
  refine JC.seq ?_
  refine JC.region ?_
  refine JL.pure rfl (PO.assign (v := .int .i64 0) rfl) ?_
  refine JL.nil ?_
  refine JQ.seq ?_
  refine JC.block ?_
  refine JC.loop (fun k_ e_ L_ => ∃ i : Nat, ∃ b : Nat, ∃ oa : Option Addr, ∃ oc : Nat, ∃ o_ : List Str, (i ≤ s.length) ∧ (b ≤ i) ∧ (o_.length ≤ i) ∧ (o_ ++ linesG ((s.drop b).take (i - b)) (s.drop i) = linesOf s) ∧ e_ 0 = str s ∧ e_ 2 = .slice none 0 0 ∧ e_ 3 = .slice oa o_.length oc ∧ e_ 4 = .int .i64 ((b : Nat) : Int) ∧ e_ 5 = .int .i64 ((i : Nat) : Int) ∧ L_ = [rS oa oc o_] ∧ k_ = s.length - i) _ ⟨0, 0, a_1, 0, [], by omega, by omega, (by simp), rfl, rfl, rfl, rfl, rfl, rfl, rfl, rfl⟩ ?_
  rintro _ e_2 _ ⟨i, b, oa, oc, o_, hi, hb, ho, hR, he_3, he_4, he_5, he_6, he_7, rfl, rfl⟩
  refine JC.seq ?_
  refine JC.seq ?_
  refine JC.region ?_
  refine JL.pure rfl (PO.move (v := .int .i64 ((i : Nat) : Int)) he_7) ?_
  refine JL.pure rfl (PO.move (v := str s) he_3) ?_
  refine JL.pure rfl (PO.lenS Tryz.underlying9 rfl) ?_
  refine JL.pure rfl (PO.lss rfl rfl) ?_
  refine JL.nil ?_
  refine JQ.seq ?_
  by_cases h_8 : ((i : Nat) : Int) < (s.length : Int)
  · skip
    refine JC.condT (congrArg Value.bool (decide_eq_true h_8)) ?_
    refine JC.skip ?_
    refine JQ.seq ?_
    refine JC.seq ?_
    refine JC.block ?_
    refine JC.seq ?_
    refine JC.region ?_
    refine JL.pure rfl (PO.move (v := str s) he_3) ?_
    refine JL.pure rfl (PO.move (v := .int .i64 ((i : Nat) : Int)) he_7) ?_
    refine JL.pure rfl (PO.indexS (i := i) (c := s.getD i 0) Tryz.underlying9 rfl rfl (getD_some (by omega))) ?_
    have hu_9 := UInt8.toNat_lt (s.getD i 0)
    refine JL.pure rfl (PO.eqlI rfl rfl) ?_
    refine JL.nil ?_
    refine JQ.seq ?_
    by_cases h_10 : ((s.getD i 0).toNat : Int) = 10
    · skip
      have hu_11 := u8_ten h_10
      refine JC.condT (congrArg Value.bool (decide_eq_true h_10)) ?_
      refine JC.seq ?_
      refine JC.region ?_
      refine JL.pure rfl (PO.move (v := .slice oa o_.length oc) he_5) ?_
      refine JL.pure rfl (PO.move (v := str s) he_3) ?_
      refine JL.pure rfl (PO.move (v := .int .i64 ((b : Nat) : Int)) he_6) ?_
      refine JL.pure rfl (PO.move (v := .int .i64 ((i : Nat) : Int)) he_7) ?_
      refine JL.pure rfl (PO.add (c := ((i + 1 : Nat) : Int)) rfl rfl (wr (by omega))) ?_
      refine JL.pure rfl (PO.sliceS (i := b) (j := (i + 1)) Tryz.underlying9 rfl rfl rfl (by omega) (by omega)) ?_
      refine JL.op rfl (JO.buildSlice (ps := [(0, str ((s.drop b).take ((i + 1) - b)))]) (cur := #[str ((s.drop b).take ((i + 1) - b))]) Tryz.underlying71 Tryz.sizeOf9 Tryz.zeroValue9 rfl (by kernel_rfl) (by decide) (by decide)) ?_
      rintro _ _ ⟨a_12, rfl, rfl⟩
      refine JL.op rfl (JO.append' 1 (q := 1) (news := ([(s.drop b).take ((i + 1) - b)] : List Str).map str) (n' := (o_ ++ ([(s.drop b).take ((i + 1) - b)] : List Str)).length) (cs' := (o_ ++ ([(s.drop b).take ((i + 1) - b)] : List Str)).map str) rfl Tryz.underlying71 Tryz.underlying71 Tryz.typeInfo9 rfl (by' := 16) rfl rfl rfl rfl rfl (fun w hw => Src.sees (hw.see (i := 0) rfl) (oneS _)) (by (try simp only [List.length_append, List.length_cons, List.length_nil, List.length_take, List.length_drop]); omega) (by (try simp only [List.length_append, List.length_cons, List.length_nil, List.length_take, List.length_drop]); omega) (by simp only [List.length_append, List.length_take, List.length_drop, List.length_cons, List.length_nil] <;> first | rfl | omega) (by simp only [List.map_append])) ?_
      rintro _ _ ⟨a_13, c_14, rfl, rfl⟩
      refine JL.pure rfl (PO.assign (v := .slice a_13 ((o_ ++ ([(s.drop b).take ((i + 1) - b)] : List Str)).length) c_14) rfl) ?_
      refine JL.nil ?_
      refine JQ.seq ?_
      refine JC.region ?_
      refine JL.pure rfl (PO.move (v := .int .i64 ((i : Nat) : Int)) he_7) ?_
      refine JL.pure rfl (PO.add (c := ((i + 1 : Nat) : Int)) rfl rfl (wr (by omega))) ?_
      refine JL.pure rfl (PO.assign (v := .int .i64 ((i + 1 : Nat) : Int)) rfl) ?_
      refine JL.nil ?_
      refine JQ.blockN ?_
      refine JQ.seq ?_
      refine JC.region ?_
      refine JL.pure rfl (PO.move (v := .int .i64 ((i : Nat) : Int)) he_7) ?_
      refine JL.pure rfl (PO.add (c := ((i + 1 : Nat) : Int)) rfl rfl (wr (by omega))) ?_
      refine JL.pure rfl (PO.assign (v := .int .i64 ((i + 1 : Nat) : Int)) rfl) ?_
      refine JL.nil ?_
      refine JQ.pick [1] (A := [rS a_13 c_14 (o_ ++ ([(s.drop b).take ((i + 1) - b)] : List Str))]) rfl ?_
      refine JQ.again (s.length - (i + 1)) (by omega) ⟨i + 1, i + 1, a_13, c_14, (o_ ++ ([(s.drop b).take ((i + 1) - b)] : List Str)), by omega, by omega, (by (try simp only [List.length_append, List.length_cons, List.length_nil]); omega), (by rw [lines_step (by omega) hb, if_pos hu_11] at hR; rw [List.append_assoc]; exact hR), he_3, he_4, rfl, rfl, rfl, rfl, rfl⟩
    · skip
      have hu_15 := u8_not10 h_10
      refine JC.condF (congrArg Value.bool (decide_eq_false h_10)) ?_
      refine JC.skip ?_
      refine JQ.blockN ?_
      refine JQ.seq ?_
      refine JC.region ?_
      refine JL.pure rfl (PO.move (v := .int .i64 ((i : Nat) : Int)) he_7) ?_
      refine JL.pure rfl (PO.add (c := ((i + 1 : Nat) : Int)) rfl rfl (wr (by omega))) ?_
      refine JL.pure rfl (PO.assign (v := .int .i64 ((i + 1 : Nat) : Int)) rfl) ?_
      refine JL.nil ?_
      refine JQ.pick [0] (A := [rS oa oc o_]) rfl ?_
      refine JQ.again (s.length - (i + 1)) (by omega) ⟨i + 1, b, oa, oc, o_, by omega, by omega, (by (try simp only [List.length_append, List.length_cons, List.length_nil]); omega), (by rw [lines_step (by omega) hb, if_neg hu_15] at hR; exact hR), he_3, he_4, he_5, he_6, rfl, rfl, rfl⟩
  · skip
    refine JC.condF (congrArg Value.bool (decide_eq_false h_8)) ?_
    refine JC.exit ?_
    refine JQ.thenExit ?_
    refine JQ.thenExit ?_
    refine JQ.blockE ?_
    refine JQ.seq ?_
    refine JC.seq ?_
    refine JC.region ?_
    refine JL.pure rfl (PO.move (v := .slice oa o_.length oc) he_5) ?_
    refine JL.pure rfl (PO.assign (v := .slice oa o_.length oc) rfl) ?_
    refine JL.nil ?_
    refine JQ.seq ?_
    refine JC.ret ?_
    refine Done.one (.inl rfl) rfl (RV.tmp (v := .slice oa o_.length oc) rfl) (List.Sublist.refl _) ?_
    have he : o_ = linesOf s := by rw [show s.drop i = [] from List.drop_of_length_le (by omega), linesG, List.append_nil] at hR; exact hR
    exact ⟨oa, oc, by rw [← he], by rw [← he]⟩

set_option maxRecDepth 4000 in
set_option maxHeartbeats 1000000 in
theorem Y_iBest (d : DX) (hz : d.dat.okz) (hl : d.l.length ≤ 1000000000) :
    Ct Tryz.prog 48 [.agg #[.slice d.a d.l.length d.c, str d.jt, .int .i64 d.js]] [] (fun w => SeesA w (rdsD d)) (fun v A' => v = .int .i64 (bestD d.dat) ∧ A' = []) := by
  refine Ct.intro Tryz.func48 rfl Tryz.ntmps48 (Nat.le_of_ble_eq_true rfl) fun w0 hpre => ?_
  have hs_1 : Sees w0 (.slice d.a d.l.length d.c) 3 d.l.length (d.l.flatMap encO) := (hpre).head
  have hi_2 : SeesA w0 (d.l.flatMap rdsO) := (hpre).tail
  refine JC.seq ?_
  refine JC.region ?_
  refine JL.op rfl (JO.box (cs := [.slice d.a d.l.length d.c, str d.jt, .int .i64 d.js]) rfl rfl) ?_
  rintro _ _ ⟨b_3, rfl, rfl⟩
  refine JL.pure rfl (PO.assign (v := .int .i64 0) rfl) ?_
  refine JL.nil ?_
  refine JQ.seq ?_
  refine JC.seq ?_
  refine JC.region ?_
  refine JL.pure rfl (PO.assign (v := .int .i64 (-1)) rfl) ?_
  refine JL.nil ?_
  refine JQ.seq ?_
  refine JC.seq ?_
  refine JC.seq ?_
  refine JC.region ?_
  refine JL.pure rfl (PO.fieldAddr fo31_0 rfl) ?_
  refine JL.ld rfl (LO.load1 0 (v := .slice d.a d.l.length d.c) rfl rfl Tryz.isAgg28 rfl) ?_
  refine JL.pure rfl (PO.lenV Tryz.underlying28 rfl) ?_
  refine JL.pure rfl (PO.move (v := .int .i64 0) rfl) ?_
  refine JL.nil ?_
  refine JQ.seq ?_
  refine JC.block ?_
  refine JC.loop (fun k_ e_ L_ => ∃ j : Nat, (j ≤ d.l.length) ∧ e_ 1 = .pointer (some ⟨b_3, 0, none⟩) ∧ e_ 2 = .int .i64 0 ∧ e_ 3 = .int .i64 (bestF (fun i => (d.l.getD i o0).t) j) ∧ e_ 7 = .slice d.a d.l.length d.c ∧ e_ 8 = .int .i64 ((d.l.length : Nat) : Int) ∧ e_ 9 = .int .i64 ((j : Nat) : Int) ∧ L_ = [bk b_3 31 [.slice d.a d.l.length d.c, str d.jt, .int .i64 d.js]] ∧ k_ = d.l.length - j) _ ⟨0, by omega, rfl, rfl, rfl, rfl, rfl, rfl, rfl, rfl⟩ ?_
  rintro _ e_4 _ ⟨j, hj, he_5, he_6, he_7, he_8, he_9, he_10, rfl, rfl⟩
  refine JC.seq ?_
  refine JC.region ?_
  refine JL.pure rfl (PO.lss he_10 he_9) ?_
  refine JL.nil ?_
  refine JQ.seq ?_
  refine JC.seq ?_
  by_cases h_11 : ((j : Nat) : Int) < ((d.l.length : Nat) : Int)
  · skip
    have hlt : j < d.l.length := by omega
    refine JC.condT (congrArg Value.bool (decide_eq_true h_11)) ?_
    refine JC.skip ?_
    refine JQ.seq ?_
    refine JC.seq ?_
    refine JC.block ?_
    refine JC.seq ?_
    refine JC.region ?_
    refine JL.pure rfl (PO.move (v := .int .i64 ((j : Nat) : Int)) he_10) ?_
    obtain ⟨hr_12, hr_12b, -⟩ := sees_some hs_1 (by omega)
    refine JL.pure rfl (PO.indexAddrV (i := j) Tryz.underlying28 Tryz.sizeOf60 hr_12 hr_12b he_8 he_10 (by omega)) ?_
    have hi_13 := SeesA.elem hi_2 o0 (show j < d.l.length by omega)
    have hs_14 := seesO hi_13
    refine JL.ld rfl (LO.loadSK (vs := [.int .i64 ((d.l.getD j o0).t.seq), .slice ((d.l.getD j o0).x.a0) ((d.l.getD j o0).t.cells.length) ((d.l.getD j o0).x.c0), .bool ((d.l.getD j o0).t.whole)]) hs_1 (fun _ _ => List.not_mem_nil) rfl Tryz.isAgg60 Tryz.sizeOf60 (flat_take encO_len o0 d.l j (by omega)) rfl (by decide)) ?_
    refine JL.op rfl (JO.alloc (z := .agg #[.int .i64 0, .slice none 0 0, .bool false]) (cs := [.int .i64 0, .slice none 0 0, .bool false]) Tryz.zeroValue60 rfl) ?_
    rintro _ _ ⟨b_15, rfl, rfl⟩
    refine JL.pure rfl (PO.assign (v := .int .i64 ((j : Nat) : Int)) rfl) ?_
    refine JL.op rfl (JO.store 0 (vs := [.int .i64 ((d.l.getD j o0).t.seq), .slice ((d.l.getD j o0).x.a0) ((d.l.getD j o0).t.cells.length) ((d.l.getD j o0).x.c0), .bool ((d.l.getD j o0).t.whole)]) (cs' := [.int .i64 ((d.l.getD j o0).t.seq), .slice ((d.l.getD j o0).x.a0) ((d.l.getD j o0).t.cells.length) ((d.l.getD j o0).x.c0), .bool ((d.l.getD j o0).t.whole)]) rfl rfl rfl rfl Tryz.sizeOf60 rfl rfl (Nat.le_of_ble_eq_true rfl) rfl) ?_
    rintro _ _ rfl
    refine JL.nil ?_
    refine JQ.seq ?_
    refine JC.seq ?_
    refine JC.regionA [bk b_15 60 [.int .i64 ((d.l.getD j o0).t.seq), .slice ((d.l.getD j o0).x.a0) ((d.l.getD j o0).t.cells.length) ((d.l.getD j o0).x.c0), .bool ((d.l.getD j o0).t.whole)], bk b_3 31 [.slice d.a d.l.length d.c, str d.jt, .int .i64 d.js]] 1000 mixed (by simp) ?_
    refine JA.takeP 0 rfl (by kernel_rfl) (NP.th (NP.bl (NP.th (NP.th (NP.bl (NP.th NP.body)))))) (by kernel_rfl) (by kernel_rfl) rfl (PO.fieldAddr fo60_2 rfl) ?_
    refine JA.take 1 rfl (by kernel_rfl) (NP.th (NP.bl (NP.th (NP.th (NP.bl (NP.th NP.body)))))) (by kernel_rfl) (by kernel_rfl) (by kernel_rfl) rfl (LO.load1 0 (v := .bool ((d.l.getD j o0).t.whole)) rfl rfl Tryz.isAgg4 rfl) ?_
    refine JA.takeP 2 rfl (by kernel_rfl) (NP.th (NP.bl (NP.th (NP.th (NP.bl (NP.th NP.body)))))) (by kernel_rfl) (by kernel_rfl) rfl (PO.move (v := .bool ((d.l.getD j o0).t.whole)) rfl) ?_
    rcases Bool.eq_false_or_eq_true ((d.l.getD j o0).t.whole) with h_16 | h_16
    · skip
      refine JA.takeOnP 3 rfl (by kernel_rfl) (NP.th (NP.bl (NP.th (NP.th (NP.bl (NP.th NP.body)))))) (by kernel_rfl) (by kernel_rfl) rfl rfl rfl (congrArg Value.bool h_16) (PO.move (v := .int .i64 (bestF (fun i => (d.l.getD i o0).t) j)) he_7) ?_
      refine JA.takeOnP 4 rfl (by kernel_rfl) (NP.th (NP.bl (NP.th (NP.th (NP.bl (NP.th NP.body)))))) (by kernel_rfl) (by kernel_rfl) rfl rfl rfl (congrArg Value.bool h_16) (PO.lss rfl rfl) ?_
      refine JA.takeOnP 5 rfl (by kernel_rfl) (NP.th (NP.bl (NP.th (NP.th (NP.bl (NP.th NP.body)))))) (by kernel_rfl) (by kernel_rfl) rfl rfl rfl (congrArg Value.bool h_16) (PO.move (v := .bool (decide ((bestF (fun i => (d.l.getD i o0).t) j) < 0))) rfl) ?_
      by_cases h_17 : (bestF (fun i => (d.l.getD i o0).t) j) < 0
      · skip
        refine JA.takeOff 6 (b := true) rfl (by kernel_rfl) (NP.th (NP.bl (NP.th (NP.th (NP.bl (NP.th NP.body)))))) (by kernel_rfl) (by kernel_rfl) rfl rfl rfl (congrArg Value.bool (decide_eq_true h_17)) ?_
        refine JA.takeOff 7 (b := true) rfl (by kernel_rfl) (NP.th (NP.bl (NP.th (NP.th (NP.bl (NP.th NP.body)))))) (by kernel_rfl) (by kernel_rfl) rfl rfl rfl (congrArg Value.bool (decide_eq_true h_17)) ?_
        refine JA.takeOff 8 (b := true) rfl (by kernel_rfl) (NP.th (NP.bl (NP.th (NP.th (NP.bl (NP.th NP.body)))))) (by kernel_rfl) (by kernel_rfl) rfl rfl rfl (congrArg Value.bool (decide_eq_true h_17)) ?_
        refine JA.takeOff 9 (b := true) rfl (by kernel_rfl) (NP.th (NP.bl (NP.th (NP.th (NP.bl (NP.th NP.body)))))) (by kernel_rfl) (by kernel_rfl) rfl rfl rfl (congrArg Value.bool (decide_eq_true h_17)) ?_
        refine JA.takeOff 10 (b := true) rfl (by kernel_rfl) (NP.th (NP.bl (NP.th (NP.th (NP.bl (NP.th NP.body)))))) (by kernel_rfl) (by kernel_rfl) rfl rfl rfl (congrArg Value.bool (decide_eq_true h_17)) ?_
        refine JA.takeOff 11 (b := true) rfl (by kernel_rfl) (NP.th (NP.bl (NP.th (NP.th (NP.bl (NP.th NP.body)))))) (by kernel_rfl) (by kernel_rfl) rfl rfl rfl (congrArg Value.bool (decide_eq_true h_17)) ?_
        refine JA.takeOff 12 (b := true) rfl (by kernel_rfl) (NP.th (NP.bl (NP.th (NP.th (NP.bl (NP.th NP.body)))))) (by kernel_rfl) (by kernel_rfl) rfl rfl rfl (congrArg Value.bool (decide_eq_true h_17)) ?_
        refine JA.takeOff 13 (b := true) rfl (by kernel_rfl) (NP.th (NP.bl (NP.th (NP.th (NP.bl (NP.th NP.body)))))) (by kernel_rfl) (by kernel_rfl) rfl rfl rfl (congrArg Value.bool (decide_eq_true h_17)) ?_
        refine JA.takeOff 14 (b := true) rfl (by kernel_rfl) (NP.th (NP.bl (NP.th (NP.th (NP.bl (NP.th NP.body)))))) (by kernel_rfl) (by kernel_rfl) rfl rfl rfl (congrArg Value.bool (decide_eq_true h_17)) ?_
        refine JA.takeOnP 15 rfl (by kernel_rfl) (NP.th (NP.bl (NP.th (NP.th (NP.bl (NP.th NP.body)))))) (by kernel_rfl) (by kernel_rfl) rfl rfl rfl (congrArg Value.bool h_16) (PO.pickT (v := .bool true) (congrArg Value.bool (decide_eq_true h_17)) rfl) ?_
        refine JA.takeP 16 rfl (by kernel_rfl) (NP.th (NP.bl (NP.th (NP.th (NP.bl (NP.th NP.body)))))) (by kernel_rfl) (by kernel_rfl) rfl (PO.pickT (v := .bool true) (congrArg Value.bool h_16) rfl) ?_
        refine JA.done (by kernel_rfl) ?_
        refine JQ.seq ?_
        refine JC.condT (congrArg Value.bool rfl) ?_
        refine JC.region ?_
        refine JL.pure rfl (PO.move (v := .int .i64 ((j : Nat) : Int)) rfl) ?_
        refine JL.pure rfl (PO.assign (v := .int .i64 ((j : Nat) : Int)) rfl) ?_
        refine JL.nil ?_
        refine JQ.blockN ?_
        refine JQ.seq ?_
        refine JC.region ?_
        refine JL.pure rfl (PO.add (c := ((j + 1 : Nat) : Int)) he_10 rfl (wr (by omega))) ?_
        refine JL.pure rfl (PO.move (v := .int .i64 ((j + 1 : Nat) : Int)) rfl) ?_
        refine JL.nil ?_
        refine JQ.pick [1] (A := [bk b_3 31 [.slice d.a d.l.length d.c, str d.jt, .int .i64 d.js]]) rfl ?_
        refine JQ.again (d.l.length - (j + 1)) (by omega) ⟨j + 1, by omega, he_5, he_6, (by simp only [bestF]; first | (rw [if_pos ⟨by assumption, .inl (by assumption)⟩]; first | rfl | assumption) | (rw [if_neg (by rintro ⟨h_, _⟩; simp_all)]; first | rfl | assumption)), he_8, he_9, rfl, rfl, rfl⟩
      · skip
        have hlo := bestF_lo (fun i => (d.l.getD i o0).t) j
        obtain ⟨q_18, hq_19⟩ : ∃ n_ : Nat, bestF (fun i => (d.l.getD i o0).t) j = ((n_ : Nat) : Int) := ⟨(bestF (fun i => (d.l.getD i o0).t) j).toNat, by omega⟩
        refine JA.takeOnP 6 rfl (by kernel_rfl) (NP.th (NP.bl (NP.th (NP.th (NP.bl (NP.th NP.body)))))) (by kernel_rfl) (by kernel_rfl) rfl rfl rfl (congrArg Value.bool (decide_eq_false h_17)) (PO.fieldAddr fo60_0 rfl) ?_
        refine JA.takeOn 7 rfl (by kernel_rfl) (NP.th (NP.bl (NP.th (NP.th (NP.bl (NP.th NP.body)))))) (by kernel_rfl) (by kernel_rfl) (by kernel_rfl) rfl rfl rfl (congrArg Value.bool (decide_eq_false h_17)) (LO.load1 0 (v := .int .i64 ((d.l.getD j o0).t.seq)) rfl rfl Tryz.isAgg3 rfl) ?_
        refine JA.takeOnP 8 rfl (by kernel_rfl) (NP.th (NP.bl (NP.th (NP.th (NP.bl (NP.th NP.body)))))) (by kernel_rfl) (by kernel_rfl) rfl rfl rfl (congrArg Value.bool (decide_eq_false h_17)) (PO.fieldAddr fo31_0 he_5) ?_
        refine JA.takeOn 9 rfl (by kernel_rfl) (NP.th (NP.bl (NP.th (NP.th (NP.bl (NP.th NP.body)))))) (by kernel_rfl) (by kernel_rfl) (by kernel_rfl) rfl rfl rfl (congrArg Value.bool (decide_eq_false h_17)) (LO.load1 1 (v := .slice d.a d.l.length d.c) rfl rfl Tryz.isAgg28 rfl) ?_
        refine JA.takeOnP 10 rfl (by kernel_rfl) (NP.th (NP.bl (NP.th (NP.th (NP.bl (NP.th NP.body)))))) (by kernel_rfl) (by kernel_rfl) rfl rfl rfl (congrArg Value.bool (decide_eq_false h_17)) (PO.move (v := .int .i64 ((q_18 : Nat) : Int)) ((he_7).trans (congrArg (Value.int .i64) hq_19))) ?_
        refine JA.takeOnP 11 rfl (by kernel_rfl) (NP.th (NP.bl (NP.th (NP.th (NP.bl (NP.th NP.body)))))) (by kernel_rfl) (by kernel_rfl) rfl rfl rfl (congrArg Value.bool (decide_eq_false h_17)) (PO.indexAddrV (i := q_18) Tryz.underlying28 Tryz.sizeOf60 hr_12 hr_12b rfl rfl (by omega)) ?_
        refine JA.takeOnP 12 rfl (by kernel_rfl) (NP.th (NP.bl (NP.th (NP.th (NP.bl (NP.th NP.body)))))) (by kernel_rfl) (by kernel_rfl) rfl rfl rfl (congrArg Value.bool (decide_eq_false h_17)) (PO.fieldAddrE fo60_0 hr_12 rfl) ?_
        have hi_20 := SeesA.elem hi_2 o0 (show q_18 < d.l.length by omega)
        have hs_21 := seesO hi_20
        refine JA.takeOn 13 rfl (by kernel_rfl) (NP.th (NP.bl (NP.th (NP.th (NP.bl (NP.th NP.body)))))) (by kernel_rfl) (by kernel_rfl) (by kernel_rfl) rfl rfl rfl (congrArg Value.bool (decide_eq_false h_17)) (LO.loadS1 (v := .int .i64 ((d.l.getD q_18 o0).t.seq)) hs_1 (fun _ _ => List.not_mem_nil) rfl Tryz.isAgg3 (flat_at encO_len o0 d.l q_18 0 (by omega) (by decide))) ?_
        refine JA.takeOnP 14 rfl (by kernel_rfl) (NP.th (NP.bl (NP.th (NP.th (NP.bl (NP.th NP.body)))))) (by kernel_rfl) (by kernel_rfl) rfl rfl rfl (congrArg Value.bool (decide_eq_false h_17)) (PO.gtr rfl rfl) ?_
        refine JA.takeOnP 15 rfl (by kernel_rfl) (NP.th (NP.bl (NP.th (NP.th (NP.bl (NP.th NP.body)))))) (by kernel_rfl) (by kernel_rfl) rfl rfl rfl (congrArg Value.bool h_16) (PO.pickF (v := .bool (decide (((d.l.getD q_18 o0).t.seq) < ((d.l.getD j o0).t.seq)))) (congrArg Value.bool (decide_eq_false h_17)) rfl) ?_
        refine JA.takeP 16 rfl (by kernel_rfl) (NP.th (NP.bl (NP.th (NP.th (NP.bl (NP.th NP.body)))))) (by kernel_rfl) (by kernel_rfl) rfl (PO.pickT (v := .bool (decide (((d.l.getD q_18 o0).t.seq) < ((d.l.getD j o0).t.seq)))) (congrArg Value.bool h_16) rfl) ?_
        refine JA.done (by kernel_rfl) ?_
        refine JQ.seq ?_
        by_cases h_22 : ((d.l.getD q_18 o0).t.seq) < ((d.l.getD j o0).t.seq)
        · skip
          refine JC.condT (congrArg Value.bool (decide_eq_true h_22)) ?_
          refine JC.region ?_
          refine JL.pure rfl (PO.move (v := .int .i64 ((j : Nat) : Int)) rfl) ?_
          refine JL.pure rfl (PO.assign (v := .int .i64 ((j : Nat) : Int)) rfl) ?_
          refine JL.nil ?_
          refine JQ.blockN ?_
          refine JQ.seq ?_
          refine JC.region ?_
          refine JL.pure rfl (PO.add (c := ((j + 1 : Nat) : Int)) he_10 rfl (wr (by omega))) ?_
          refine JL.pure rfl (PO.move (v := .int .i64 ((j + 1 : Nat) : Int)) rfl) ?_
          refine JL.nil ?_
          refine JQ.pick [1] (A := [bk b_3 31 [.slice d.a d.l.length d.c, str d.jt, .int .i64 d.js]]) rfl ?_
          refine JQ.again (d.l.length - (j + 1)) (by omega) ⟨j + 1, by omega, he_5, he_6, (by first | rfl | (simp only [bestF]; first | (rw [if_pos ⟨by assumption, .inr (by rw [hq_19]; simp only [Int.toNat_natCast]; omega)⟩]; first | rfl | assumption) | (rw [if_neg (by rintro ⟨_, h_ | h_⟩ <;> first | omega | (simp only [hq_19, Int.toNat_natCast] at h_; omega))]; first | assumption | (rw [hq_19]; first | rfl | assumption)))), he_8, he_9, rfl, rfl, rfl⟩
        · skip
          refine JC.condF (congrArg Value.bool (decide_eq_false h_22)) ?_
          refine JC.skip ?_
          refine JQ.blockN ?_
          refine JQ.seq ?_
          refine JC.region ?_
          refine JL.pure rfl (PO.add (c := ((j + 1 : Nat) : Int)) he_10 rfl (wr (by omega))) ?_
          refine JL.pure rfl (PO.move (v := .int .i64 ((j + 1 : Nat) : Int)) rfl) ?_
          refine JL.nil ?_
          refine JQ.pick [1] (A := [bk b_3 31 [.slice d.a d.l.length d.c, str d.jt, .int .i64 d.js]]) rfl ?_
          refine JQ.again (d.l.length - (j + 1)) (by omega) ⟨j + 1, by omega, he_5, he_6, (by first | rfl | (simp only [bestF]; first | (rw [if_pos ⟨by assumption, .inr (by rw [hq_19]; simp only [Int.toNat_natCast]; omega)⟩]; first | rfl | assumption) | (rw [if_neg (by rintro ⟨_, h_ | h_⟩ <;> first | omega | (simp only [hq_19, Int.toNat_natCast] at h_; omega))]; first | assumption | (rw [hq_19]; first | rfl | assumption)))), he_8, he_9, rfl, rfl, rfl⟩
    · skip
      refine JA.takeOff 3 (b := false) rfl (by kernel_rfl) (NP.th (NP.bl (NP.th (NP.th (NP.bl (NP.th NP.body)))))) (by kernel_rfl) (by kernel_rfl) rfl rfl rfl (congrArg Value.bool h_16) ?_
      refine JA.takeOff 4 (b := false) rfl (by kernel_rfl) (NP.th (NP.bl (NP.th (NP.th (NP.bl (NP.th NP.body)))))) (by kernel_rfl) (by kernel_rfl) rfl rfl rfl (congrArg Value.bool h_16) ?_
      refine JA.takeOff 5 (b := false) rfl (by kernel_rfl) (NP.th (NP.bl (NP.th (NP.th (NP.bl (NP.th NP.body)))))) (by kernel_rfl) (by kernel_rfl) rfl rfl rfl (congrArg Value.bool h_16) ?_
      refine JA.takeOffU 6 rfl (by kernel_rfl) (NP.th (NP.bl (NP.th (NP.th (NP.bl (NP.th NP.body)))))) (by kernel_rfl) (by kernel_rfl) rfl rfl rfl rfl ?_
      refine JA.takeOffU 7 rfl (by kernel_rfl) (NP.th (NP.bl (NP.th (NP.th (NP.bl (NP.th NP.body)))))) (by kernel_rfl) (by kernel_rfl) rfl rfl rfl rfl ?_
      refine JA.takeOffU 8 rfl (by kernel_rfl) (NP.th (NP.bl (NP.th (NP.th (NP.bl (NP.th NP.body)))))) (by kernel_rfl) (by kernel_rfl) rfl rfl rfl rfl ?_
      refine JA.takeOffU 9 rfl (by kernel_rfl) (NP.th (NP.bl (NP.th (NP.th (NP.bl (NP.th NP.body)))))) (by kernel_rfl) (by kernel_rfl) rfl rfl rfl rfl ?_
      refine JA.takeOffU 10 rfl (by kernel_rfl) (NP.th (NP.bl (NP.th (NP.th (NP.bl (NP.th NP.body)))))) (by kernel_rfl) (by kernel_rfl) rfl rfl rfl rfl ?_
      refine JA.takeOffU 11 rfl (by kernel_rfl) (NP.th (NP.bl (NP.th (NP.th (NP.bl (NP.th NP.body)))))) (by kernel_rfl) (by kernel_rfl) rfl rfl rfl rfl ?_
      refine JA.takeOffU 12 rfl (by kernel_rfl) (NP.th (NP.bl (NP.th (NP.th (NP.bl (NP.th NP.body)))))) (by kernel_rfl) (by kernel_rfl) rfl rfl rfl rfl ?_
      refine JA.takeOffU 13 rfl (by kernel_rfl) (NP.th (NP.bl (NP.th (NP.th (NP.bl (NP.th NP.body)))))) (by kernel_rfl) (by kernel_rfl) rfl rfl rfl rfl ?_
      refine JA.takeOffU 14 rfl (by kernel_rfl) (NP.th (NP.bl (NP.th (NP.th (NP.bl (NP.th NP.body)))))) (by kernel_rfl) (by kernel_rfl) rfl rfl rfl rfl ?_
      refine JA.takeOff 15 (b := false) rfl (by kernel_rfl) (NP.th (NP.bl (NP.th (NP.th (NP.bl (NP.th NP.body)))))) (by kernel_rfl) (by kernel_rfl) rfl rfl rfl (congrArg Value.bool h_16) ?_
      refine JA.takeP 16 rfl (by kernel_rfl) (NP.th (NP.bl (NP.th (NP.th (NP.bl (NP.th NP.body)))))) (by kernel_rfl) (by kernel_rfl) rfl (PO.pickF (v := .bool false) (congrArg Value.bool h_16) rfl) ?_
      refine JA.done (by kernel_rfl) ?_
      refine JQ.seq ?_
      refine JC.condF (congrArg Value.bool rfl) ?_
      refine JC.skip ?_
      refine JQ.blockN ?_
      refine JQ.seq ?_
      refine JC.region ?_
      refine JL.pure rfl (PO.add (c := ((j + 1 : Nat) : Int)) he_10 rfl (wr (by omega))) ?_
      refine JL.pure rfl (PO.move (v := .int .i64 ((j + 1 : Nat) : Int)) rfl) ?_
      refine JL.nil ?_
      refine JQ.pick [1] (A := [bk b_3 31 [.slice d.a d.l.length d.c, str d.jt, .int .i64 d.js]]) rfl ?_
      refine JQ.again (d.l.length - (j + 1)) (by omega) ⟨j + 1, by omega, he_5, he_6, (by simp only [bestF]; first | (rw [if_pos ⟨by assumption, .inl (by assumption)⟩]; first | rfl | assumption) | (rw [if_neg (by rintro ⟨h_, _⟩; simp_all)]; first | rfl | assumption)), he_8, he_9, rfl, rfl, rfl⟩
  · skip
    refine JC.condF (congrArg Value.bool (decide_eq_false h_11)) ?_
    refine JC.exit ?_
    refine JQ.thenExit ?_
    refine JQ.thenExit ?_
    refine JQ.blockE ?_
    refine JQ.seq ?_
    refine JC.seq ?_
    refine JC.region ?_
    refine JL.pure rfl (PO.move (v := .int .i64 (bestF (fun i => (d.l.getD i o0).t) j)) he_7) ?_
    refine JL.pure rfl (PO.assign (v := .int .i64 (bestF (fun i => (d.l.getD i o0).t) j)) rfl) ?_
    refine JL.nil ?_
    refine JQ.seq ?_
    refine JC.ret ?_
    refine Done.one (.inl rfl) rfl (RV.tmp (v := .int .i64 (bestF (fun i => (d.l.getD i o0).t) j)) rfl) (List.nil_sublist _) ?_
    refine ⟨congrArg (Value.int .i64) ?_, rfl⟩
    rw [bestD_dat, show d.l.length = j by omega]

end Go.Proofs.YtjncpgcccgdeiaaGreatDoor

set_option linter.unusedSimpArgs false
set_option linter.unusedVariables false
set_option linter.unnecessarySimpa false
namespace Go.Proofs.YtjncpgcccgdeiaaGreatDoor
open Go Go.RowKit
section
variable {P : Program} {ops : Array Oper} {Q : Exit → Act → World → Prop} {n : Nat} {w0 w : World} {D : List Nat} {L : List Res} {e : Env}
variable {d : Option Tmp} {ty : TypeId} {pos : String} {aft : Array Edge} {gd : Option (Nat × Bool)}
theorem LO.toUnsafe (i : Nat) {src dst t el b : Nat} {cs : List Value} {x : Operand} {fr : Nat × Nat} (hL : L[i]? = some (.blk b (.cells cs.toArray el fr))) (hs : P.underlying src = some (.pointer t)) (hd : P.underlying dst = some .unsafePointer)
    (hx : rd n e x = .pointer (some ⟨b, 0, none⟩)) (ht : (P.info? t).map (·.size) = some 2) (h0 : 0 < cs.length) : LO P n w0 D L e ⟨d, .convert src dst x, ty, pos, aft, gd⟩ (.pointer (some ⟨b, 0, none⟩)) := fun w hw => by
  have hb : w.heap[b]? = some (.cells cs.toArray el fr) := hw.get hL
  have hsh : w.shape? b = some (el, cs.length) := by simp [World.shape?, hb]
  obtain ⟨j, hj, hjs⟩ := Option.map_eq_some_iff.1 ht
  have h := Lib.run_to_unsafe (P := P) w ⟨b, 0, none⟩ hs hd hj (by rw [hjs]; decide) hsh h0
  simp [execOp, hx, h]
theorem LO.fromUnsafe (i : Nat) {src dst t el b : Nat} {cs : List Value} {x : Operand} {fr : Nat × Nat} (hL : L[i]? = some (.blk b (.cells cs.toArray el fr))) (hs : P.underlying src = some .unsafePointer) (hd : P.underlying dst = some (.pointer t))
    (hx : rd n e x = .pointer (some ⟨b, 0, none⟩)) (ht : (P.info? t).map (·.size) = some 2) (hlies : liesAt P P.depth el (cs.length / P.cellsOf el) 0 t 1 = true) : LO P n w0 D L e ⟨d, .convert src dst x, ty, pos, aft, gd⟩ (.pointer (some ⟨b, 0, none⟩)) := fun w hw => by
  have hb : w.heap[b]? = some (.cells cs.toArray el fr) := hw.get hL
  have hsh : w.shape? b = some (el, cs.length) := by simp [World.shape?, hb]
  obtain ⟨j, hj, hjs⟩ := Option.map_eq_some_iff.1 ht
  have h := Lib.run_from_unsafe (P := P) w ⟨b, 0, none⟩ hs hd hj hsh hlies
  simp [execOp, hx, h]
theorem PO.noEscape {f : FuncId} {fn : Func} {x : Operand} {ats : Array TypeId} {v : Value} (hf : P.funcs[f]? = some fn) (hname : (fn.name == "runtime.NumGoroutine") = false) (hb : fn.body.isNone = true) (hn : Extern.findNext fn = none)
    (he : Extern.find fn = some Extern.AbiNoEscape.same) (hx : rd n e x = v) : PO P n e ⟨d, .call ⟨.value (.func f), #[x], ats⟩, ty, pos, aft, gd⟩ v := fun w => by
  have h := run_callFunc_extern hf hname hb hn he #[v] w
  have h0 : rd n e (.func f) = .func (.func f) #[] #[] := rfl
  simp [execOp, resolve, invoke, h0, Deferred.ofValue, hx, h, Lib.run_noEscape, Result.andThen]
theorem run_eql_ptr_nil {tp te : TypeId} {j : TypeInfo} (hp : P.underlying tp = some (.pointer te)) (hte : P.info? te = some j) (q : Option Addr) : (binOp .eql tp (.pointer q) (.pointer none)).run P w = .ok (.bool q.isNone) w := by
  have h : ∀ d : Nat, (Op.equalIn (d + 1) tp (.pointer q) (.pointer none)).run P w = .ok q.isNone w := fun d => by
    cases q <;> simp [Op.equalIn, run_underlying hp, sizeOf, typeInfo, hte, sameAddr]
  simp only [binOp]
  simp [Op.equal, Op.maxDepth, h 9999]
theorem PO.eqlPN {x y : Operand} {q : Option Addr} {t u te : TypeId} (hp : P.underlying t = some (.pointer te)) (ht : (P.info? te).map (·.size) = some 2) (hx : rd n e x = .pointer q) (hy : rd n e y = .pointer none) : PO P n e ⟨d, .binOp .eql t x y u, ty, pos, aft, gd⟩ (.bool q.isNone) := fun w => by
  obtain ⟨j, hte, _⟩ := Option.map_eq_some_iff.1 ht
  have h := run_eql_ptr_nil (w := w) hp hte q
  simp [execOp, hx, hy, eqGuard, h]
theorem PO.neqPP {x y : Operand} {a : Addr} {t u te : TypeId} (hp : P.underlying t = some (.pointer te)) (ht : (P.info? te).map (·.size) = some 2) (hx : rd n e x = .pointer (some a)) (hy : rd n e y = .pointer (some a)) : PO P n e ⟨d, .binOp .neq t x y u, ty, pos, aft, gd⟩ (.bool false) := fun w => by
  obtain ⟨j, hte, _⟩ := Option.map_eq_some_iff.1 ht
  have h := Lib.run_neq_ptr_same (P := P) (w := w) a hp hte
  simp [execOp, hx, hy, eqGuard, h]
theorem PO.sliceVlh {x lo hi : Operand} {a : Option Addr} {m c i j k : Nat} {q q' : IntKind} {t el : TypeId} (ht : P.underlying t = some (.slice el)) (hs : ∀ w, (sizeOf el).run P w = .ok k w) (ha : a.bind (·.spot) = none)
    (hx : rd n e x = .slice a m c) (hl : rd n e lo = .int q i) (hh : rd n e hi = .int q' j) (h1 : i ≤ j) (h2 : j ≤ c) : PO P n e ⟨d, .slice t x (some lo) (some hi) none, ty, pos, aft, gd⟩ (.slice (subA k a c i) (j - i) (c - i)) := fun w => by
  have hsub := sub_add (k := k) (c := c) (lo := i) ha
  simp [execOp, run_sliceAt_slice _ _ _ _ _ _ (elem_of ht), Instr.slice, run_underlying ht, hx, hl, hh, Instr.sliceBounds, Instr.sliceBound, asIntOf, hs, h1, h2, hsub]
theorem PO.indexSub {x y : Operand} {a : Option Addr} {m c lo : Nat} {k : IntKind} {i s : Nat} {t el : TypeId} (ht : P.underlying t = some (.slice el)) (hs : ∀ w, (sizeOf el).run P w = .ok s w) (ha : a.isSome = true) (hsp : a.bind (·.spot) = none)
    (hx : rd n e x = .slice (subA s a c lo) m (c - lo)) (hy : rd n e y = .int k i) (hi : i < m) (hc : lo + m ≤ c) : PO P n e ⟨d, .indexAddr t x y, ty, pos, aft, gd⟩ (elp a ((lo + i) * s)) := by
  cases a with
  | none => simp at ha
  | some q =>
    obtain ⟨b, o, sp⟩ := q
    simp only [Option.bind_some] at hsp
    subst hsp
    have e1 : subA s (some ⟨b, o, none⟩) c lo = some ⟨b, o + lo * s, none⟩ := by unfold subA; rw [if_neg (by omega)]; rfl
    rw [e1] at hx
    have h := PO.indexAddrV (n := n) (e := e) (d := d) (ty := ty) (pos := pos) (aft := aft) (gd := gd) ht hs rfl rfl hx hy hi
    have e2 : elp (some ⟨b, o + lo * s, none⟩) (i * s) = elp (some ⟨b, o, none⟩) ((lo + i) * s) := by simp only [elp, Nat.add_mul, Nat.add_assoc]
    rw [e2] at h
    exact h
theorem PO.unsafeData {x : Operand} {a : Option Addr} {q : Addr} {m c : Nat} {ts : Array TypeId} (ha : a = some q) (hx : rd n e x = .slice a m c) (hc : c ≠ 0) : PO P n e ⟨d, .call ⟨.builtin .unsafeSliceData, #[x], ts⟩, ty, pos, aft, gd⟩ (.pointer (some q)) := fun w => by
  subst ha
  have h := fun ts ty => Lib.run_unsafeSliceData_row (P := P) (w := w) ts ty q m c hc
  simp [execOp, resolve, invoke, builtin, hx, h]
theorem freeze_at {w : World} {g m : Nat} {cur : Array Value} {t : TypeId} {fz : Nat × Nat} (h : w.heap[g]? = some (.cells cur t fz)) : ∃ fz', (w.freeze ⟨g, 0, none⟩ m).heap[g]? = some (.cells cur t fz') := by
  unfold World.freeze
  split
  · exact ⟨fz, h⟩
  · obtain ⟨lo, hi⟩ := fz
    refine ⟨if lo == hi then (0, 0 + m) else (min lo 0, max hi (0 + m)), ?_⟩
    simp [Array.getElem?_modify, h]
theorem freeze_other {w : World} {g k m : Nat} (h : k ≠ g) : (w.freeze ⟨g, 0, none⟩ m).heap[k]? = w.heap[k]? := by
  unfold World.freeze
  split
  · rfl
  · simp [Array.getElem?_modify, Ne.symm h]
theorem freeze_size (w : World) (g m : Nat) : (w.freeze ⟨g, 0, none⟩ m).heap.size = w.heap.size := by
  unfold World.freeze
  split <;> simp
theorem JO.unsafeStr (i : Nat) {x y : Operand} {g pt it : Nat} {cur : Array Value} {fz : Nat × Nat} {l : Str} (hL : L[i]? = some (.blk g (.cells cur TB fz))) (hp : P.underlying pt = some (.pointer TB)) (hc : P.cellsOf TB = 1)
    (hx : rd n e x = .pointer (some ⟨g, 0, none⟩)) (hy : rd n e y = .int .i64 l.length) (h0 : l ≠ []) (hn : l.length ≤ cur.size) (h63 : l.length ≤ 9223372036854775807) (ht : cur.toList.take l.length = l.map encB) :
    JO P n w0 D L e ⟨d, .call ⟨.builtin .unsafeString, #[x, y], #[pt, it]⟩, ty, pos, aft, gd⟩ (fun v L' => ∃ fz', v = str l ∧ L' = L.set i (.blk g (.cells cur TB fz'))) := JO.ofRun fun w hw => by
  have hb : w.heap[g]? = some (.cells cur TB fz) := hw.get hL
  have hlt := (Array.getElem?_eq_some_iff.1 hb).1
  have hrun := Lib.run_unsafeString_row (P := P) w pt it ty TB hp hc g cur.size (by simp [World.shape?, hb]) l h0 hn h63 (fun j b hj => by
    have e1 : (cur.toList.take l.length)[j]? = some (encB b) := by rw [ht, List.getElem?_map, hj]; rfl
    have hjl : j < l.length := (List.getElem?_eq_some_iff.1 hj).1
    rw [List.getElem?_take, if_pos hjl] at e1
    have hadd : (⟨g, 0, none⟩ : Addr).add j = ⟨g, 0 + j, none⟩ := by unfold Addr.add; split <;> simp_all
    rw [hadd, Nat.zero_add, cell_of_row w g j cur TB fz hb]
    simpa [encB] using e1)
  obtain ⟨fz', hfz⟩ := freeze_at (m := l.length) hb
  refine ⟨str l, _, w.freeze ⟨g, 0, none⟩ l.length, ?_, ⟨fz', rfl, rfl⟩, ?_⟩
  · simp [execOp, resolve, invoke, builtin, hx, hy, hrun, str]
  · refine hw.turn1 hL (by unfold World.freeze; split <;> rfl) (by unfold World.freeze; split <;> rfl) (by unfold World.freeze; split <;> rfl) (Nat.le_of_eq (freeze_size w g l.length).symm) (fun k _ hk => freeze_other (by simpa [Res.ids] using hk)) hfz (by simp [Res.ids]) (fun i hi => .inl hi)
/-- A row that is not empty is a block. -/
theorem row_blk {i m t k c : Nat} {a : Option Addr} {xs : List Value} {w : World} (hw : St w0 D L w) (hL : L[i]? = some (.row (.slice a m c) t k m xs)) (hm : 0 < m) :
    ∃ g cur fz, a = some ⟨g, 0, none⟩ ∧ m ≤ c ∧ c ≤ maxLen ∧ c * k ≤ cur.size ∧ cur.toList.take (m * k) = xs ∧ St w0 D (L.set i (.blk g (.cells cur t fz))) w := by
  have h := hw.get hL
  rcases h.2 with ⟨_, h0⟩ | ⟨g, cap, cur, hv, hb, ⟨fz, hg, _⟩, h1, h2, h3, h4⟩
  · omega
  · simp only [Value.slice.injEq] at hv
    obtain ⟨rfl, _, rfl⟩ := hv
    refine ⟨g, cur, fz, rfl, h1, h2, h3, h4, ?_⟩
    refine hw.turn1 hL rfl rfl rfl (Nat.le_refl _) (fun _ _ _ => rfl) hg (by simp [Res.ids]) (fun i hi => .inl ?_)
    simpa [Res.ids, Value.ownBlock] using hi
theorem JC.rowBlk (i : Nat) {m t k c : Nat} {a : Option Addr} {xs : List Value} {z : Code} (hL : L[i]? = some (.row (.slice a m c) t k m xs)) (hm : 0 < m)
    (h : ∀ g cur fz, a = some ⟨g, 0, none⟩ → m ≤ c → c ≤ maxLen → c * k ≤ cur.size → cur.toList.take (m * k) = xs → JC P Q n w0 D (L.set i (.blk g (.cells cur t fz))) z e) : JC P Q n w0 D L z e := fun w hw => by
  obtain ⟨g, cur, fz, h1, h2, h3, h4, h5, h6⟩ := row_blk hw hL hm
  exact h g cur fz h1 h2 h3 h4 h5 w h6
end
end Go.Proofs.YtjncpgcccgdeiaaGreatDoor

set_option linter.unusedSimpArgs false
set_option linter.unusedVariables false
set_option linter.unnecessarySimpa false
namespace Go.Proofs.YtjncpgcccgdeiaaGreatDoor
open Go Go.RowKit
attribute [local irreducible] JL JC JQ JO LO PO JA JX Ct

theorem fo93_0 : FieldOff Tryz.prog 93 0 0 := FieldOff.mk Tryz.underlying93 rfl rfl rfl Tryz.sizeOf91
theorem fo93_1 : FieldOff Tryz.prog 93 1 1 := FieldOff.mk Tryz.underlying93 rfl rfl rfl Tryz.sizeOf39
theorem Y_cc0 (b : Nat) (sa : Option Addr) (m sc : Nat) :
    Ct Tryz.prog 120 [.pointer (some ⟨b, 0, none⟩)] [bk b 93 [.pointer none, .slice sa m sc]] (fun _ => True) (fun v A' => v = .tuple #[] ∧ A' = [bk b 93 [.pointer (some ⟨b, 0, none⟩), .slice sa m sc]]) := by
  refine Ct.intro Tryz.func120 rfl Tryz.ntmps120 (Nat.le_of_ble_eq_true rfl) fun w0 hpre => ?_
  refine JC.seq ?_
  refine JC.region ?_
  refine JL.pure rfl (PO.move (v := .pointer (some ⟨b, 0, none⟩)) rfl) ?_
  refine JL.pure rfl (PO.nilCheck rfl) ?_
  refine JL.pure rfl (PO.fieldAddr fo93_0 rfl) ?_
  refine JL.ld rfl (LO.load1 0 (v := .pointer none) rfl rfl Tryz.isAgg91 rfl) ?_
  refine JL.pure rfl (PO.eqlPN Tryz.underlying91 (by kernel_rfl) rfl rfl) ?_
  refine JL.nil ?_
  refine JQ.seq ?_
  refine JC.condT (congrArg Value.bool rfl) ?_
  refine JC.region ?_
  refine JL.pure rfl (PO.move (v := .pointer (some ⟨b, 0, none⟩)) rfl) ?_
  refine JL.pure rfl (PO.move (v := .pointer (some ⟨b, 0, none⟩)) rfl) ?_
  refine JL.ld rfl (LO.toUnsafe 0 rfl Tryz.underlying91 Tryz.underlying152 rfl (by kernel_rfl) (lb rfl)) ?_
  refine JL.pure rfl (PO.noEscape Tryz.func151 (by kernel_rfl) (by kernel_rfl) (by kernel_rfl) (by kernel_rfl) rfl) ?_
  refine JL.ld rfl (LO.fromUnsafe 0 rfl Tryz.underlying152 Tryz.underlying91 rfl (by kernel_rfl) (by kernel_rfl)) ?_
  refine JL.pure rfl (PO.nilCheck rfl) ?_
  refine JL.pure rfl (PO.fieldAddr fo93_0 rfl) ?_
  refine JL.op rfl (JO.store 0 (vs := [.pointer (some ⟨b, 0, none⟩)]) (cs' := [.pointer (some ⟨b, 0, none⟩), .slice sa m sc]) rfl rfl rfl rfl Tryz.sizeOf91 rfl rfl (Nat.le_of_ble_eq_true rfl) rfl) ?_
  rintro _ _ rfl
  refine JL.nil ?_
  refine Done.none (.inr rfl) rfl (List.Sublist.refl _) ?_
  exact ⟨rfl, rfl⟩

theorem Y_cc1 (b : Nat) (sa : Option Addr) (m sc : Nat) :
    Ct Tryz.prog 120 [.pointer (some ⟨b, 0, none⟩)] [bk b 93 [.pointer (some ⟨b, 0, none⟩), .slice sa m sc]] (fun _ => True) (fun v A' => v = .tuple #[] ∧ A' = [bk b 93 [.pointer (some ⟨b, 0, none⟩), .slice sa m sc]]) := by
  refine Ct.intro Tryz.func120 rfl Tryz.ntmps120 (Nat.le_of_ble_eq_true rfl) fun w0 hpre => ?_
  refine JC.seq ?_
  refine JC.region ?_
  refine JL.pure rfl (PO.move (v := .pointer (some ⟨b, 0, none⟩)) rfl) ?_
  refine JL.pure rfl (PO.nilCheck rfl) ?_
  refine JL.pure rfl (PO.fieldAddr fo93_0 rfl) ?_
  refine JL.ld rfl (LO.load1 0 (v := .pointer (some ⟨b, 0, none⟩)) rfl rfl Tryz.isAgg91 rfl) ?_
  refine JL.pure rfl (PO.eqlPN Tryz.underlying91 (by kernel_rfl) rfl rfl) ?_
  refine JL.nil ?_
  refine JQ.seq ?_
  refine JC.condF (congrArg Value.bool rfl) ?_
  refine JC.seq ?_
  refine JC.region ?_
  refine JL.pure rfl (PO.move (v := .pointer (some ⟨b, 0, none⟩)) rfl) ?_
  refine JL.pure rfl (PO.nilCheck rfl) ?_
  refine JL.pure rfl (PO.fieldAddr fo93_0 rfl) ?_
  refine JL.ld rfl (LO.load1 0 (v := .pointer (some ⟨b, 0, none⟩)) rfl rfl Tryz.isAgg91 rfl) ?_
  refine JL.pure rfl (PO.move (v := .pointer (some ⟨b, 0, none⟩)) rfl) ?_
  refine JL.pure rfl (PO.neqPP Tryz.underlying91 (by kernel_rfl) rfl rfl) ?_
  refine JL.nil ?_
  refine JQ.seq ?_
  refine JC.condF (congrArg Value.bool rfl) ?_
  refine JC.skip ?_
  refine Done.none (.inr rfl) rfl (List.Sublist.refl _) ?_
  exact ⟨rfl, rfl⟩

theorem Y_ws0 (b : Nat) (sa : Option Addr) (sc : Nat) (l s : Str) (hl : l.length ≤ 100000000) (hs : s.length ≤ 100000000) :
    Ct Tryz.prog 77 [.pointer (some ⟨b, 0, none⟩), str s] [bk b 93 [.pointer none, .slice sa l.length sc], Res.row (.slice sa l.length sc) 5 1 l.length (l.map encB)] (fun _ => True) (fun v A' => ∃ a c, v = .tuple #[.int .i64 ((s.length : Nat) : Int), .nilIface] ∧ A' = [bk b 93 [.pointer (some ⟨b, 0, none⟩), .slice a (l ++ s).length c], .row (.slice a (l ++ s).length c) 5 1 (l ++ s).length ((l ++ s).map encB)]) := by
  refine Ct.intro Tryz.func77 rfl Tryz.ntmps77 (Nat.le_of_ble_eq_true rfl) fun w0 hpre => ?_
  refine JC.seq ?_
  refine JC.region ?_
  refine JL.pure rfl (PO.assign (v := .int .i64 0) rfl) ?_
  refine JL.pure rfl (PO.assign (v := .nilIface) rfl) ?_
  refine JL.nil ?_
  refine JQ.seq ?_
  refine JC.seq ?_
  refine JC.region ?_
  refine JL.pure rfl (PO.move (v := .pointer (some ⟨b, 0, none⟩)) rfl) ?_
  refine JL.op rfl (JO.call [0] Tryz.call120 rfl (Y_cc0 b sa l.length sc) rfl (fun _ _ => trivial)) ?_
  rintro _ _ ⟨_, ⟨rfl, rfl⟩, rfl⟩
  refine JL.nil ?_
  refine JQ.seq ?_
  refine JC.seq ?_
  refine JC.region ?_
  refine JL.pure rfl (PO.move (v := .pointer (some ⟨b, 0, none⟩)) rfl) ?_
  refine JL.pure rfl (PO.move (v := .pointer (some ⟨b, 0, none⟩)) rfl) ?_
  refine JL.pure rfl (PO.nilCheck rfl) ?_
  refine JL.pure rfl (PO.fieldAddr fo93_1 rfl) ?_
  refine JL.ld rfl (LO.load1 0 (v := .slice sa l.length sc) rfl rfl Tryz.isAgg39 rfl) ?_
  refine JL.pure rfl (PO.move (v := str s) rfl) ?_
  refine JL.op rfl (JO.appendS' 1 (q := s.length) (news := s.map encB) (n' := (l ++ s).length) (cs' := (l ++ s).map encB) rfl Tryz.underlying39 Tryz.underlying9 Tryz.typeInfo5 rfl (by' := 1) rfl rfl rfl rfl rfl (fun w hw => Src.str s) (by (try simp only [List.length_append, List.length_cons, List.length_nil]); omega) (by (try simp only [List.length_append, List.length_cons, List.length_nil]); omega) (by simp only [List.length_append]) (by simp only [List.map_append])) ?_
  rintro _ _ ⟨a_1, c_2, rfl, rfl⟩
  refine JL.pure rfl (PO.nilCheck rfl) ?_
  refine JL.pure rfl (PO.fieldAddr fo93_1 rfl) ?_
  refine JL.op rfl (JO.store 0 (vs := [.slice a_1 ((l ++ s).length) c_2]) (cs' := [.pointer (some ⟨b, 0, none⟩), .slice a_1 ((l ++ s).length) c_2]) rfl rfl rfl rfl Tryz.sizeOf39 rfl rfl (Nat.le_of_ble_eq_true rfl) rfl) ?_
  rintro _ _ rfl
  refine JL.nil ?_
  refine JQ.seq ?_
  refine JC.seq ?_
  refine JC.region ?_
  refine JL.pure rfl (PO.move (v := str s) rfl) ?_
  refine JL.pure rfl (PO.lenS Tryz.underlying9 rfl) ?_
  refine JL.pure rfl (PO.assign (v := .int .i64 (s.length : Int)) rfl) ?_
  refine JL.pure rfl (PO.assign (v := .nilIface) rfl) ?_
  refine JL.nil ?_
  refine JQ.seq ?_
  refine JC.ret ?_
  refine Done.two (.inl rfl) rfl (RV.tmp (v := .int .i64 (s.length : Int)) rfl) (RV.tmp (v := .nilIface) rfl) (List.Sublist.refl _) ?_
  exact ⟨_, _, rfl, rfl⟩

theorem Y_ws1 (b : Nat) (sa : Option Addr) (sc : Nat) (l s : Str) (hl : l.length ≤ 100000000) (hs : s.length ≤ 100000000) :
    Ct Tryz.prog 77 [.pointer (some ⟨b, 0, none⟩), str s] [bk b 93 [.pointer (some ⟨b, 0, none⟩), .slice sa l.length sc], Res.row (.slice sa l.length sc) 5 1 l.length (l.map encB)] (fun _ => True) (fun v A' => ∃ a c, v = .tuple #[.int .i64 ((s.length : Nat) : Int), .nilIface] ∧ A' = [bk b 93 [.pointer (some ⟨b, 0, none⟩), .slice a (l ++ s).length c], .row (.slice a (l ++ s).length c) 5 1 (l ++ s).length ((l ++ s).map encB)]) := by
  refine Ct.intro Tryz.func77 rfl Tryz.ntmps77 (Nat.le_of_ble_eq_true rfl) fun w0 hpre => ?_
  refine JC.seq ?_
  refine JC.region ?_
  refine JL.pure rfl (PO.assign (v := .int .i64 0) rfl) ?_
  refine JL.pure rfl (PO.assign (v := .nilIface) rfl) ?_
  refine JL.nil ?_
  refine JQ.seq ?_
  refine JC.seq ?_
  refine JC.region ?_
  refine JL.pure rfl (PO.move (v := .pointer (some ⟨b, 0, none⟩)) rfl) ?_
  refine JL.op rfl (JO.call [0] Tryz.call120 rfl (Y_cc1 b sa l.length sc) rfl (fun _ _ => trivial)) ?_
  rintro _ _ ⟨_, ⟨rfl, rfl⟩, rfl⟩
  refine JL.nil ?_
  refine JQ.seq ?_
  refine JC.seq ?_
  refine JC.region ?_
  refine JL.pure rfl (PO.move (v := .pointer (some ⟨b, 0, none⟩)) rfl) ?_
  refine JL.pure rfl (PO.move (v := .pointer (some ⟨b, 0, none⟩)) rfl) ?_
  refine JL.pure rfl (PO.nilCheck rfl) ?_
  refine JL.pure rfl (PO.fieldAddr fo93_1 rfl) ?_
  refine JL.ld rfl (LO.load1 0 (v := .slice sa l.length sc) rfl rfl Tryz.isAgg39 rfl) ?_
  refine JL.pure rfl (PO.move (v := str s) rfl) ?_
  refine JL.op rfl (JO.appendS' 1 (q := s.length) (news := s.map encB) (n' := (l ++ s).length) (cs' := (l ++ s).map encB) rfl Tryz.underlying39 Tryz.underlying9 Tryz.typeInfo5 rfl (by' := 1) rfl rfl rfl rfl rfl (fun w hw => Src.str s) (by (try simp only [List.length_append, List.length_cons, List.length_nil]); omega) (by (try simp only [List.length_append, List.length_cons, List.length_nil]); omega) (by simp only [List.length_append]) (by simp only [List.map_append])) ?_
  rintro _ _ ⟨a_1, c_2, rfl, rfl⟩
  refine JL.pure rfl (PO.nilCheck rfl) ?_
  refine JL.pure rfl (PO.fieldAddr fo93_1 rfl) ?_
  refine JL.op rfl (JO.store 0 (vs := [.slice a_1 ((l ++ s).length) c_2]) (cs' := [.pointer (some ⟨b, 0, none⟩), .slice a_1 ((l ++ s).length) c_2]) rfl rfl rfl rfl Tryz.sizeOf39 rfl rfl (Nat.le_of_ble_eq_true rfl) rfl) ?_
  rintro _ _ rfl
  refine JL.nil ?_
  refine JQ.seq ?_
  refine JC.seq ?_
  refine JC.region ?_
  refine JL.pure rfl (PO.move (v := str s) rfl) ?_
  refine JL.pure rfl (PO.lenS Tryz.underlying9 rfl) ?_
  refine JL.pure rfl (PO.assign (v := .int .i64 (s.length : Int)) rfl) ?_
  refine JL.pure rfl (PO.assign (v := .nilIface) rfl) ?_
  refine JL.nil ?_
  refine JQ.seq ?_
  refine JC.ret ?_
  refine Done.two (.inl rfl) rfl (RV.tmp (v := .int .i64 (s.length : Int)) rfl) (RV.tmp (v := .nilIface) rfl) (List.Sublist.refl _) ?_
  exact ⟨_, _, rfl, rfl⟩

theorem Y_blen (b : Nat) (u : Option Addr) (sa : Option Addr) (m sc : Nat) :
    Ct Tryz.prog 79 [.pointer (some ⟨b, 0, none⟩)] [bk b 93 [.pointer u, .slice sa m sc]] (fun _ => True) (fun v A' => v = .int .i64 ((m : Nat) : Int) ∧ A' = [bk b 93 [.pointer u, .slice sa m sc]]) := by
  refine Ct.intro Tryz.func79 rfl Tryz.ntmps79 (Nat.le_of_ble_eq_true rfl) fun w0 hpre => ?_
  refine JC.seq ?_
  refine JC.region ?_
  refine JL.pure rfl (PO.assign (v := .int .i64 0) rfl) ?_
  refine JL.nil ?_
  refine JQ.seq ?_
  refine JC.seq ?_
  refine JC.region ?_
  refine JL.pure rfl (PO.move (v := .pointer (some ⟨b, 0, none⟩)) rfl) ?_
  refine JL.pure rfl (PO.nilCheck rfl) ?_
  refine JL.pure rfl (PO.fieldAddr fo93_1 rfl) ?_
  refine JL.ld rfl (LO.load1 0 (v := .slice sa m sc) rfl rfl Tryz.isAgg39 rfl) ?_
  refine JL.pure rfl (PO.lenV Tryz.underlying39 rfl) ?_
  refine JL.pure rfl (PO.assign (v := .int .i64 ((m : Nat) : Int)) rfl) ?_
  refine JL.nil ?_
  refine JQ.seq ?_
  refine JC.ret ?_
  refine Done.one (.inl rfl) rfl (RV.tmp (v := .int .i64 ((m : Nat) : Int)) rfl) (List.Sublist.refl _) ?_
  exact ⟨rfl, rfl⟩

end Go.Proofs.YtjncpgcccgdeiaaGreatDoor

set_option linter.unusedSimpArgs false
set_option linter.unusedVariables false
set_option linter.unnecessarySimpa false
namespace Go.Proofs.YtjncpgcccgdeiaaGreatDoor
open Go Go.RowKit
theorem ix_cases (c : UInt8) : ∀ s : Str, (Lib.indexByte s c = -1 ∧ ∀ x ∈ s, x ≠ c) ∨ (∃ i : Nat, Lib.indexByte s c = ((i : Nat) : Int) ∧ i < s.length ∧ (∀ k, k < i → s.getD k 0 ≠ c) ∧ s.getD i 0 = c)
  | [] => .inl ⟨rfl, fun _ h => by cases h⟩
  | b :: s => by
    by_cases hb : b = c
    · subst hb
      exact .inr ⟨0, by simp [Lib.indexByte], by simp, fun k h => absurd h (Nat.not_lt_zero k), rfl⟩
    · have hb' : (b == c) = false := by simpa using hb
      rcases ix_cases c s with ⟨h1, h2⟩ | ⟨i, h1, h2, h3, h4⟩
      · refine .inl ⟨by simp [Lib.indexByte, hb', h1], fun x hx => ?_⟩
        rcases List.mem_cons.1 hx with rfl | hx
        · exact hb
        · exact h2 x hx
      · refine .inr ⟨i + 1, ?_, by simp; omega, fun k hk => ?_, by simpa using h4⟩
        · have : ¬ (((i : Nat) : Int) = -1) := by omega
          simp [Lib.indexByte, hb', h1, this]
        · cases k with
          | zero => simpa using hb
          | succ k => simpa using h3 k (by omega)
theorem front_no {c : UInt8} {s : Str} {i : Nat} (hi : i ≤ s.length) (h : ∀ k, k < i → s.getD k 0 ≠ c) : ∀ x ∈ s.take i, x ≠ c := by
  have := drop_no (s := s) (c := c) (b := 0) (i := i) hi (fun k _ hk => h k hk)
  simpa using this
theorem cut_at {c : UInt8} {s : Str} {i : Nat} (hi : i < s.length) (hc : s.getD i 0 = c) : s = s.take i ++ c :: s.drop (i + 1) := by
  have h1 := (List.take_append_drop i s).symm
  rw [drop_at (getD_some (d := 0) hi), hc] at h1
  exact h1
theorem split_first {c : UInt8} {s : Str} {i : Nat} (hi : i < s.length) (hN : ∀ k, k < i → s.getD k 0 ≠ c) (hc : s.getD i 0 = c) : splitB c s = s.take i :: splitB c (s.drop (i + 1)) := by
  have := split_cut (s := s) (c := c) (b := 0) (i := i) hi (Nat.zero_le _) (fun k _ hk => hN k hk) hc
  simpa using this
theorem splitB_count (c : UInt8) : ∀ s : Str, (splitB c s).length = s.count c + 1
  | [] => rfl
  | x :: s => by
    have ih := splitB_count c s
    unfold splitB
    by_cases h : x = c
    · subst h; rw [if_pos rfl, List.length_cons, ih, List.count_cons_self]
    · rw [if_neg h, List.length_cons, List.length_tail, ih, List.count_cons_of_ne h]; omega
theorem cutB_no {c : UInt8} : ∀ {s : Str}, (∀ x ∈ s, x ≠ c) → cutB c s = (s, [])
  | [], _ => rfl
  | x :: s, h => by
    rw [cutB, if_neg (h x (List.mem_cons_self ..)), cutB_no fun y hy => h y (List.mem_cons_of_mem _ hy)]
theorem cutB_app {c : UInt8} : ∀ {a : Str} (r : Str), (∀ x ∈ a, x ≠ c) → cutB c (a ++ c :: r) = (a, r)
  | [], r, _ => by simp [cutB]
  | x :: a, r, h => by
    rw [List.cons_append, cutB, if_neg (h x (List.mem_cons_self ..)), cutB_app r fun y hy => h y (List.mem_cons_of_mem _ hy)]
theorem cutB_first {c : UInt8} {s : Str} {i : Nat} (hi : i < s.length) (hN : ∀ k, k < i → s.getD k 0 ≠ c) (hc : s.getD i 0 = c) : cutB c s = (s.take i, s.drop (i + 1)) := by
  have h := cutB_app (c := c) (a := s.take i) (s.drop (i + 1)) (front_no (by omega) hN)
  rw [← cut_at hi hc] at h
  exact h
theorem linesG_no : ∀ {s : Str} (b : Str), (∀ x ∈ s, x ≠ 10) → linesG b s = []
  | [], _, _ => rfl
  | x :: s, b, h => by
    rw [linesG, if_neg (h x (List.mem_cons_self ..)), linesG_no _ fun y hy => h y (List.mem_cons_of_mem _ hy)]
theorem linesG_app : ∀ {a : Str} (b r : Str), (∀ x ∈ a, x ≠ 10) → linesG b (a ++ 10 :: r) = (b ++ a ++ [10]) :: linesG [] r
  | [], b, r, _ => by simp [linesG]
  | x :: a, b, r, h => by
    rw [List.cons_append, linesG, if_neg (h x (List.mem_cons_self ..)), linesG_app _ r fun y hy => h y (List.mem_cons_of_mem _ hy)]
    simp
theorem lines_no {s : Str} (h : ∀ x ∈ s, x ≠ 10) : linesOf s = [] := linesG_no [] h
theorem lines_first {s : Str} {i : Nat} (hi : i < s.length) (hN : ∀ k, k < i → s.getD k 0 ≠ 10) (hc : s.getD i 0 = 10) : linesOf s = s.take (i + 1) :: linesOf (s.drop (i + 1)) := by
  have h := linesG_app (a := s.take i) [] (s.drop (i + 1)) (front_no (by omega) hN)
  rw [← cut_at hi hc, List.nil_append] at h
  rw [linesOf, h, take_at (getD_some (d := 0) hi), hc]
  rfl
theorem suffix_line {s : Str} {i : Nat} (hi : i < s.length) (hc : s.getD i 0 = 10) : Lib.hasSuffix (s.take (i + 1)) [10] = true := by
  rw [take_at (getD_some (d := 0) hi), hc]
  unfold Lib.hasSuffix
  rw [List.isSuffixOf_iff_suffix]
  exact List.suffix_append _ _
theorem suffix_none {s : Str} (h : ∀ x ∈ s, x ≠ 10) : Lib.hasSuffix s [10] = false := by
  unfold Lib.hasSuffix
  rw [Bool.eq_false_iff]
  intro hs
  rw [List.isSuffixOf_iff_suffix] at hs
  exact h 10 (hs.subset (List.mem_singleton_self _)) rfl
theorem fillS (m : Nat) : (List.replicate m [str []]).flatten = (List.replicate m ([] : Str)).map str := by
  induction m with
  | zero => rfl
  | succ m ih => rw [List.replicate_succ, List.flatten_cons, ih, List.replicate_succ, List.map_cons]; rfl
theorem drop_head {α : Type} {l r : List α} {x d : α} {i : Nat} (h : l.drop i = x :: r) : l.getD i d = x ∧ l.drop (i + 1) = r ∧ i < l.length := by
  have hi : i < l.length := by
    rcases Nat.lt_or_ge i l.length with h1 | h1
    · exact h1
    · rw [List.drop_of_length_le h1] at h; cases h
  rw [drop_at (getD_some (d := d) hi)] at h
  simp only [List.cons.injEq] at h
  exact ⟨h.1, h.2, hi⟩
theorem split_last {c : UInt8} {t : Str} (h : (splitB c t).length = 1) : splitB c t = [t] := by
  cases hq : splitB c t with
  | nil => exact absurd hq (splitB_ne c t)
  | cons p r =>
    cases r with
    | nil => rw [splitB_single c t p hq]
    | cons p2 r2 => rw [hq] at h; simp at h
theorem dec_pos (n : Int) : 0 < (dec n).length := by
  have h : ∀ k, 0 < (Lib.decDigits k).length := fun k => by
    rw [Lib.decDigits]
    split <;> simp
  unfold dec Lib.itoa
  split
  · simp
  · exact h _
end Go.Proofs.YtjncpgcccgdeiaaGreatDoor

namespace Go.Proofs
open Go.Shelf
def Tryz.lays143_ren : Go.Shelf.Ren := ⟨fun | 143 => 164 | 219 => 169 | 217 => 191 | 225 => 192 | 224 => 193 | 267 => 194 | 266 => 204 | 314 => 205 | n => n, fun | 9 => 9 | 3 => 3 | 4 => 4 | 5 => 5 | 46 => 151 | 146 => 201 | 51 => 187 | n => n, fun | 1 => 0 | n => n⟩
theorem Tryz.lays143 : Go.Proofs.Lays.n143 Tryz.prog Tryz.lays143_ren := {
  mixed := by kernel_rfl
  f143 := Tryz.func164.trans (congrArg some (by kernel_rfl))
  f217 := Tryz.func191.trans (congrArg some (by kernel_rfl))
  f219 := Tryz.func169.trans (congrArg some (by kernel_rfl))
  f224 := Tryz.func193.trans (congrArg some (by kernel_rfl))
  f225 := Tryz.func192.trans (congrArg some (by kernel_rfl))
  f266 := Tryz.func204.trans (congrArg some (by kernel_rfl))
  f267 := Tryz.func194.trans (congrArg some (by kernel_rfl))
  f314 := Tryz.func205.trans (congrArg some (by kernel_rfl))
  t3 := Tryz.underlying3
  a3 := Tryz.isAgg3
  z3 := Tryz.sizeOf3
  v3 := Tryz.zeroValue3
  t4 := Tryz.underlying4
  a4 := Tryz.isAgg4
  z4 := Tryz.sizeOf4
  v4 := Tryz.zeroValue4
  t5 := Tryz.underlying5
  a5 := Tryz.isAgg5
  z5 := Tryz.sizeOf5
  v5 := Tryz.zeroValue5
  t9 := Tryz.underlying9
  a9 := Tryz.isAgg9
  z9 := Tryz.sizeOf9
  v9 := Tryz.zeroValue9
  t46 := Tryz.underlying151
  a46 := Tryz.isAgg151
  z46 := Tryz.sizeOf151
  v46 := Tryz.zeroValue151
  t51 := Tryz.underlying187
  a51 := Tryz.isAgg187
  z51 := Tryz.sizeOf187
  v51 := Tryz.zeroValue187
  t146 := Tryz.underlying201
  a146 := Tryz.isAgg201
  z146 := Tryz.sizeOf201
  v146 := Tryz.zeroValue201
  g1 := by kernel_rfl }
open Go.RowKit Go.Lib in
theorem Tryz.strings_Index_one (s : ByteArray) (c : UInt8) (w : World) :
    Calls Tryz.prog 164 #[.string s, .string ⟨#[c]⟩] w fun e w' => e = .returned (.int .i64 (Lib.indexByte s.data.toList c)) ∧ w' = w := Any.strings_Index_one Tryz.lays143 s c w
def Tryz.lays138_ren : Go.Shelf.Ren := ⟨fun | 138 => 166 | 195 => 184 | 218 => 185 | 143 => 164 | 219 => 169 | 217 => 191 | 225 => 192 | 224 => 193 | 267 => 194 | 266 => 204 | 314 => 205 | n => n, fun | 9 => 9 | 3 => 3 | 4 => 4 | 5 => 5 | 0 => 0 | 46 => 151 | 146 => 201 | 51 => 187 | n => n, fun | 1 => 0 | n => n⟩
theorem Tryz.lays138 : Go.Proofs.Lays.n138 Tryz.prog Tryz.lays138_ren := {
  mixed := by kernel_rfl
  f138 := Tryz.func166.trans (congrArg some (by kernel_rfl))
  f143 := Tryz.func164.trans (congrArg some (by kernel_rfl))
  f195 := Tryz.func184.trans (congrArg some (by kernel_rfl))
  f217 := Tryz.func191.trans (congrArg some (by kernel_rfl))
  f218 := Tryz.func185.trans (congrArg some (by kernel_rfl))
  f219 := Tryz.func169.trans (congrArg some (by kernel_rfl))
  f224 := Tryz.func193.trans (congrArg some (by kernel_rfl))
  f225 := Tryz.func192.trans (congrArg some (by kernel_rfl))
  f266 := Tryz.func204.trans (congrArg some (by kernel_rfl))
  f267 := Tryz.func194.trans (congrArg some (by kernel_rfl))
  f314 := Tryz.func205.trans (congrArg some (by kernel_rfl))
  t0 := Tryz.underlying0
  a0 := Tryz.isAgg0
  z0 := Tryz.sizeOf0
  v0 := Tryz.zeroValue0
  t3 := Tryz.underlying3
  a3 := Tryz.isAgg3
  z3 := Tryz.sizeOf3
  v3 := Tryz.zeroValue3
  t4 := Tryz.underlying4
  a4 := Tryz.isAgg4
  z4 := Tryz.sizeOf4
  v4 := Tryz.zeroValue4
  t5 := Tryz.underlying5
  a5 := Tryz.isAgg5
  z5 := Tryz.sizeOf5
  v5 := Tryz.zeroValue5
  t9 := Tryz.underlying9
  a9 := Tryz.isAgg9
  z9 := Tryz.sizeOf9
  v9 := Tryz.zeroValue9
  t46 := Tryz.underlying151
  a46 := Tryz.isAgg151
  z46 := Tryz.sizeOf151
  v46 := Tryz.zeroValue151
  t51 := Tryz.underlying187
  a51 := Tryz.isAgg187
  z51 := Tryz.sizeOf187
  v51 := Tryz.zeroValue187
  t146 := Tryz.underlying201
  a146 := Tryz.isAgg201
  z146 := Tryz.sizeOf201
  v146 := Tryz.zeroValue201
  g1 := by kernel_rfl }
open Go.RowKit Go.Lib in
theorem Tryz.strings_Count_one (s : ByteArray) (c : UInt8) (w : World) :
    Calls Tryz.prog 166 #[.string s, .string ⟨#[c]⟩] w fun e w' => e = .returned (.int .i64 (Lib.countByte s.data.toList c)) ∧ w' = w := Any.strings_Count_one Tryz.lays138 s c w
def Tryz.lays100_ren : Go.Shelf.Ren := ⟨fun | 100 => 111 | 207 => 143 | n => n, fun | 9 => 9 | 4 => 4 | 3 => 3 | n => n, fun | n => n⟩
theorem Tryz.lays100 : Go.Proofs.Lays.n100 Tryz.prog Tryz.lays100_ren := {
  mixed := by kernel_rfl
  f100 := Tryz.func111.trans (congrArg some (by kernel_rfl))
  f207 := Tryz.func143.trans (congrArg some (by kernel_rfl))
  t3 := Tryz.underlying3
  a3 := Tryz.isAgg3
  z3 := Tryz.sizeOf3
  v3 := Tryz.zeroValue3
  t4 := Tryz.underlying4
  a4 := Tryz.isAgg4
  z4 := Tryz.sizeOf4
  v4 := Tryz.zeroValue4
  t9 := Tryz.underlying9
  a9 := Tryz.isAgg9
  z9 := Tryz.sizeOf9
  v9 := Tryz.zeroValue9 }
open Go.RowKit Go.Lib in
theorem Tryz.strings_HasSuffix (s p : ByteArray) (w : World) (hs : s.size ≤ 9223372036854775807) :
    Calls Tryz.prog 111 #[.string s, .string p] w fun e w' => e = .returned (.bool (Lib.hasSuffix s.data.toList p.data.toList)) ∧ w' = w := Any.strings_HasSuffix Tryz.lays100 s p w hs
def Tryz.lays219_ren : Go.Shelf.Ren := ⟨fun | 219 => 169 | 217 => 191 | 225 => 192 | 224 => 193 | 267 => 194 | 266 => 204 | 314 => 205 | n => n, fun | 9 => 9 | 3 => 3 | 4 => 4 | 5 => 5 | 46 => 151 | 146 => 201 | 51 => 187 | n => n, fun | 1 => 0 | n => n⟩
theorem Tryz.lays219 : Go.Proofs.Lays.n219 Tryz.prog Tryz.lays219_ren := {
  mixed := by kernel_rfl
  f217 := Tryz.func191.trans (congrArg some (by kernel_rfl))
  f219 := Tryz.func169.trans (congrArg some (by kernel_rfl))
  f224 := Tryz.func193.trans (congrArg some (by kernel_rfl))
  f225 := Tryz.func192.trans (congrArg some (by kernel_rfl))
  f266 := Tryz.func204.trans (congrArg some (by kernel_rfl))
  f267 := Tryz.func194.trans (congrArg some (by kernel_rfl))
  f314 := Tryz.func205.trans (congrArg some (by kernel_rfl))
  t3 := Tryz.underlying3
  a3 := Tryz.isAgg3
  z3 := Tryz.sizeOf3
  v3 := Tryz.zeroValue3
  t4 := Tryz.underlying4
  a4 := Tryz.isAgg4
  z4 := Tryz.sizeOf4
  v4 := Tryz.zeroValue4
  t5 := Tryz.underlying5
  a5 := Tryz.isAgg5
  z5 := Tryz.sizeOf5
  v5 := Tryz.zeroValue5
  t9 := Tryz.underlying9
  a9 := Tryz.isAgg9
  z9 := Tryz.sizeOf9
  v9 := Tryz.zeroValue9
  t46 := Tryz.underlying151
  a46 := Tryz.isAgg151
  z46 := Tryz.sizeOf151
  v46 := Tryz.zeroValue151
  t51 := Tryz.underlying187
  a51 := Tryz.isAgg187
  z51 := Tryz.sizeOf187
  v51 := Tryz.zeroValue187
  t146 := Tryz.underlying201
  a146 := Tryz.isAgg201
  z146 := Tryz.sizeOf201
  v146 := Tryz.zeroValue201
  g1 := by kernel_rfl }
open Go.RowKit Go.Lib in
theorem Tryz.stringslite_Index_one (s : ByteArray) (c : UInt8) (w : World) :
    Calls Tryz.prog 169 #[.string s, .string ⟨#[c]⟩] w fun e w' => e = .returned (.int .i64 (Lib.indexByte s.data.toList c)) ∧ w' = w := Any.stringslite_Index_one Tryz.lays219 s c w
end Go.Proofs

set_option linter.unusedSimpArgs false
set_option linter.unusedVariables false
set_option linter.unnecessarySimpa false
namespace Go.Proofs.YtjncpgcccgdeiaaGreatDoor
open Go Go.RowKit

theorem C_ix (s : Str) (c : UInt8) : Ct Tryz.prog 164 [str s, str [c]] [] (fun _ => True) (fun v A' => A' = [] ∧ ((v = .int .i64 (-1) ∧ ∀ x ∈ s, x ≠ c) ∨ ∃ i : Nat, v = .int .i64 ((i : Nat) : Int) ∧ i < s.length ∧ (∀ k, k < i → s.getD k 0 ≠ c) ∧ s.getD i 0 = c)) := fun w hA _ => by
  refine (Tryz.strings_Index_one ⟨s.toArray⟩ c w).mono fun e w' h => ?_
  obtain ⟨rfl, rfl⟩ := h
  refine ⟨_, [], rfl, ⟨rfl, ?_⟩, hA.below (Below.refl _ _)⟩
  rw [List.toList_toArray]
  rcases ix_cases c s with ⟨h1, h2⟩ | ⟨i, h1, h2⟩
  · exact .inl ⟨by rw [h1], h2⟩
  · exact .inr ⟨i, by rw [h1], h2⟩

theorem C_lix (s : Str) (c : UInt8) : Ct Tryz.prog 169 [str s, str [c]] [] (fun _ => True) (fun v A' => A' = [] ∧ ((v = .int .i64 (-1) ∧ ∀ x ∈ s, x ≠ c) ∨ ∃ i : Nat, v = .int .i64 ((i : Nat) : Int) ∧ i < s.length ∧ (∀ k, k < i → s.getD k 0 ≠ c) ∧ s.getD i 0 = c)) := fun w hA _ => by
  refine (Tryz.stringslite_Index_one ⟨s.toArray⟩ c w).mono fun e w' h => ?_
  obtain ⟨rfl, rfl⟩ := h
  refine ⟨_, [], rfl, ⟨rfl, ?_⟩, hA.below (Below.refl _ _)⟩
  rw [List.toList_toArray]
  rcases ix_cases c s with ⟨h1, h2⟩ | ⟨i, h1, h2⟩
  · exact .inl ⟨by rw [h1], h2⟩
  · exact .inr ⟨i, by rw [h1], h2⟩

theorem C_cnt (s : Str) (c : UInt8) : Ct Tryz.prog 166 [str s, str [c]] [] (fun _ => True) (fun v A' => v = .int .i64 ((s.count c : Nat) : Int) ∧ A' = []) := fun w hA _ => by
  refine (Tryz.strings_Count_one ⟨s.toArray⟩ c w).mono fun e w' h => ?_
  obtain ⟨rfl, rfl⟩ := h
  exact ⟨_, [], rfl, ⟨by rw [List.toList_toArray]; rfl, rfl⟩, hA.below (Below.refl _ _)⟩
theorem C_sfx (s p : Str) (hs : s.length ≤ 9223372036854775807) : Ct Tryz.prog 111 [str s, str p] [] (fun _ => True) (fun v A' => v = .bool (Lib.hasSuffix s p) ∧ A' = []) := fun w hA _ => by
  refine (Tryz.strings_HasSuffix ⟨s.toArray⟩ ⟨p.toArray⟩ w (by simpa [ByteArray.size] using hs)).mono fun e w' h => ?_
  obtain ⟨rfl, rfl⟩ := h
  exact ⟨_, [], rfl, ⟨by rw [List.toList_toArray, List.toList_toArray], rfl⟩, hA.below (Below.refl _ _)⟩

theorem JO.makeSliceS {P : Program} {n : Nat} {w0 : World} {D : List Nat} {L : List Res} {e : Env} {d : Option Tmp} {ty : TypeId} {pos : String} {aft : Array Edge} {gd : Option (Nat × Bool)} {m : Nat} {t el : TypeId} {x : Operand} {ti : TypeInfo}
    (ht : P.underlying t = some (.slice el)) (hti : ∀ w, (typeInfo el).run P w = .ok ti w) (hk : ti.size = 1) (hz : ti.zero = some (str [])) (hx : rd n e x = .int .i64 m) (hm : m ≤ maxLen) (hb : ti.bytes * m ≤ 281474976710656) :
    JO P n w0 D L e ⟨d, .makeSlice t x x, ty, pos, aft, gd⟩ (fun v L' => ∃ a, v = .slice a m m ∧ L' = Res.row (.slice a m m) el 1 m ((List.replicate m ([] : Str)).map str) :: L) := by
  rw [← fillS]
  exact JO.makeSlice ht hti hk hz rfl rfl hx hm hb

attribute [local irreducible] JL JC JQ JO LO PO JA JX Ct

theorem fill_done2 {α : Type} {l : List α} {d : α} {m k : Nat} (h : l.length ≤ m ∧ k - m = 0) : l.take m ++ List.replicate (k - m) d = l := by
  rw [h.2, List.take_of_length_le h.1]; simp

set_option maxRecDepth 4000 in
set_option maxHeartbeats 1000000 in
theorem Y_gsplit (s : Str) (c : UInt8) (hs : s.length ≤ 100000000) :
    Ct Tryz.prog 144 [str s, str [c], .int .i64 ((0 : Nat) : Int), .int .i64 (-1)] [] (fun _ => True) (fun v A' => ∃ a q, v = .slice a (splitB c s).length q ∧ A' = [.row (.slice a (splitB c s).length q) 9 1 (splitB c s).length ((splitB c s).map str)]) := by
  refine Ct.intro Tryz.func144 rfl Tryz.ntmps144 (Nat.le_of_ble_eq_true rfl) fun w0 hpre => ?_
  refine JC.seq ?_
  refine JC.region ?_
  refine JL.pure rfl (PO.assign (v := .slice none 0 0) rfl) ?_
  refine JL.nil ?_
  refine JQ.seq ?_
  refine JC.seq ?_
  refine JC.seq ?_
  refine JC.region ?_
  refine JL.pure rfl (PO.move (v := .int .i64 (-1)) rfl) ?_
  refine JL.pure rfl (PO.eqlI rfl rfl) ?_
  refine JL.nil ?_
  refine JQ.seq ?_
  have h_1 : ¬ ((-1) = 0) := (by decide)
  refine JC.condF (congrArg Value.bool (decide_eq_false h_1)) ?_
  refine JC.skip ?_
  refine JQ.seq ?_
  refine JC.seq ?_
  refine JC.seq ?_
  refine JC.region ?_
  refine JL.pure rfl (PO.move (v := str [c]) rfl) ?_
  refine JL.pure rfl (PO.eqlS rfl rfl) ?_
  refine JL.nil ?_
  refine JQ.seq ?_
  have h_2 : ¬ ([c] = []) := (List.cons_ne_nil _ _)
  refine JC.condF (congrArg Value.bool (decide_eq_false h_2)) ?_
  refine JC.skip ?_
  refine JQ.seq ?_
  refine JC.seq ?_
  refine JC.seq ?_
  refine JC.region ?_
  refine JL.pure rfl (PO.move (v := .int .i64 (-1)) rfl) ?_
  refine JL.pure rfl (PO.lss rfl rfl) ?_
  refine JL.nil ?_
  refine JQ.seq ?_
  have h_3 : (-1) < 0 := (by decide)
  refine JC.condT (congrArg Value.bool (decide_eq_true h_3)) ?_
  refine JC.region ?_
  refine JL.pure rfl (PO.move (v := str s) rfl) ?_
  refine JL.pure rfl (PO.move (v := str [c]) rfl) ?_
  refine JL.op rfl (JO.call [] Tryz.call166 rfl (C_cnt s c) rfl (fun _ _ => trivial)) ?_
  rintro _ _ ⟨_, ⟨rfl, rfl⟩, rfl⟩
  have hcl_4 := List.count_le_length (a := c) (l := s)
  refine JL.pure rfl (PO.add (c := (((s.count c) + 1 : Nat) : Int)) rfl rfl (wr (by omega))) ?_
  refine JL.pure rfl (PO.assign (v := .int .i64 (((s.count c) + 1 : Nat) : Int)) rfl) ?_
  refine JL.nil ?_
  refine JQ.seq ?_
  refine JC.seq ?_
  refine JC.region ?_
  refine JL.pure rfl (PO.move (v := .int .i64 (((s.count c) + 1 : Nat) : Int)) rfl) ?_
  refine JL.pure rfl (PO.move (v := str s) rfl) ?_
  refine JL.pure rfl (PO.lenS Tryz.underlying9 rfl) ?_
  refine JL.pure rfl (PO.add (c := ((s.length + 1 : Nat) : Int)) rfl rfl (wr (by omega))) ?_
  refine JL.pure rfl (PO.min2D (c := ((s.count c + 1 : Nat) : Int)) rfl rfl (by omega)) ?_
  refine JL.pure rfl (PO.assign (v := .int .i64 ((s.count c + 1 : Nat) : Int)) rfl) ?_
  refine JL.nil ?_
  refine JQ.seq ?_
  refine JC.seq ?_
  refine JC.region ?_
  refine JL.pure rfl (PO.move (v := .int .i64 ((s.count c + 1 : Nat) : Int)) rfl) ?_
  refine JL.op rfl (JO.makeSliceS (m := s.count c + 1) Tryz.underlying71 Tryz.typeInfo9 rfl rfl rfl (by unfold maxLen; omega) (by show 16 * _ ≤ _; omega)) ?_
  rintro _ _ ⟨a_5, rfl, rfl⟩
  refine JL.pure rfl (PO.assign (v := .slice a_5 (s.count c + 1) (s.count c + 1)) rfl) ?_
  refine JL.nil ?_
  refine JQ.seq ?_
  refine JC.seq ?_
  refine JC.region ?_
  refine JL.pure rfl (PO.move (v := .int .i64 ((s.count c + 1 : Nat) : Int)) rfl) ?_
  refine JL.pure rfl (PO.sub (c := (((s.count c + 1) - 1 : Nat) : Int)) rfl rfl (wr (by omega))) ?_
  refine JL.pure rfl (PO.assign (v := .int .i64 (((s.count c + 1) - 1 : Nat) : Int)) rfl) ?_
  refine JL.nil ?_
  refine JQ.seq ?_
  refine JC.seq ?_
  refine JC.region ?_
  refine JL.pure rfl (PO.assign (v := .int .i64 0) rfl) ?_
  refine JL.nil ?_
  refine JQ.seq ?_
  refine JC.seq ?_
  refine JC.block ?_
  refine JC.loop (fun k_ e_ L_ => ∃ i : Nat, ∃ s_ : Str, (i ≤ s.count c) ∧ (s_.length ≤ s.length) ∧ ((splitB c s).drop i = splitB c s_) ∧ e_ 0 = str s_ ∧ e_ 1 = str [c] ∧ e_ 2 = .int .i64 ((0 : Nat) : Int) ∧ e_ 3 = .int .i64 (((s.count c + 1) - 1 : Nat) : Int) ∧ e_ 8 = .slice none 0 0 ∧ e_ 9 = .slice a_5 (s.count c + 1) (s.count c + 1) ∧ e_ 10 = .int .i64 ((i : Nat) : Int) ∧ L_ = [Res.row (.slice a_5 (s.count c + 1) (s.count c + 1)) 9 1 (s.count c + 1) ((List.take i (splitB c s) ++ List.replicate (s.count c + 1 - i) []).map str)] ∧ k_ = (s.count c) - i) _ ⟨0, s, by omega, by omega, rfl, rfl, rfl, rfl, rfl, rfl, rfl, rfl, (by simp only [List.take_zero, List.nil_append]; rfl), rfl⟩ ?_
  rintro _ e_6 _ ⟨i, s_, hi, hl_, hD, he_7, he_8, he_9, he_10, he_11, he_12, he_13, rfl, rfl⟩
  refine JC.seq ?_
  refine JC.seq ?_
  refine JC.region ?_
  refine JL.pure rfl (PO.move (v := .int .i64 ((i : Nat) : Int)) he_13) ?_
  refine JL.pure rfl (PO.move (v := .int .i64 (((s.count c + 1) - 1 : Nat) : Int)) he_10) ?_
  refine JL.pure rfl (PO.lss rfl rfl) ?_
  refine JL.nil ?_
  refine JQ.seq ?_
  by_cases h_14 : ((i : Nat) : Int) < (((s.count c + 1) - 1 : Nat) : Int)
  · skip
    refine JC.condT (congrArg Value.bool (decide_eq_true h_14)) ?_
    refine JC.skip ?_
    refine JQ.seq ?_
    refine JC.block ?_
    refine JC.seq ?_
    refine JC.region ?_
    refine JL.pure rfl (PO.move (v := str s_) he_7) ?_
    refine JL.pure rfl (PO.move (v := str [c]) he_8) ?_
    refine JL.op rfl (JO.call [] Tryz.call164 rfl (C_ix s_ c) rfl (fun _ _ => trivial)) ?_
    rintro _ _ ⟨_, ⟨rfl, (⟨rfl, hn_19⟩ | ⟨i_15, rfl, hi_16, hf_17, hc_18⟩)⟩, rfl⟩
    · skip
      refine JL.pure rfl (PO.assign (v := .int .i64 (-1)) rfl) ?_
      refine JL.nil ?_
      refine JQ.seq ?_
      refine JC.seq ?_
      refine JC.seq ?_
      refine JC.region ?_
      refine JL.pure rfl (PO.move (v := .int .i64 (-1)) rfl) ?_
      refine JL.pure rfl (PO.lss rfl rfl) ?_
      refine JL.nil ?_
      refine JQ.seq ?_
      refine JC.condT (congrArg Value.bool (decide_eq_true h_3)) ?_
      refine JC.exit ?_
      refine JQ.thenExit ?_
      refine JQ.blockO rfl ?_
      refine JQ.thenExit ?_
      refine JQ.blockE ?_
      refine JQ.seq ?_
      refine JC.seq ?_
      refine JC.region ?_
      refine JL.pure rfl (PO.move (v := .slice a_5 (s.count c + 1) (s.count c + 1)) he_12) ?_
      refine JL.pure rfl (PO.move (v := .int .i64 ((i : Nat) : Int)) he_13) ?_
      refine JL.pure rfl (PO.move (v := str s_) he_7) ?_
      refine JL.facts fun hst => ?_
      obtain ⟨hr_20, hr_20b, -⟩ := row_some 0 rfl (by omega) hst
      refine JL.pure rfl (PO.indexAddrV (i := i) Tryz.underlying71 Tryz.sizeOf9 hr_20 hr_20b rfl rfl (by omega)) ?_
      refine JL.op rfl (JO.storeR 0 (vs := [str s_]) (cs' := ((List.take i (splitB c s) ++ List.replicate (s.count c + 1 - i) []).set i (s_)).map str) rfl rfl rfl rfl Tryz.sizeOf9 rfl rfl (by decide) (by rw [List.length_map]; (have hPl_ := splitB_count c s); simp only [List.length_append, List.length_take, List.length_replicate, List.length_map]; omega) (setS (by (have hPl_ := splitB_count c s); simp only [List.length_append, List.length_take, List.length_replicate, List.length_map]; omega))) ?_
      rintro _ _ rfl
      refine JL.nil ?_
      refine JQ.seq ?_
      refine JC.seq ?_
      refine JC.region ?_
      refine JL.pure rfl (PO.move (v := .slice a_5 (s.count c + 1) (s.count c + 1)) he_12) ?_
      refine JL.pure rfl (PO.move (v := .int .i64 ((i : Nat) : Int)) he_13) ?_
      refine JL.pure rfl (PO.add (c := ((i + 1 : Nat) : Int)) rfl rfl (wr (by omega))) ?_
      refine JL.facts fun hst => ?_
      obtain ⟨hf_21m, hf_21x, hf_21s, hf_21l⟩ := fits_of hst (i := 0) rfl
      refine JL.pure rfl (PO.sliceVh (j := (i + 1)) Tryz.underlying71 Tryz.sizeOf9 hf_21s rfl rfl (by omega)) ?_
      refine JL.pure rfl (PO.assign (v := .slice a_5 (i + 1) (s.count c + 1)) rfl) ?_
      refine JL.nil ?_
      refine JQ.seq ?_
      refine JC.ret ?_
      refine Done.one (.inl rfl) rfl (RV.tmp (v := .slice a_5 (i + 1) (s.count c + 1)) rfl) (List.Sublist.refl _) ?_
      have hPl := splitB_count c s
      have hP1 : (splitB c s).length - i = (splitB c s_).length := by rw [← hD, List.length_drop]
      have hi2 : i = s.count c := by first | omega | (have h_ := splitB_one c s_ (by assumption); rw [h_] at hP1; simp only [List.length_cons, List.length_nil] at hP1; omega)
      subst hi2
      have h1 : splitB c s_ = [s_] := split_last (by omega)
      obtain ⟨h2, _, h3⟩ := drop_head (d := []) (hD.trans h1)
      have h4 := fill_step (s := splitB c s) (j := s.count c) ([] : Str) h3
      rw [hPl, h2] at h4
      exact ⟨a_5, s.count c + 1, by rw [hPl], (congrArg (fun q : List Str => [Res.row (.slice a_5 (s.count c + 1) (s.count c + 1)) 9 1 (s.count c + 1) (q.map str)]) (h4.trans (fill_done2 (by omega)))).trans (by rw [hPl])⟩
    · skip
      refine JL.pure rfl (PO.assign (v := .int .i64 ((i_15 : Nat) : Int)) rfl) ?_
      refine JL.nil ?_
      refine JQ.seq ?_
      refine JC.seq ?_
      refine JC.seq ?_
      refine JC.region ?_
      refine JL.pure rfl (PO.move (v := .int .i64 ((i_15 : Nat) : Int)) rfl) ?_
      refine JL.pure rfl (PO.lss rfl rfl) ?_
      refine JL.nil ?_
      refine JQ.seq ?_
      have h_22 : ¬ (((i_15 : Nat) : Int) < 0) := (by omega)
      refine JC.condF (congrArg Value.bool (decide_eq_false h_22)) ?_
      refine JC.skip ?_
      refine JQ.seq ?_
      refine JC.seq ?_
      refine JC.region ?_
      refine JL.pure rfl (PO.move (v := .slice a_5 (s.count c + 1) (s.count c + 1)) he_12) ?_
      refine JL.pure rfl (PO.move (v := .int .i64 ((i : Nat) : Int)) he_13) ?_
      refine JL.pure rfl (PO.move (v := str s_) he_7) ?_
      refine JL.pure rfl (PO.move (v := .int .i64 ((i_15 : Nat) : Int)) rfl) ?_
      refine JL.pure rfl (PO.move (v := .int .i64 ((0 : Nat) : Int)) he_9) ?_
      refine JL.pure rfl (PO.add (c := ((i_15 + 0 : Nat) : Int)) rfl rfl (wr (by omega))) ?_
      refine JL.pure rfl (PO.sliceSh (j := (i_15 + 0)) Tryz.underlying9 rfl rfl (by omega)) ?_
      refine JL.facts fun hst => ?_
      obtain ⟨hr_23, hr_23b, -⟩ := row_some 0 rfl (by omega) hst
      refine JL.pure rfl (PO.indexAddrV (i := i) Tryz.underlying71 Tryz.sizeOf9 hr_23 hr_23b rfl rfl (by omega)) ?_
      refine JL.op rfl (JO.storeR 0 (vs := [str (s_.take (i_15 + 0))]) (cs' := ((List.take i (splitB c s) ++ List.replicate (s.count c + 1 - i) []).set i (s_.take (i_15 + 0))).map str) rfl rfl rfl rfl Tryz.sizeOf9 rfl rfl (by decide) (by rw [List.length_map]; (have hPl_ := splitB_count c s); simp only [List.length_append, List.length_take, List.length_replicate, List.length_map]; omega) (setS (by (have hPl_ := splitB_count c s); simp only [List.length_append, List.length_take, List.length_replicate, List.length_map]; omega))) ?_
      rintro _ _ rfl
      refine JL.nil ?_
      refine JQ.seq ?_
      refine JC.seq ?_
      refine JC.region ?_
      refine JL.pure rfl (PO.move (v := str s_) he_7) ?_
      refine JL.pure rfl (PO.move (v := .int .i64 ((i_15 : Nat) : Int)) rfl) ?_
      refine JL.pure rfl (PO.move (v := str [c]) he_8) ?_
      refine JL.pure rfl (show PO _ _ _ _ (.int .i64 ((1 : Nat) : Int)) from PO.lenS (a := [c]) Tryz.underlying9 rfl) ?_
      refine JL.pure rfl (PO.add (c := ((i_15 + 1 : Nat) : Int)) rfl rfl (wr (by omega))) ?_
      refine JL.pure rfl (PO.sliceSl (i := (i_15 + 1)) Tryz.underlying9 rfl rfl (by omega)) ?_
      refine JL.pure rfl (PO.assign (v := str (s_.drop (i_15 + 1))) rfl) ?_
      refine JL.nil ?_
      refine JQ.seq ?_
      refine JC.region ?_
      refine JL.pure rfl (PO.move (v := .int .i64 ((i : Nat) : Int)) he_13) ?_
      refine JL.pure rfl (PO.add (c := ((i + 1 : Nat) : Int)) rfl rfl (wr (by omega))) ?_
      refine JL.pure rfl (PO.assign (v := .int .i64 ((i + 1 : Nat) : Int)) rfl) ?_
      refine JL.nil ?_
      refine JQ.blockN ?_
      refine JQ.again ((s.count c) - (i + 1)) (by omega) ⟨i + 1, s_.drop (i_15 + 1), by omega, (by rw [List.length_drop]; omega), (by have h_ := drop_head (d := []) (hD.trans (split_first hi_16 hf_17 hc_18)); exact h_.2.1), rfl, he_8, he_9, he_10, he_11, he_12, rfl, (by have h_ := drop_head (d := []) (hD.trans (split_first hi_16 hf_17 hc_18)); have h2_ := fill_step (s := splitB c s) (j := i) ([] : Str) h_.2.2; rw [splitB_count, h_.1] at h2_; rw [← h2_]; rfl), rfl⟩
  · skip
    refine JC.condF (congrArg Value.bool (decide_eq_false h_14)) ?_
    refine JC.exit ?_
    refine JQ.thenExit ?_
    refine JQ.thenExit ?_
    refine JQ.blockE ?_
    refine JQ.seq ?_
    refine JC.seq ?_
    refine JC.region ?_
    refine JL.pure rfl (PO.move (v := .slice a_5 (s.count c + 1) (s.count c + 1)) he_12) ?_
    refine JL.pure rfl (PO.move (v := .int .i64 ((i : Nat) : Int)) he_13) ?_
    refine JL.pure rfl (PO.move (v := str s_) he_7) ?_
    refine JL.facts fun hst => ?_
    obtain ⟨hr_24, hr_24b, -⟩ := row_some 0 rfl (by omega) hst
    refine JL.pure rfl (PO.indexAddrV (i := i) Tryz.underlying71 Tryz.sizeOf9 hr_24 hr_24b rfl rfl (by omega)) ?_
    refine JL.op rfl (JO.storeR 0 (vs := [str s_]) (cs' := ((List.take i (splitB c s) ++ List.replicate (s.count c + 1 - i) []).set i (s_)).map str) rfl rfl rfl rfl Tryz.sizeOf9 rfl rfl (by decide) (by rw [List.length_map]; (have hPl_ := splitB_count c s); simp only [List.length_append, List.length_take, List.length_replicate, List.length_map]; omega) (setS (by (have hPl_ := splitB_count c s); simp only [List.length_append, List.length_take, List.length_replicate, List.length_map]; omega))) ?_
    rintro _ _ rfl
    refine JL.nil ?_
    refine JQ.seq ?_
    refine JC.seq ?_
    refine JC.region ?_
    refine JL.pure rfl (PO.move (v := .slice a_5 (s.count c + 1) (s.count c + 1)) he_12) ?_
    refine JL.pure rfl (PO.move (v := .int .i64 ((i : Nat) : Int)) he_13) ?_
    refine JL.pure rfl (PO.add (c := ((i + 1 : Nat) : Int)) rfl rfl (wr (by omega))) ?_
    refine JL.facts fun hst => ?_
    obtain ⟨hf_25m, hf_25x, hf_25s, hf_25l⟩ := fits_of hst (i := 0) rfl
    refine JL.pure rfl (PO.sliceVh (j := (i + 1)) Tryz.underlying71 Tryz.sizeOf9 hf_25s rfl rfl (by omega)) ?_
    refine JL.pure rfl (PO.assign (v := .slice a_5 (i + 1) (s.count c + 1)) rfl) ?_
    refine JL.nil ?_
    refine JQ.seq ?_
    refine JC.ret ?_
    refine Done.one (.inl rfl) rfl (RV.tmp (v := .slice a_5 (i + 1) (s.count c + 1)) rfl) (List.Sublist.refl _) ?_
    have hPl := splitB_count c s
    have hP1 : (splitB c s).length - i = (splitB c s_).length := by rw [← hD, List.length_drop]
    have hi2 : i = s.count c := by first | omega | (have h_ := splitB_one c s_ (by assumption); rw [h_] at hP1; simp only [List.length_cons, List.length_nil] at hP1; omega)
    subst hi2
    have h1 : splitB c s_ = [s_] := split_last (by omega)
    obtain ⟨h2, _, h3⟩ := drop_head (d := []) (hD.trans h1)
    have h4 := fill_step (s := splitB c s) (j := s.count c) ([] : Str) h3
    rw [hPl, h2] at h4
    exact ⟨a_5, s.count c + 1, by rw [hPl], (congrArg (fun q : List Str => [Res.row (.slice a_5 (s.count c + 1) (s.count c + 1)) 9 1 (s.count c + 1) (q.map str)]) (h4.trans (fill_done2 (by omega)))).trans (by rw [hPl])⟩

set_option maxRecDepth 4000 in
set_option maxHeartbeats 1000000 in
theorem Y_split (s : Str) (c : UInt8) (hs : s.length ≤ 100000000) :
    Ct Tryz.prog 112 [str s, str [c]] [] (fun _ => True) (fun v A' => ∃ a q, v = .slice a (splitB c s).length q ∧ A' = [.row (.slice a (splitB c s).length q) 9 1 (splitB c s).length ((splitB c s).map str)]) := by
  refine Ct.intro Tryz.func112 rfl Tryz.ntmps112 (Nat.le_of_ble_eq_true rfl) fun w0 hpre => ?_
  refine JC.seq ?_
  refine JC.region ?_
  refine JL.pure rfl (PO.assign (v := .slice none 0 0) rfl) ?_
  refine JL.nil ?_
  refine JQ.seq ?_
  refine JC.seq ?_
  refine JC.region ?_
  refine JL.pure rfl (PO.move (v := str s) rfl) ?_
  refine JL.pure rfl (PO.move (v := str [c]) rfl) ?_
  refine JL.op rfl (JO.call [] Tryz.call144 rfl (Y_gsplit s c (by omega)) rfl (fun _ _ => trivial)) ?_
  rintro _ _ ⟨_, ⟨a_1, c_2, rfl, rfl⟩, rfl⟩
  have hsp_3 := splitB_len c s
  refine JL.pure rfl (PO.assign (v := .slice a_1 ((splitB c s).length) c_2) rfl) ?_
  refine JL.nil ?_
  refine JQ.seq ?_
  refine JC.ret ?_
  refine Done.one (.inl rfl) rfl (RV.tmp (v := .slice a_1 ((splitB c s).length) c_2) rfl) (List.Sublist.refl _) ?_
  exact ⟨_, _, rfl, rfl⟩

set_option maxRecDepth 4000 in
set_option maxHeartbeats 1000000 in
theorem Y_lcut (s : Str) (c : UInt8) (hs : s.length ≤ 100000000) :
    Ct Tryz.prog 146 [str s, str [c]] [] (fun _ => True) (fun v A' => ∃ b, v = .tuple #[str (cutB c s).1, str (cutB c s).2, .bool b] ∧ A' = []) := by
  refine Ct.intro Tryz.func146 rfl Tryz.ntmps146 (Nat.le_of_ble_eq_true rfl) fun w0 hpre => ?_
  refine JC.seq ?_
  refine JC.region ?_
  refine JL.pure rfl (PO.assign (v := str []) rfl) ?_
  refine JL.pure rfl (PO.assign (v := str []) rfl) ?_
  refine JL.pure rfl (PO.assign (v := .bool false) rfl) ?_
  refine JL.nil ?_
  refine JQ.seq ?_
  refine JC.seq ?_
  refine JC.seq ?_
  refine JC.region ?_
  refine JL.pure rfl (PO.move (v := str s) rfl) ?_
  refine JL.pure rfl (PO.move (v := str [c]) rfl) ?_
  refine JL.op rfl (JO.call [] Tryz.call169 rfl (C_lix s c) rfl (fun _ _ => trivial)) ?_
  rintro _ _ ⟨_, ⟨rfl, (⟨rfl, hn_5⟩ | ⟨i_1, rfl, hi_2, hf_3, hc_4⟩)⟩, rfl⟩
  · skip
    refine JL.pure rfl (PO.assign (v := .int .i64 (-1)) rfl) ?_
    refine JL.nil ?_
    refine JQ.seq ?_
    refine JC.seq ?_
    refine JC.region ?_
    refine JL.pure rfl (PO.move (v := .int .i64 (-1)) rfl) ?_
    refine JL.pure rfl (PO.geq rfl rfl) ?_
    refine JL.nil ?_
    refine JQ.seq ?_
    have h_6 : ¬ (0 ≤ (-1)) := (by decide)
    refine JC.condF (congrArg Value.bool (decide_eq_false h_6)) ?_
    refine JC.skip ?_
    refine JQ.seq ?_
    refine JC.seq ?_
    refine JC.region ?_
    refine JL.pure rfl (PO.move (v := str s) rfl) ?_
    refine JL.pure rfl (PO.assign (v := str s) rfl) ?_
    refine JL.pure rfl (PO.assign (v := str []) rfl) ?_
    refine JL.pure rfl (PO.assign (v := .bool false) rfl) ?_
    refine JL.nil ?_
    refine JQ.seq ?_
    refine JC.ret ?_
    refine Done.three (.inl rfl) rfl (RV.tmp (v := str s) rfl) (RV.tmp (v := str []) rfl) (RV.tmp (v := .bool false) rfl) (List.nil_sublist _) ?_
    exact ⟨false, by rw [cutB_no hn_5], rfl⟩
  · skip
    refine JL.pure rfl (PO.assign (v := .int .i64 ((i_1 : Nat) : Int)) rfl) ?_
    refine JL.nil ?_
    refine JQ.seq ?_
    refine JC.seq ?_
    refine JC.region ?_
    refine JL.pure rfl (PO.move (v := .int .i64 ((i_1 : Nat) : Int)) rfl) ?_
    refine JL.pure rfl (PO.geq rfl rfl) ?_
    refine JL.nil ?_
    refine JQ.seq ?_
    have h_7 : 0 ≤ ((i_1 : Nat) : Int) := (by omega)
    refine JC.condT (congrArg Value.bool (decide_eq_true h_7)) ?_
    refine JC.seq ?_
    refine JC.regionA [] 0 mixed (by simp) ?_
    refine JA.takeP 0 rfl (by kernel_rfl) (NP.th (NP.th NP.body)) (by kernel_rfl) (by kernel_rfl) rfl (PO.move (v := str s) rfl) ?_
    refine JA.takeP 1 rfl (by kernel_rfl) (NP.th (NP.th NP.body)) (by kernel_rfl) (by kernel_rfl) rfl (PO.move (v := .int .i64 ((i_1 : Nat) : Int)) rfl) ?_
    refine JA.takeP 2 rfl (by kernel_rfl) (NP.th (NP.th NP.body)) (by kernel_rfl) (by kernel_rfl) rfl (PO.sliceSh (j := i_1) Tryz.underlying9 rfl rfl (by omega)) ?_
    refine JA.takeP 3 rfl (by kernel_rfl) (NP.th (NP.th NP.body)) (by kernel_rfl) (by kernel_rfl) rfl (PO.move (v := str s) rfl) ?_
    refine JA.takeP 4 rfl (by kernel_rfl) (NP.th (NP.th NP.body)) (by kernel_rfl) (by kernel_rfl) rfl (PO.move (v := .int .i64 ((i_1 : Nat) : Int)) rfl) ?_
    refine JA.takeP 5 rfl (by kernel_rfl) (NP.th (NP.th NP.body)) (by kernel_rfl) (by kernel_rfl) rfl (PO.move (v := str [c]) rfl) ?_
    refine JA.takeP 6 rfl (by kernel_rfl) (NP.th (NP.th NP.body)) (by kernel_rfl) (by kernel_rfl) rfl (show PO _ _ _ _ (.int .i64 ((1 : Nat) : Int)) from PO.lenS (a := [c]) Tryz.underlying9 rfl) ?_
    refine JA.takeP 7 rfl (by kernel_rfl) (NP.th (NP.th NP.body)) (by kernel_rfl) (by kernel_rfl) rfl (PO.add (c := ((i_1 + 1 : Nat) : Int)) rfl rfl (wr (by omega))) ?_
    refine JA.takeP 8 rfl (by kernel_rfl) (NP.th (NP.th NP.body)) (by kernel_rfl) (by kernel_rfl) rfl (PO.sliceSl (i := (i_1 + 1)) Tryz.underlying9 rfl rfl (by omega)) ?_
    refine JA.takeP 9 rfl (by kernel_rfl) (NP.th (NP.th NP.body)) (by kernel_rfl) (by kernel_rfl) rfl (PO.assign (v := str (s.take i_1)) rfl) ?_
    refine JA.takeP 10 rfl (by kernel_rfl) (NP.th (NP.th NP.body)) (by kernel_rfl) (by kernel_rfl) rfl (PO.assign (v := str (s.drop (i_1 + 1))) rfl) ?_
    refine JA.takeP 11 rfl (by kernel_rfl) (NP.th (NP.th NP.body)) (by kernel_rfl) (by kernel_rfl) rfl (PO.assign (v := .bool true) rfl) ?_
    refine JA.done (by kernel_rfl) ?_
    refine JQ.seq ?_
    refine JC.ret ?_
    refine JQ.thenRet ?_
    refine Done.three (.inl rfl) rfl (RV.tmp (v := str (s.take i_1)) rfl) (RV.tmp (v := str (s.drop (i_1 + 1))) rfl) (RV.tmp (v := .bool true) rfl) (List.nil_sublist _) ?_
    exact ⟨true, by rw [cutB_first hi_2 hf_3 hc_4], rfl⟩

set_option maxRecDepth 4000 in
set_option maxHeartbeats 1000000 in
theorem Y_cut (s : Str) (c : UInt8) (hs : s.length ≤ 100000000) :
    Ct Tryz.prog 114 [str s, str [c]] [] (fun _ => True) (fun v A' => ∃ b, v = .tuple #[str (cutB c s).1, str (cutB c s).2, .bool b] ∧ A' = []) := by
  refine Ct.intro Tryz.func114 rfl Tryz.ntmps114 (Nat.le_of_ble_eq_true rfl) fun w0 hpre => ?_
  refine JC.seq ?_
  refine JC.region ?_
  refine JL.pure rfl (PO.assign (v := str []) rfl) ?_
  refine JL.pure rfl (PO.assign (v := str []) rfl) ?_
  refine JL.pure rfl (PO.assign (v := .bool false) rfl) ?_
  refine JL.nil ?_
  refine JQ.seq ?_
  refine JC.seq ?_
  refine JC.region ?_
  refine JL.pure rfl (PO.move (v := str s) rfl) ?_
  refine JL.pure rfl (PO.move (v := str [c]) rfl) ?_
  refine JL.op rfl (JO.call [] Tryz.call146 rfl (Y_lcut s c (by omega)) rfl (fun _ _ => trivial)) ?_
  rintro _ _ ⟨_, ⟨b_1, rfl, rfl⟩, rfl⟩
  refine JL.pure rfl (PO.extract (v := str ((cutB c s).1)) rfl rfl) ?_
  refine JL.pure rfl (PO.extract (v := str ((cutB c s).2)) rfl rfl) ?_
  refine JL.pure rfl (PO.extract (v := .bool b_1) rfl rfl) ?_
  refine JL.pure rfl (PO.assign (v := str ((cutB c s).1)) rfl) ?_
  refine JL.pure rfl (PO.assign (v := str ((cutB c s).2)) rfl) ?_
  refine JL.pure rfl (PO.assign (v := .bool b_1) rfl) ?_
  refine JL.nil ?_
  refine JQ.seq ?_
  refine JC.ret ?_
  refine Done.three (.inl rfl) rfl (RV.tmp (v := str ((cutB c s).1)) rfl) (RV.tmp (v := str ((cutB c s).2)) rfl) (RV.tmp (v := .bool b_1) rfl) (List.nil_sublist _) ?_
  exact ⟨_, rfl, rfl⟩

end Go.Proofs.YtjncpgcccgdeiaaGreatDoor
