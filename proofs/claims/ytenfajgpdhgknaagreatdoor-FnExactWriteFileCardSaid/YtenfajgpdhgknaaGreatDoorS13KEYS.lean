/-
  Keys, names, and what lies under a prefix (part 13).
-/
import Derived.Test.YtenfajgpdhgknaaGreatDoorSd
set_option linter.unusedSimpArgs false
set_option linter.unusedVariables false
set_option linter.unnecessarySimpa false
namespace Go.Proofs.YtenfajgpdhgknaaGreatDoor
open Go Go.RowKit
attribute [local irreducible] JL JC JQ JO LO PO JA JX Ct

theorem tmod10 (k : Nat) : (-((k : Nat) : Int)).tmod 10 = -((k % 10 : Nat) : Int) := by
  rw [Int.neg_tmod]; rfl
theorem tdiv10 (k : Nat) : (-((k : Nat) : Int)).tdiv 10 = -((k / 10 : Nat) : Int) := by
  rw [Int.neg_tdiv]; rfl
theorem dec_neg {k : Nat} (h : 0 < k) : dec (-((k : Nat) : Int)) = 45 :: mtAcc k [] := by
  unfold dec Lib.itoa
  rw [if_pos (by omega), show (-((k : Nat) : Int)).natAbs = k by omega, mtAcc_dec k k h (Nat.le_refl _)]

theorem C_sDecM (k : Nat) (h0 : 0 < k) (h1 : k ≤ 9223372036854775808) :
    Ct Tryz.prog 276 [.int .i64 (-((k : Nat) : Int))] [] (fun _ => True) (fun v A' => v = str (dec (-((k : Nat) : Int))) ∧ A' = []) := by
  refine Ct.intro Tryz.func276 rfl Tryz.ntmps276 (Nat.le_of_ble_eq_true rfl) fun w0 hpre => ?_
  refine JC.seq ?_
  refine JC.region ?_
  refine JL.pure rfl (PO.assign (v := str []) rfl) ?_
  refine JL.nil ?_
  refine JQ.seq ?_
  refine JC.seq ?_
  refine JC.seq ?_
  refine JC.region ?_
  refine JL.pure rfl (PO.move (v := .int .i64 (-((k : Nat) : Int))) rfl) ?_
  refine JL.pure rfl (PO.eqlI rfl rfl) ?_
  refine JL.nil ?_
  refine JQ.seq ?_
  by_cases h_1 : (-((k : Nat) : Int)) = 0
  · skip
    exfalso; omega
  · skip
    refine JC.condF (congrArg Value.bool (decide_eq_false h_1)) ?_
    refine JC.skip ?_
    refine JQ.seq ?_
    refine JC.seq ?_
    refine JC.region ?_
    refine JL.pure rfl (PO.move (v := .int .i64 (-((k : Nat) : Int))) rfl) ?_
    refine JL.pure rfl (PO.lss rfl rfl) ?_
    refine JL.pure rfl (PO.assign (v := .bool (decide ((-((k : Nat) : Int)) < 0))) rfl) ?_
    refine JL.nil ?_
    refine JQ.seq ?_
    refine JC.seq ?_
    refine JC.region ?_
    refine JL.pure rfl (PO.assign (v := str []) rfl) ?_
    refine JL.nil ?_
    refine JQ.seq ?_
    refine JC.seq ?_
    refine JC.block ?_
    refine JC.loop (fun k_ e_ L_ => ∃ k1 : Nat, ∃ o_ : Str, (k1 ≤ k) ∧ (o_.length = 0 ∨ o_.length + k1 ≤ k / 2 + 1) ∧ (mtAcc k1 o_ = mtAcc k []) ∧ e_ 0 = .int .i64 (-((k1 : Nat) : Int)) ∧ e_ 2 = str [] ∧ e_ 3 = .bool (decide ((-((k : Nat) : Int)) < 0)) ∧ e_ 4 = str o_ ∧ L_ = [] ∧ k_ = k1 + 1) _ ⟨k, [], by omega, (by simp), rfl, rfl, rfl, rfl, rfl, rfl, rfl⟩ ?_
    rintro _ e_2 _ ⟨k1, o_, hk, hl, hR, he_3, he_4, he_5, he_6, rfl, rfl⟩
    refine JC.seq ?_
    refine JC.seq ?_
    refine JC.region ?_
    refine JL.pure rfl (PO.move (v := .int .i64 (-((k1 : Nat) : Int))) he_3) ?_
    refine JL.pure rfl (PO.neqI rfl rfl) ?_
    refine JL.nil ?_
    refine JQ.seq ?_
    by_cases h_7 : (-((k1 : Nat) : Int)) = 0
    · skip
      refine JC.condF (congrArg Value.bool (congrArg Bool.not (decide_eq_true h_7))) ?_
      refine JC.exit ?_
      refine JQ.thenExit ?_
      refine JQ.thenExit ?_
      refine JQ.blockE ?_
      refine JQ.seq ?_
      refine JC.seq ?_
      refine JC.seq ?_
      refine JC.region ?_
      refine JL.pure rfl (PO.move (v := .bool (decide ((-((k : Nat) : Int)) < 0))) he_5) ?_
      refine JL.nil ?_
      refine JQ.seq ?_
      by_cases h_8 : (-((k : Nat) : Int)) < 0
      · skip
        refine JC.condT (congrArg Value.bool (decide_eq_true h_8)) ?_
        refine JC.seq ?_
        refine JC.region ?_
        refine JL.pure rfl (PO.move (v := str o_) he_6) ?_
        refine JL.pure rfl (PO.addS rfl rfl (by (try simp only [List.length_append, List.length_cons, List.length_nil, List.length_drop, List.length_take]); omega)) ?_
        refine JL.pure rfl (PO.assign (v := str ([45] ++ o_)) rfl) ?_
        refine JL.nil ?_
        refine JQ.seq ?_
        refine JC.ret ?_
        refine JQ.thenRet ?_
        refine Done.one (.inl rfl) rfl (RV.tmp (v := str ([45] ++ o_)) rfl) (List.nil_sublist _) ?_
        refine ⟨?_, rfl⟩
        rw [dec_neg (by omega), ← hR, mtAcc_zero (by omega)]
        rfl
      · skip
        exfalso; omega
    · skip
      refine JC.condT (congrArg Value.bool (congrArg Bool.not (decide_eq_false h_7))) ?_
      refine JC.skip ?_
      refine JQ.seq ?_
      refine JC.block ?_
      refine JC.seq ?_
      refine JC.region ?_
      refine JL.pure rfl (PO.move (v := .int .i64 (-((k1 : Nat) : Int))) he_3) ?_
      refine JL.pure rfl (PO.rem (c := -((k1 % 10 : Nat) : Int)) rfl rfl (by omega) (tmod10 k1)) ?_
      refine JL.pure rfl (PO.assign (v := .int .i64 (-((k1 % 10 : Nat) : Int))) rfl) ?_
      refine JL.nil ?_
      refine JQ.seq ?_
      refine JC.seq ?_
      refine JC.seq ?_
      refine JC.region ?_
      refine JL.pure rfl (PO.move (v := .int .i64 (-((k1 % 10 : Nat) : Int))) rfl) ?_
      refine JL.pure rfl (PO.lss rfl rfl) ?_
      refine JL.nil ?_
      refine JQ.seq ?_
      by_cases h_9 : (-((k1 % 10 : Nat) : Int)) < 0
      · skip
        refine JC.condT (congrArg Value.bool (decide_eq_true h_9)) ?_
        refine JC.region ?_
        refine JL.pure rfl (PO.move (v := .int .i64 (-((k1 % 10 : Nat) : Int))) rfl) ?_
        refine JL.pure rfl (PO.neg (c := ((k1 % 10 : Nat) : Int)) rfl (wr (by omega))) ?_
        refine JL.pure rfl (PO.assign (v := .int .i64 ((k1 % 10 : Nat) : Int)) rfl) ?_
        refine JL.nil ?_
        refine JQ.seq ?_
        refine JC.seq ?_
        refine JC.region ?_
        refine JL.pure rfl (PO.move (v := .int .i64 ((k1 % 10 : Nat) : Int)) rfl) ?_
        refine JL.op rfl (JO.call [] Tryz.call285 rfl (C_figure (k1 % 10) (by omega)) rfl (fun _ _ => trivial)) ?_
        rintro _ _ ⟨_, ⟨rfl, rfl⟩, rfl⟩
        refine JL.op rfl (JO.buildSlice (ps := [(0, .int .u8 ((48 + (k1 % 10) : Nat) : Int))]) (cur := #[.int .u8 ((48 + (k1 % 10) : Nat) : Int)]) Tryz.underlying44 Tryz.sizeOf5 Tryz.zeroValue5 rfl (by kernel_rfl) (by decide) (by decide)) ?_
        rintro _ _ ⟨a_10, rfl, rfl⟩
        refine JL.ld rfl (LO.toStr 0 [UInt8.ofNat (48 + (k1 % 10))] rfl Tryz.underlying44 Tryz.underlying5 Tryz.underlying9 rfl (by rw [List.map_cons, List.map_nil, encB_of _ (by omega)])) ?_
        refine JL.pure rfl (PO.move (v := str o_) he_6) ?_
        refine JL.pure rfl (PO.addS rfl rfl (by (try simp only [List.length_append, List.length_cons, List.length_nil, List.length_drop, List.length_take]); omega)) ?_
        refine JL.pure rfl (PO.assign (v := str ([UInt8.ofNat (48 + (k1 % 10))] ++ o_)) rfl) ?_
        refine JL.nil ?_
        refine JQ.seq ?_
        refine JC.region ?_
        refine JL.pure rfl (PO.move (v := .int .i64 (-((k1 : Nat) : Int))) he_3) ?_
        refine JL.pure rfl (PO.quo (c := -((k1 / 10 : Nat) : Int)) rfl rfl (by omega) ((congrArg _ (tdiv10 k1)).trans (wr (by omega)))) ?_
        refine JL.pure rfl (PO.assign (v := .int .i64 (-((k1 / 10 : Nat) : Int))) rfl) ?_
        refine JL.nil ?_
        refine JQ.blockN ?_
        refine JQ.pick [] (A := []) rfl ?_
        refine JQ.again (k1 / 10 + 1) (by omega) ⟨(k1 / 10), [UInt8.ofNat (48 + (k1 % 10))] ++ o_, by omega, (by simp only [List.length_append, List.length_cons, List.length_nil]; omega), (by rw [mtAcc_step (by omega)]; exact hR), rfl, he_4, he_5, rfl, rfl, rfl⟩
      · skip
        have hz_11 : -((k1 % 10 : Nat) : Int) = ((k1 % 10 : Nat) : Int) := by omega
        have hz_12 : -((k1 % 10 : Nat) : Int) = ((k1 % 10 : Nat) : Int) := by omega
        have hz_13 : -((k1 % 10 : Nat) : Int) = ((k1 % 10 : Nat) : Int) := by omega
        refine JC.condF (congrArg Value.bool (decide_eq_false h_9)) ?_
        refine JC.skip ?_
        refine JQ.seq ?_
        refine JC.seq ?_
        refine JC.region ?_
        refine JL.pure rfl (PO.move (v := .int .i64 ((k1 % 10 : Nat) : Int)) (congrArg (Value.int .i64) hz_12)) ?_
        refine JL.op rfl (JO.call [] Tryz.call285 rfl (C_figure (k1 % 10) (by omega)) rfl (fun _ _ => trivial)) ?_
        rintro _ _ ⟨_, ⟨rfl, rfl⟩, rfl⟩
        refine JL.op rfl (JO.buildSlice (ps := [(0, .int .u8 ((48 + (k1 % 10) : Nat) : Int))]) (cur := #[.int .u8 ((48 + (k1 % 10) : Nat) : Int)]) Tryz.underlying44 Tryz.sizeOf5 Tryz.zeroValue5 rfl (by kernel_rfl) (by decide) (by decide)) ?_
        rintro _ _ ⟨a_14, rfl, rfl⟩
        refine JL.ld rfl (LO.toStr 0 [UInt8.ofNat (48 + (k1 % 10))] rfl Tryz.underlying44 Tryz.underlying5 Tryz.underlying9 rfl (by rw [List.map_cons, List.map_nil, encB_of _ (by omega)])) ?_
        refine JL.pure rfl (PO.move (v := str o_) he_6) ?_
        refine JL.pure rfl (PO.addS rfl rfl (by (try simp only [List.length_append, List.length_cons, List.length_nil, List.length_drop, List.length_take]); omega)) ?_
        refine JL.pure rfl (PO.assign (v := str ([UInt8.ofNat (48 + (k1 % 10))] ++ o_)) rfl) ?_
        refine JL.nil ?_
        refine JQ.seq ?_
        refine JC.region ?_
        refine JL.pure rfl (PO.move (v := .int .i64 (-((k1 : Nat) : Int))) he_3) ?_
        refine JL.pure rfl (PO.quo (c := -((k1 / 10 : Nat) : Int)) rfl rfl (by omega) ((congrArg _ (tdiv10 k1)).trans (wr (by omega)))) ?_
        refine JL.pure rfl (PO.assign (v := .int .i64 (-((k1 / 10 : Nat) : Int))) rfl) ?_
        refine JL.nil ?_
        refine JQ.blockN ?_
        refine JQ.pick [] (A := []) rfl ?_
        refine JQ.again (k1 / 10 + 1) (by omega) ⟨(k1 / 10), [UInt8.ofNat (48 + (k1 % 10))] ++ o_, by omega, (by simp only [List.length_append, List.length_cons, List.length_nil]; omega), (by rw [mtAcc_step (by omega)]; exact hR), rfl, he_4, he_5, rfl, rfl, rfl⟩

theorem C_sDecP (k : Nat) (h1 : k ≤ 9223372036854775807) :
    Ct Tryz.prog 276 [.int .i64 ((k : Nat) : Int)] [] (fun _ => True) (fun v A' => v = str (dec ((k : Nat) : Int)) ∧ A' = []) := by
  refine Ct.intro Tryz.func276 rfl Tryz.ntmps276 (Nat.le_of_ble_eq_true rfl) fun w0 hpre => ?_
  refine JC.seq ?_
  refine JC.region ?_
  refine JL.pure rfl (PO.assign (v := str []) rfl) ?_
  refine JL.nil ?_
  refine JQ.seq ?_
  refine JC.seq ?_
  refine JC.seq ?_
  refine JC.region ?_
  refine JL.pure rfl (PO.move (v := .int .i64 ((k : Nat) : Int)) rfl) ?_
  refine JL.pure rfl (PO.eqlI rfl rfl) ?_
  refine JL.nil ?_
  refine JQ.seq ?_
  by_cases h_1 : ((k : Nat) : Int) = 0
  · skip
    refine JC.condT (congrArg Value.bool (decide_eq_true h_1)) ?_
    refine JC.seq ?_
    refine JC.region ?_
    refine JL.pure rfl (PO.assign (v := str [48]) rfl) ?_
    refine JL.nil ?_
    refine JQ.seq ?_
    refine JC.ret ?_
    refine JQ.thenRet ?_
    refine Done.one (.inl rfl) rfl (RV.tmp (v := str [48]) rfl) (List.nil_sublist _) ?_
    refine ⟨?_, rfl⟩
    rw [show ((k : Nat) : Int) = 0 by omega, dec_zero]
  · skip
    refine JC.condF (congrArg Value.bool (decide_eq_false h_1)) ?_
    refine JC.skip ?_
    refine JQ.seq ?_
    refine JC.seq ?_
    refine JC.region ?_
    refine JL.pure rfl (PO.move (v := .int .i64 ((k : Nat) : Int)) rfl) ?_
    refine JL.pure rfl (PO.lss rfl rfl) ?_
    refine JL.pure rfl (PO.assign (v := .bool (decide (((k : Nat) : Int) < 0))) rfl) ?_
    refine JL.nil ?_
    refine JQ.seq ?_
    refine JC.seq ?_
    refine JC.region ?_
    refine JL.pure rfl (PO.assign (v := str []) rfl) ?_
    refine JL.nil ?_
    refine JQ.seq ?_
    refine JC.seq ?_
    refine JC.block ?_
    refine JC.loop (fun k_ e_ L_ => ∃ k1 : Nat, ∃ o_ : Str, (k1 ≤ k) ∧ (o_.length + k1 ≤ k) ∧ (mtAcc k1 o_ = mtAcc k []) ∧ e_ 0 = .int .i64 ((k1 : Nat) : Int) ∧ e_ 2 = str [] ∧ e_ 3 = .bool (decide (((k : Nat) : Int) < 0)) ∧ e_ 4 = str o_ ∧ L_ = [] ∧ k_ = k1 + 1) _ ⟨k, [], by omega, (by simp), rfl, rfl, rfl, rfl, rfl, rfl, rfl⟩ ?_
    rintro _ e_2 _ ⟨k1, o_, hk, hl, hR, he_3, he_4, he_5, he_6, rfl, rfl⟩
    refine JC.seq ?_
    refine JC.seq ?_
    refine JC.region ?_
    refine JL.pure rfl (PO.move (v := .int .i64 ((k1 : Nat) : Int)) he_3) ?_
    refine JL.pure rfl (PO.neqI rfl rfl) ?_
    refine JL.nil ?_
    refine JQ.seq ?_
    by_cases h_7 : ((k1 : Nat) : Int) = 0
    · skip
      refine JC.condF (congrArg Value.bool (congrArg Bool.not (decide_eq_true h_7))) ?_
      refine JC.exit ?_
      refine JQ.thenExit ?_
      refine JQ.thenExit ?_
      refine JQ.blockE ?_
      refine JQ.seq ?_
      refine JC.seq ?_
      refine JC.seq ?_
      refine JC.region ?_
      refine JL.pure rfl (PO.move (v := .bool (decide (((k : Nat) : Int) < 0))) he_5) ?_
      refine JL.nil ?_
      refine JQ.seq ?_
      by_cases h_8 : ((k : Nat) : Int) < 0
      · skip
        exfalso; omega
      · skip
        refine JC.condF (congrArg Value.bool (decide_eq_false h_8)) ?_
        refine JC.skip ?_
        refine JQ.seq ?_
        refine JC.seq ?_
        refine JC.region ?_
        refine JL.pure rfl (PO.move (v := str o_) he_6) ?_
        refine JL.pure rfl (PO.assign (v := str o_) rfl) ?_
        refine JL.nil ?_
        refine JQ.seq ?_
        refine JC.ret ?_
        refine Done.one (.inl rfl) rfl (RV.tmp (v := str o_) rfl) (List.nil_sublist _) ?_
        refine ⟨?_, rfl⟩
        rw [dec_nat (by omega), ← hR, mtAcc_zero (by omega)]
    · skip
      refine JC.condT (congrArg Value.bool (congrArg Bool.not (decide_eq_false h_7))) ?_
      refine JC.skip ?_
      refine JQ.seq ?_
      refine JC.block ?_
      refine JC.seq ?_
      refine JC.region ?_
      refine JL.pure rfl (PO.move (v := .int .i64 ((k1 : Nat) : Int)) he_3) ?_
      refine JL.pure rfl (PO.remN (c := ((k1 % 10 : Nat) : Int)) rfl rfl (by omega) (by omega) (by omega)) ?_
      refine JL.pure rfl (PO.assign (v := .int .i64 ((k1 % 10 : Nat) : Int)) rfl) ?_
      refine JL.nil ?_
      refine JQ.seq ?_
      refine JC.seq ?_
      refine JC.seq ?_
      refine JC.region ?_
      refine JL.pure rfl (PO.move (v := .int .i64 ((k1 % 10 : Nat) : Int)) rfl) ?_
      refine JL.pure rfl (PO.lss rfl rfl) ?_
      refine JL.nil ?_
      refine JQ.seq ?_
      by_cases h_9 : ((k1 % 10 : Nat) : Int) < 0
      · skip
        exfalso; omega
      · skip
        refine JC.condF (congrArg Value.bool (decide_eq_false h_9)) ?_
        refine JC.skip ?_
        refine JQ.seq ?_
        refine JC.seq ?_
        refine JC.region ?_
        refine JL.pure rfl (PO.move (v := .int .i64 ((k1 % 10 : Nat) : Int)) rfl) ?_
        refine JL.op rfl (JO.call [] Tryz.call285 rfl (C_figure (k1 % 10) (by omega)) rfl (fun _ _ => trivial)) ?_
        rintro _ _ ⟨_, ⟨rfl, rfl⟩, rfl⟩
        refine JL.op rfl (JO.buildSlice (ps := [(0, .int .u8 ((48 + (k1 % 10) : Nat) : Int))]) (cur := #[.int .u8 ((48 + (k1 % 10) : Nat) : Int)]) Tryz.underlying44 Tryz.sizeOf5 Tryz.zeroValue5 rfl (by kernel_rfl) (by decide) (by decide)) ?_
        rintro _ _ ⟨a_10, rfl, rfl⟩
        refine JL.ld rfl (LO.toStr 0 [UInt8.ofNat (48 + (k1 % 10))] rfl Tryz.underlying44 Tryz.underlying5 Tryz.underlying9 rfl (by rw [List.map_cons, List.map_nil, encB_of _ (by omega)])) ?_
        refine JL.pure rfl (PO.move (v := str o_) he_6) ?_
        refine JL.pure rfl (PO.addS rfl rfl (by (try simp only [List.length_append, List.length_cons, List.length_nil, List.length_drop, List.length_take]); omega)) ?_
        refine JL.pure rfl (PO.assign (v := str ([UInt8.ofNat (48 + (k1 % 10))] ++ o_)) rfl) ?_
        refine JL.nil ?_
        refine JQ.seq ?_
        refine JC.region ?_
        refine JL.pure rfl (PO.move (v := .int .i64 ((k1 : Nat) : Int)) he_3) ?_
        refine JL.pure rfl (PO.quoN (c := ((k1 / 10 : Nat) : Int)) rfl rfl (by omega) (by omega) (by omega) (wr (by omega))) ?_
        refine JL.pure rfl (PO.assign (v := .int .i64 ((k1 / 10 : Nat) : Int)) rfl) ?_
        refine JL.nil ?_
        refine JQ.blockN ?_
        refine JQ.pick [] (A := []) rfl ?_
        refine JQ.again (k1 / 10 + 1) (by omega) ⟨(k1 / 10), [UInt8.ofNat (48 + (k1 % 10))] ++ o_, by omega, (by simp only [List.length_append, List.length_cons, List.length_nil]; omega), (by rw [mtAcc_step (by omega)]; exact hR), rfl, he_4, he_5, rfl, rfl, rfl⟩

theorem N_sDec (n : Int) (hn : -9223372036854775808 ≤ n ∧ n ≤ 9223372036854775807) : Ct Tryz.prog 276 [.int .i64 n] [] (fun _ => True) (fun v A' => ∃ r0, dec n = r0 ∧ r0.length ≤ 21 ∧ v = str r0 ∧ A' = []) := by
  have h21 := dec_len21 hn.1 hn.2
  by_cases h : 0 ≤ n
  · have := C_sDecP n.toNat (by omega)
    rw [Int.toNat_of_nonneg h] at this
    exact this.weak (fun _ h => h) fun v A' ⟨h1, h2⟩ => ⟨_, rfl, h21, h1, h2⟩
  · have := C_sDecM (-n).toNat (by omega) (by omega)
    rw [Int.toNat_of_nonneg (by omega), Int.neg_neg] at this
    exact this.weak (fun _ h => h) fun v A' ⟨h1, h2⟩ => ⟨_, rfl, h21, h1, h2⟩

theorem N_dec (n : Int) (hn : -9223372036854775808 ≤ n ∧ n ≤ 9223372036854775807) : Ct Tryz.prog 64 [.int .i64 n] [] (fun _ => True) (fun v A' => ∃ r0, dec n = r0 ∧ r0.length ≤ 21 ∧ v = str r0 ∧ A' = []) :=
  (C_decimal n hn.1 hn.2).weak (fun _ h => h) fun v A' ⟨h1, h2⟩ => ⟨_, rfl, dec_len21 hn.1 hn.2, h1, h2⟩

theorem N_sNumOf (t : Str) (ht : t.length ≤ 1000000000000) : Ct Tryz.prog 217 [str t] [] (fun _ => True) (fun v A' => ∃ r0, numOf t = r0 ∧ (0 ≤ r0 ∧ r0 ≤ 999) ∧ v = .int .i64 r0 ∧ A' = []) :=
  (C_sNumOf t (by omega)).weak (fun _ h => h) fun v A' ⟨h1, h2⟩ => ⟨_, rfl, numOf_lo t, h1, h2⟩

theorem N_sNumAt (x : MA) (m : MS) {S T : Nat} (hk : m.ok S T) (hS : S ≤ 900000000) (hT : T ≤ 900000000) (key : Str) :
    Ct Tryz.prog 228 [mv x m, str key] (mr x m) (fun _ => True) (fun v A' => ∃ x' m' r0, MS.num m key = (m', r0) ∧ m'.ok (S) (T + 1) ∧ (0 ≤ r0 ∧ r0 ≤ 999) ∧ v = .tuple #[mv x' m', .int .i64 r0] ∧ A' = mr x' m') := by
  refine Ct.intro Tryz.func228 rfl Tryz.ntmps228 (Nat.le_of_ble_eq_true rfl) fun w0 hpre => ?_
  refine JC.seq ?_
  refine JC.region ?_
  refine JL.op rfl (JO.box (cs := [.slice x.a0 m.s.length x.c0, .slice x.a1 m.r.length x.c1, .slice x.a2 m.w.length x.c2]) rfl rfl) ?_
  rintro _ _ ⟨b_1, rfl, rfl⟩
  refine JL.op rfl (JO.alloc (z := .agg #[.slice none 0 0, .slice none 0 0, .slice none 0 0]) (cs := [.slice none 0 0, .slice none 0 0, .slice none 0 0]) Tryz.zeroValue32 rfl) ?_
  rintro _ _ ⟨b_2, rfl, rfl⟩
  refine JL.pure rfl (PO.assign (v := .int .i64 0) rfl) ?_
  refine JL.nil ?_
  refine JQ.seq ?_
  refine JC.seq ?_
  refine JC.region ?_
  refine JL.ld rfl (LO.loadK 1 (vs := [.slice x.a0 m.s.length x.c0, .slice x.a1 m.r.length x.c1, .slice x.a2 m.w.length x.c2]) rfl rfl Tryz.isAgg32 Tryz.sizeOf32 rfl rfl) ?_
  refine JL.pure rfl (PO.move (v := str key) rfl) ?_
  refine JL.op rfl (JO.call [2, 2, 2] Tryz.call230 rfl (N_sLook x m hk (by omega) (by omega) key) rfl (fun _ _ => trivial)) ?_
  rintro _ _ ⟨_, ⟨x_5, m_6, u_7, e_3, k_4, f_8, rfl, rfl⟩, rfl⟩
  refine JL.pure rfl (PO.move (v := .tuple #[mv x_5 m_6, str u_7]) rfl) ?_
  refine JL.pure rfl (PO.extract (v := mv x_5 m_6) rfl rfl) ?_
  refine JL.pure rfl (PO.extract (v := str u_7) rfl rfl) ?_
  refine JL.op rfl (JO.store 4 (vs := [.slice x_5.a0 m_6.s.length x_5.c0, .slice x_5.a1 m_6.r.length x_5.c1, .slice x_5.a2 m_6.w.length x_5.c2]) (cs' := [.slice x_5.a0 m_6.s.length x_5.c0, .slice x_5.a1 m_6.r.length x_5.c1, .slice x_5.a2 m_6.w.length x_5.c2]) rfl rfl rfl rfl Tryz.sizeOf32 rfl rfl (Nat.le_of_ble_eq_true rfl) rfl) ?_
  rintro _ _ rfl
  refine JL.pure rfl (PO.assign (v := str u_7) rfl) ?_
  refine JL.nil ?_
  refine JQ.seq ?_
  refine JC.seq ?_
  refine JC.regionA [mb b_1 x_5 m_6] 3 mixed (by simp) ?_
  refine JA.take 0 rfl (by kernel_rfl) (NP.th NP.body) (by kernel_rfl) (by kernel_rfl) (by kernel_rfl) rfl (LO.loadK 0 (vs := [.slice x_5.a0 m_6.s.length x_5.c0, .slice x_5.a1 m_6.r.length x_5.c1, .slice x_5.a2 m_6.w.length x_5.c2]) rfl rfl Tryz.isAgg32 Tryz.sizeOf32 rfl rfl) ?_
  refine JA.takeP 1 rfl (by kernel_rfl) (NP.th NP.body) (by kernel_rfl) (by kernel_rfl) rfl (PO.move (v := str u_7) rfl) ?_
  refine JA.one (i := 2) (by kernel_rfl) ?_
  refine JX.op rfl rfl (JO.call [] Tryz.call217 rfl (N_sNumOf u_7 (by omega)) rfl (fun _ _ => trivial)) ?_
  rintro _ _ ⟨_, ⟨n_15, e_13, f_16, rfl, rfl⟩, rfl⟩
  refine ⟨(by simp), ?_⟩
  refine JA.one (i := 3) (by kernel_rfl) ?_
  refine JX.late rfl rfl (by decide) (by kernel_rfl) (JO.store 3 (vs := [.slice x_5.a0 m_6.s.length x_5.c0, .slice x_5.a1 m_6.r.length x_5.c1, .slice x_5.a2 m_6.w.length x_5.c2]) (cs' := [.slice x_5.a0 m_6.s.length x_5.c0, .slice x_5.a1 m_6.r.length x_5.c1, .slice x_5.a2 m_6.w.length x_5.c2]) rfl rfl rfl rfl Tryz.sizeOf32 rfl rfl (Nat.le_of_ble_eq_true rfl) rfl) ?_
  rintro _ _ rfl
  refine JA.takeP 4 rfl (by kernel_rfl) (NP.th NP.body) (by kernel_rfl) (by kernel_rfl) rfl (PO.assign (v := .int .i64 n_15) rfl) ?_
  refine JA.done (by kernel_rfl) ?_
  refine JQ.seq ?_
  refine JC.ret ?_
  refine Done.two (.inl rfl) rfl (RV.cell1 (LO.loadK 3 (vs := [.slice x_5.a0 m_6.s.length x_5.c0, .slice x_5.a1 m_6.r.length x_5.c1, .slice x_5.a2 m_6.w.length x_5.c2]) rfl rfl Tryz.isAgg32 Tryz.sizeOf32 rfl rfl) ⟨_, rfl⟩) (RV.tmp (v := .int .i64 n_15) rfl) (List.sublist_append_left [rC x_5.a0 x_5.c0 m_6.s, rS x_5.a1 x_5.c1 m_6.r, rS x_5.a2 x_5.c2 m_6.w] [mb b_2 x_5 m_6, mb b_1 x_5 m_6]) ?_
  exact ⟨x_5, m_6, n_15, (by simp only [MS.num, e_3, e_13, if_true, if_false, Bool.false_eq_true, Bool.not_true, Bool.not_false]; (repeat (first | rw [if_pos (by omega)] | rw [if_neg (by omega)])); all_goals (first | rfl | simp only [if_true, if_false, Bool.false_eq_true, Bool.not_true, Bool.not_false, e_3, e_13])), (k_4.mono (by omega) (by omega)), (by first | omega | (simp only [List.length_append, List.length_cons, List.length_nil, List.length_take, List.length_drop]; omega)), rfl, rfl⟩

theorem N_sSetNum (x : MA) (m : MS) {S T : Nat} (hk : m.ok S T) (hS : S ≤ 900000000) (hT : T ≤ 900000000) (key : Str) (n : Int) (hkey : key.length ≤ 1000000000000) (hn : -9223372036854775808 ≤ n ∧ n ≤ 9223372036854775807) :
    Ct Tryz.prog 233 [mv x m, str key, .int .i64 n] (mr x m) (fun _ => True) (fun v A' => ∃ x' m', MS.setNum m key n = m' ∧ m'.ok (S + 1) (T + 1) ∧ v = mv x' m' ∧ A' = mr x' m') := by
  refine Ct.intro Tryz.func233 rfl Tryz.ntmps233 (Nat.le_of_ble_eq_true rfl) fun w0 hpre => ?_
  refine JC.seq ?_
  refine JC.region ?_
  refine JL.op rfl (JO.box (cs := [.slice x.a0 m.s.length x.c0, .slice x.a1 m.r.length x.c1, .slice x.a2 m.w.length x.c2]) rfl rfl) ?_
  rintro _ _ ⟨b_1, rfl, rfl⟩
  refine JL.op rfl (JO.alloc (z := .agg #[.slice none 0 0, .slice none 0 0, .slice none 0 0]) (cs := [.slice none 0 0, .slice none 0 0, .slice none 0 0]) Tryz.zeroValue32 rfl) ?_
  rintro _ _ ⟨b_2, rfl, rfl⟩
  refine JL.nil ?_
  refine JQ.seq ?_
  refine JC.seq ?_
  refine JC.seq ?_
  refine JC.region ?_
  refine JL.pure rfl (PO.move (v := .int .i64 n) rfl) ?_
  refine JL.op rfl (JO.call [] Tryz.call144 rfl (C_l01In n 1 999) rfl (fun _ _ => trivial)) ?_
  rintro _ _ ⟨_, ⟨rfl, rfl⟩, rfl⟩
  refine JL.pure rfl (PO.not rfl) ?_
  refine JL.nil ?_
  refine JQ.seq ?_
  rcases Bool.eq_false_or_eq_true (decide (1 ≤ n) && decide (n ≤ 999)) with h_3 | h_3
  · skip
    have h_3d := h_3
    simp only [Bool.and_eq_true, Bool.and_eq_false_iff, decide_eq_true_eq, decide_eq_false_iff_not] at h_3d
    refine JC.condF (congrArg Value.bool (congrArg Bool.not h_3)) ?_
    refine JC.skip ?_
    refine JQ.seq ?_
    refine JC.seq ?_
    refine JC.regionA [mb b_1 x m] 4 mixed (by simp) ?_
    refine JA.take 0 rfl (by kernel_rfl) (NP.th NP.body) (by kernel_rfl) (by kernel_rfl) (by kernel_rfl) rfl (LO.loadK 0 (vs := [.slice x.a0 m.s.length x.c0, .slice x.a1 m.r.length x.c1, .slice x.a2 m.w.length x.c2]) rfl rfl Tryz.isAgg32 Tryz.sizeOf32 rfl rfl) ?_
    refine JA.takeP 1 rfl (by kernel_rfl) (NP.th NP.body) (by kernel_rfl) (by kernel_rfl) rfl (PO.move (v := str key) rfl) ?_
    refine JA.takeP 2 rfl (by kernel_rfl) (NP.th NP.body) (by kernel_rfl) (by kernel_rfl) rfl (PO.move (v := .int .i64 n) rfl) ?_
    refine JA.one (i := 3) (by kernel_rfl) ?_
    refine JX.op rfl rfl (JO.call [] Tryz.call276 rfl (N_sDec n (by omega)) rfl (fun _ _ => trivial)) ?_
    rintro _ _ ⟨_, ⟨u_10, e_8, f_11, rfl, rfl⟩, rfl⟩
    refine ⟨(by simp), ?_⟩
    refine JA.one (i := 4) (by kernel_rfl) ?_
    refine JX.late rfl rfl (by decide) (by kernel_rfl) (JO.call [2, 2, 2] Tryz.call232 rfl (N_sLay x m hk (by omega) (by omega) key u_10 (by omega)) rfl (fun _ _ => trivial)) ?_
    rintro _ _ ⟨_, ⟨x_18, m_19, e_16, k_17, rfl, rfl⟩, rfl⟩
    refine JA.one (i := 5) (by kernel_rfl) ?_
    refine JX.last rfl rfl (by decide) (by kernel_rfl) (JO.store 3 (vs := [.slice x_18.a0 m_19.s.length x_18.c0, .slice x_18.a1 m_19.r.length x_18.c1, .slice x_18.a2 m_19.w.length x_18.c2]) (cs' := [.slice x_18.a0 m_19.s.length x_18.c0, .slice x_18.a1 m_19.r.length x_18.c1, .slice x_18.a2 m_19.w.length x_18.c2]) rfl rfl rfl rfl Tryz.sizeOf32 rfl rfl (Nat.le_of_ble_eq_true rfl) rfl) ?_
    rintro _ _ rfl
    refine JQ.seq ?_
    refine JC.ret ?_
    refine Done.one (.inl rfl) rfl (RV.cell1 (LO.loadK 3 (vs := [.slice x_18.a0 m_19.s.length x_18.c0, .slice x_18.a1 m_19.r.length x_18.c1, .slice x_18.a2 m_19.w.length x_18.c2]) rfl rfl Tryz.isAgg32 Tryz.sizeOf32 rfl rfl) ⟨_, rfl⟩) (List.sublist_append_left [rC x_18.a0 x_18.c0 m_19.s, rS x_18.a1 x_18.c1 m_19.r, rS x_18.a2 x_18.c2 m_19.w] [mb b_2 x_18 m_19, mb b_1 x m]) ?_
    exact ⟨x_18, m_19, (by simp only [MS.setNum, h_3, e_8, e_16, if_true, if_false, Bool.false_eq_true, Bool.not_true, Bool.not_false]; (repeat (first | rw [if_pos (by omega)] | rw [if_neg (by omega)])); all_goals (first | rfl | simp only [if_true, if_false, Bool.false_eq_true, Bool.not_true, Bool.not_false, h_3, e_8, e_16])), (k_17.mono (by omega) (by omega)), rfl, rfl⟩
  · skip
    have h_3d := h_3
    simp only [Bool.and_eq_true, Bool.and_eq_false_iff, decide_eq_true_eq, decide_eq_false_iff_not] at h_3d
    refine JC.condT (congrArg Value.bool (congrArg Bool.not h_3)) ?_
    refine JC.seq ?_
    refine JC.region ?_
    refine JL.ld rfl (LO.loadK 1 (vs := [.slice x.a0 m.s.length x.c0, .slice x.a1 m.r.length x.c1, .slice x.a2 m.w.length x.c2]) rfl rfl Tryz.isAgg32 Tryz.sizeOf32 rfl rfl) ?_
    refine JL.pure rfl (PO.move (v := str key) rfl) ?_
    refine JL.op rfl (JO.call [2, 2, 2] Tryz.call232 rfl (N_sLayNil x m hk (by omega) (by omega) key (by omega)) rfl (fun _ _ => trivial)) ?_
    rintro _ _ ⟨_, ⟨x_22, m_23, e_20, k_21, rfl, rfl⟩, rfl⟩
    refine JL.op rfl (JO.store 3 (vs := [.slice x_22.a0 m_23.s.length x_22.c0, .slice x_22.a1 m_23.r.length x_22.c1, .slice x_22.a2 m_23.w.length x_22.c2]) (cs' := [.slice x_22.a0 m_23.s.length x_22.c0, .slice x_22.a1 m_23.r.length x_22.c1, .slice x_22.a2 m_23.w.length x_22.c2]) rfl rfl rfl rfl Tryz.sizeOf32 rfl rfl (Nat.le_of_ble_eq_true rfl) rfl) ?_
    rintro _ _ rfl
    refine JL.nil ?_
    refine JQ.seq ?_
    refine JC.ret ?_
    refine JQ.thenRet ?_
    refine Done.one (.inl rfl) rfl (RV.cell1 (LO.loadK 3 (vs := [.slice x_22.a0 m_23.s.length x_22.c0, .slice x_22.a1 m_23.r.length x_22.c1, .slice x_22.a2 m_23.w.length x_22.c2]) rfl rfl Tryz.isAgg32 Tryz.sizeOf32 rfl rfl) ⟨_, rfl⟩) (List.sublist_append_left [rC x_22.a0 x_22.c0 m_23.s, rS x_22.a1 x_22.c1 m_23.r, rS x_22.a2 x_22.c2 m_23.w] [mb b_2 x_22 m_23, mb b_1 x m]) ?_
    exact ⟨x_22, m_23, (by simp only [MS.setNum, h_3, e_20, if_true, if_false, Bool.false_eq_true, Bool.not_true, Bool.not_false]; (repeat (first | rw [if_pos (by omega)] | rw [if_neg (by omega)])); all_goals (first | rfl | simp only [if_true, if_false, Bool.false_eq_true, Bool.not_true, Bool.not_false, h_3, e_20])), (k_21.mono (by omega) (by omega)), rfl, rfl⟩

theorem N_keyNum {hb tb : Nat} (h : Str) (n : Int) (t : Str) (hh : h.length ≤ hb) (hn : -9223372036854775808 ≤ n ∧ n ≤ 9223372036854775807) (ht : t.length ≤ tb) (hq : hb + tb ≤ 1000000) :
    Ct Tryz.prog 215 [str h, .int .i64 n, str t] ([]) (fun _ => True) (fun v A' => ∃ r0, keyNum h n t = r0 ∧ r0.length ≤ hb + 21 + tb ∧ v = str r0 ∧ A' = []) := by
  refine Ct.intro Tryz.func215 rfl Tryz.ntmps215 (Nat.le_of_ble_eq_true rfl) fun w0 hpre => ?_
  refine JC.seq ?_
  refine JC.region ?_
  refine JL.pure rfl (PO.assign (v := str []) rfl) ?_
  refine JL.nil ?_
  refine JQ.seq ?_
  refine JC.seq ?_
  refine JC.region ?_
  refine JL.pure rfl (PO.move (v := str h) rfl) ?_
  refine JL.pure rfl (PO.move (v := .int .i64 n) rfl) ?_
  refine JL.op rfl (JO.call [] Tryz.call64 rfl (N_dec n (by omega)) rfl (fun _ _ => trivial)) ?_
  rintro _ _ ⟨_, ⟨u_3, e_1, f_4, rfl, rfl⟩, rfl⟩
  refine JL.pure rfl (PO.addS rfl rfl (by (try simp only [List.length_append, List.length_cons, List.length_nil, List.length_drop, List.length_take]); omega)) ?_
  refine JL.pure rfl (PO.move (v := str t) rfl) ?_
  refine JL.pure rfl (PO.addS rfl rfl (by (try simp only [List.length_append, List.length_cons, List.length_nil, List.length_drop, List.length_take]); omega)) ?_
  refine JL.pure rfl (PO.assign (v := str ((h ++ u_3) ++ t)) rfl) ?_
  refine JL.nil ?_
  refine JQ.seq ?_
  refine JC.ret ?_
  refine Done.one (.inl rfl) rfl (RV.tmp (v := str ((h ++ u_3) ++ t)) rfl) (List.nil_sublist _) ?_
  exact ⟨((h ++ u_3) ++ t), (by simp only [keyNum, e_1, if_true, if_false, Bool.false_eq_true, Bool.not_true, Bool.not_false]; (repeat (first | rw [if_pos (by omega)] | rw [if_neg (by omega)])); all_goals (first | rfl | simp only [if_true, if_false, Bool.false_eq_true, Bool.not_true, Bool.not_false, e_1])), (by first | omega | (simp only [List.length_append, List.length_cons, List.length_nil, List.length_take, List.length_drop]; omega)), rfl, rfl⟩

theorem N_sKeyNum {hb tb : Nat} (h : Str) (n : Int) (t : Str) (hh : h.length ≤ hb) (hn : -9223372036854775808 ≤ n ∧ n ≤ 9223372036854775807) (ht : t.length ≤ tb) (hq : hb + tb ≤ 1000000) :
    Ct Tryz.prog 219 [str h, .int .i64 n, str t] ([]) (fun _ => True) (fun v A' => ∃ r0, keyNum h n t = r0 ∧ r0.length ≤ hb + 21 + tb ∧ v = str r0 ∧ A' = []) := by
  refine Ct.intro Tryz.func219 rfl Tryz.ntmps219 (Nat.le_of_ble_eq_true rfl) fun w0 hpre => ?_
  refine JC.seq ?_
  refine JC.region ?_
  refine JL.pure rfl (PO.assign (v := str []) rfl) ?_
  refine JL.nil ?_
  refine JQ.seq ?_
  refine JC.seq ?_
  refine JC.region ?_
  refine JL.pure rfl (PO.move (v := str h) rfl) ?_
  refine JL.pure rfl (PO.move (v := .int .i64 n) rfl) ?_
  refine JL.op rfl (JO.call [] Tryz.call276 rfl (N_sDec n (by omega)) rfl (fun _ _ => trivial)) ?_
  rintro _ _ ⟨_, ⟨u_3, e_1, f_4, rfl, rfl⟩, rfl⟩
  refine JL.pure rfl (PO.addS rfl rfl (by (try simp only [List.length_append, List.length_cons, List.length_nil, List.length_drop, List.length_take]); omega)) ?_
  refine JL.pure rfl (PO.move (v := str t) rfl) ?_
  refine JL.pure rfl (PO.addS rfl rfl (by (try simp only [List.length_append, List.length_cons, List.length_nil, List.length_drop, List.length_take]); omega)) ?_
  refine JL.pure rfl (PO.assign (v := str ((h ++ u_3) ++ t)) rfl) ?_
  refine JL.nil ?_
  refine JQ.seq ?_
  refine JC.ret ?_
  refine Done.one (.inl rfl) rfl (RV.tmp (v := str ((h ++ u_3) ++ t)) rfl) (List.nil_sublist _) ?_
  exact ⟨((h ++ u_3) ++ t), (by simp only [keyNum, e_1, if_true, if_false, Bool.false_eq_true, Bool.not_true, Bool.not_false]; (repeat (first | rw [if_pos (by omega)] | rw [if_neg (by omega)])); all_goals (first | rfl | simp only [if_true, if_false, Bool.false_eq_true, Bool.not_true, Bool.not_false, e_1])), (by first | omega | (simp only [List.length_append, List.length_cons, List.length_nil, List.length_take, List.length_drop]; omega)), rfl, rfl⟩

theorem N_sizeKey (id : Int) (hid : -9223372036854775808 ≤ id ∧ id ≤ 9223372036854775807) :
    Ct Tryz.prog 205 [.int .i64 id] ([]) (fun _ => True) (fun v A' => ∃ r0, (fun i => keyNum ([105, 47] : Str) i ([47, 115] : Str)) id = r0 ∧ r0.length ≤ 30 ∧ v = str r0 ∧ A' = []) := by
  refine Ct.intro Tryz.func205 rfl Tryz.ntmps205 (Nat.le_of_ble_eq_true rfl) fun w0 hpre => ?_
  refine JC.seq ?_
  refine JC.region ?_
  refine JL.pure rfl (PO.assign (v := str []) rfl) ?_
  refine JL.nil ?_
  refine JQ.seq ?_
  refine JC.seq ?_
  refine JC.region ?_
  refine JL.pure rfl (PO.move (v := .int .i64 id) rfl) ?_
  refine JL.op rfl (JO.call [] Tryz.call215 rfl (N_keyNum [105, 47] id [47, 115] (show List.length ([105, 47] : Str) ≤ 2 by decide) (by omega) (show List.length ([47, 115] : Str) ≤ 2 by decide) (by omega)) rfl (fun _ _ => trivial)) ?_
  rintro _ _ ⟨_, ⟨u_3, e_1, f_4, rfl, rfl⟩, rfl⟩
  refine JL.pure rfl (PO.assign (v := str u_3) rfl) ?_
  refine JL.nil ?_
  refine JQ.seq ?_
  refine JC.ret ?_
  refine Done.one (.inl rfl) rfl (RV.tmp (v := str u_3) rfl) (List.nil_sublist _) ?_
  exact ⟨u_3, (by simp only [if_true, e_1, if_true, if_false, Bool.false_eq_true, Bool.not_true, Bool.not_false]; (repeat (first | rw [if_pos (by omega)] | rw [if_neg (by omega)])); all_goals (first | rfl | simp only [if_true, if_false, Bool.false_eq_true, Bool.not_true, Bool.not_false, e_1])), (by first | omega | (simp only [List.length_append, List.length_cons, List.length_nil, List.length_take, List.length_drop]; omega)), rfl, rfl⟩

theorem N_blockKey (id : Int) (k : Int) (hid : -9223372036854775808 ≤ id ∧ id ≤ 9223372036854775807) (hk : -9223372036854775808 ≤ k ∧ k ≤ 9223372036854775807) :
    Ct Tryz.prog 249 [.int .i64 id, .int .i64 k] ([]) (fun _ => True) (fun v A' => ∃ r0, (fun i k => keyNum (keyNum ([105, 47] : Str) i ([47, 98, 47] : Str)) k []) id k = r0 ∧ r0.length ≤ 60 ∧ v = str r0 ∧ A' = []) := by
  refine Ct.intro Tryz.func249 rfl Tryz.ntmps249 (Nat.le_of_ble_eq_true rfl) fun w0 hpre => ?_
  refine JC.seq ?_
  refine JC.region ?_
  refine JL.pure rfl (PO.assign (v := str []) rfl) ?_
  refine JL.nil ?_
  refine JQ.seq ?_
  refine JC.seq ?_
  refine JC.region ?_
  refine JL.pure rfl (PO.move (v := .int .i64 id) rfl) ?_
  refine JL.op rfl (JO.call [] Tryz.call215 rfl (N_keyNum [105, 47] id [47, 98, 47] (show List.length ([105, 47] : Str) ≤ 2 by decide) (by omega) (show List.length ([47, 98, 47] : Str) ≤ 3 by decide) (by omega)) rfl (fun _ _ => trivial)) ?_
  rintro _ _ ⟨_, ⟨u_3, e_1, f_4, rfl, rfl⟩, rfl⟩
  refine JL.pure rfl (PO.move (v := .int .i64 k) rfl) ?_
  refine JL.op rfl (JO.call [] Tryz.call215 rfl (N_keyNum u_3 k [] (Nat.le_refl _) (by omega) (show List.length ([] : Str) ≤ 0 by decide) (by omega)) rfl (fun _ _ => trivial)) ?_
  rintro _ _ ⟨_, ⟨u_7, e_5, f_8, rfl, rfl⟩, rfl⟩
  refine JL.pure rfl (PO.assign (v := str u_7) rfl) ?_
  refine JL.nil ?_
  refine JQ.seq ?_
  refine JC.ret ?_
  refine Done.one (.inl rfl) rfl (RV.tmp (v := str u_7) rfl) (List.nil_sublist _) ?_
  exact ⟨u_7, (by simp only [if_true, e_1, e_5, if_true, if_false, Bool.false_eq_true, Bool.not_true, Bool.not_false]; (repeat (first | rw [if_pos (by omega)] | rw [if_neg (by omega)])); all_goals (first | rfl | simp only [if_true, if_false, Bool.false_eq_true, Bool.not_true, Bool.not_false, e_1, e_5])), (by first | omega | (simp only [List.length_append, List.length_cons, List.length_nil, List.length_take, List.length_drop]; omega)), rfl, rfl⟩

theorem N_l07Block (id : Int) (k : Int) (hid : -9223372036854775808 ≤ id ∧ id ≤ 9223372036854775807) (hk : -9223372036854775808 ≤ k ∧ k ≤ 9223372036854775807) :
    Ct Tryz.prog 248 [.int .i64 id, .int .i64 k] ([]) (fun _ => True) (fun v A' => ∃ r0, (fun i k => keyNum (keyNum ([105, 47] : Str) i ([47, 98, 47] : Str)) k []) id k = r0 ∧ r0.length ≤ 60 ∧ v = str r0 ∧ A' = []) := by
  refine Ct.intro Tryz.func248 rfl Tryz.ntmps248 (Nat.le_of_ble_eq_true rfl) fun w0 hpre => ?_
  refine JC.seq ?_
  refine JC.region ?_
  refine JL.pure rfl (PO.assign (v := str []) rfl) ?_
  refine JL.nil ?_
  refine JQ.seq ?_
  refine JC.seq ?_
  refine JC.region ?_
  refine JL.pure rfl (PO.move (v := .int .i64 id) rfl) ?_
  refine JL.op rfl (JO.call [] Tryz.call219 rfl (N_sKeyNum [105, 47] id [47, 98, 47] (show List.length ([105, 47] : Str) ≤ 2 by decide) (by omega) (show List.length ([47, 98, 47] : Str) ≤ 3 by decide) (by omega)) rfl (fun _ _ => trivial)) ?_
  rintro _ _ ⟨_, ⟨u_3, e_1, f_4, rfl, rfl⟩, rfl⟩
  refine JL.pure rfl (PO.move (v := .int .i64 k) rfl) ?_
  refine JL.op rfl (JO.call [] Tryz.call219 rfl (N_sKeyNum u_3 k [] (Nat.le_refl _) (by omega) (show List.length ([] : Str) ≤ 0 by decide) (by omega)) rfl (fun _ _ => trivial)) ?_
  rintro _ _ ⟨_, ⟨u_7, e_5, f_8, rfl, rfl⟩, rfl⟩
  refine JL.pure rfl (PO.assign (v := str u_7) rfl) ?_
  refine JL.nil ?_
  refine JQ.seq ?_
  refine JC.ret ?_
  refine Done.one (.inl rfl) rfl (RV.tmp (v := str u_7) rfl) (List.nil_sublist _) ?_
  exact ⟨u_7, (by simp only [if_true, e_1, e_5, if_true, if_false, Bool.false_eq_true, Bool.not_true, Bool.not_false]; (repeat (first | rw [if_pos (by omega)] | rw [if_neg (by omega)])); all_goals (first | rfl | simp only [if_true, if_false, Bool.false_eq_true, Bool.not_true, Bool.not_false, e_1, e_5])), (by first | omega | (simp only [List.length_append, List.length_cons, List.length_nil, List.length_take, List.length_drop]; omega)), rfl, rfl⟩

end Go.Proofs.YtenfajgpdhgknaaGreatDoor
