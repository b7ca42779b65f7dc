/-
  The laws' own marks (part 5): what they lay into memory, and what they look for.
-/
import Derived.Test.YtkmpmjficoohkaaGreatS04MACH
import Derived.Test.YtkmpmjficoohkaaGreatSlTx
set_option linter.unusedSimpArgs false
set_option linter.unusedVariables false
set_option linter.unnecessarySimpa false
namespace Go.Proofs.YtkmpmjficoohkaaGreat
open Go Go.RowKit
attribute [local irreducible] JL JC JQ JO LO PO JA JX Ct

/-- What the laws find of their marks. -/
def heldS : List Str → Nat → Int
  | [], k => k
  | x :: l, k => if x = mt k then heldS l (k + 1) else -1
def heldC : List Cell → Nat → Int
  | [], k => k
  | x :: l, k => if x.1 = mt k then (if x.2 = mt (k + 1) then heldC l (k + 2) else -1) else -1
theorem heldS_mark : ∀ (l : List Str) (k : Nat), heldS (markS l k) k = ((k + l.length : Nat) : Int)
  | [], k => rfl
  | x :: l, k => by
    rw [markS, heldS, if_pos rfl, heldS_mark l (k + 1), List.length_cons]
    congr 1; omega
theorem heldC_mark : ∀ (l : List Cell) (k : Nat), heldC (markC l k) k = ((k + 2 * l.length : Nat) : Int)
  | [], k => rfl
  | x :: l, k => by
    rw [markC, heldC, if_pos rfl, if_pos rfl, heldC_mark l (k + 2), List.length_cons]
    congr 1; omega
theorem heldS_step {s : List Str} {j k : Nat} (h : j < s.length) : heldS (s.drop j) k = if s.getD j [] = mt k then heldS (s.drop (j + 1)) (k + 1) else -1 := by
  rw [drop_at (getD_some (d := []) h), heldS]
theorem heldC_step {s : List Cell} {j k : Nat} (h : j < s.length) : heldC (s.drop j) k = if (s.getD j c0).1 = mt k then (if (s.getD j c0).2 = mt (k + 1) then heldC (s.drop (j + 1)) (k + 2) else -1) else -1 := by
  rw [drop_at (getD_some (d := c0) h), heldC]
theorem markC_two {X : List Cell} {j : Nat} {a b v : Str} (h : j < X.length) : (X.set j (a, v)).set j (((X.set j (a, v)).getD j c0).1, b) = X.set j (a, b) := by
  have : (X.set j (a, v)).getD j c0 = (a, v) := by simp [h]
  rw [this, List.set_set]
theorem heldS_lo : ∀ (l : List Str) (k : Nat), -1 ≤ heldS l k ∧ heldS l k ≤ ((k + l.length : Nat) : Int)
  | [], k => by simp only [heldS, List.length_nil]; omega
  | x :: l, k => by
    have := heldS_lo l (k + 1)
    unfold heldS
    rw [List.length_cons]
    split <;> omega
theorem heldC_lo : ∀ (l : List Cell) (k : Nat), -1 ≤ heldC l k ∧ heldC l k ≤ ((k + 2 * l.length : Nat) : Int)
  | [], k => by simp only [heldC, List.length_nil]; omega
  | x :: l, k => by
    have := heldC_lo l (k + 2)
    unfold heldC
    rw [List.length_cons]
    split
    · split <;> omega
    · omega

theorem C_markText (k : Nat) (h0 : 0 < k) (h1 : k ≤ 100000000) :
    Ct Tryz.prog 102 [.int .i64 ((k : Nat) : Int)] [] (fun _ => True) (fun v A' => v = str (mt k) ∧ A' = []) := by
  refine Ct.intro Tryz.func102 rfl Tryz.ntmps102 (Nat.le_of_ble_eq_true rfl) fun w0 hpre => ?_
  refine JC.seq ?_
  refine JC.region ?_
  refine JL.pure rfl (PO.assign (v := str []) rfl) ?_
  refine JL.nil ?_
  refine JQ.seq ?_
  refine JC.seq ?_
  refine JC.seq ?_
  refine JC.region ?_
  refine JL.pure rfl (PO.move (v := .int .i64 ((k : Nat) : Int)) rfl) ?_
  refine JL.pure rfl (PO.leq rfl rfl) ?_
  refine JL.nil ?_
  refine JQ.seq ?_
  by_cases h_1 : ((k : Nat) : Int) ≤ 0
  · skip
    refine JC.condT (congrArg Value.bool (decide_eq_true h_1)) ?_
    refine JC.seq ?_
    refine JC.region ?_
    refine JL.pure rfl (PO.assign (v := str [109, 48]) rfl) ?_
    refine JL.nil ?_
    refine JQ.seq ?_
    refine JC.ret ?_
    refine JQ.thenRet ?_
    refine Done.one (.inl rfl) rfl (RV.tmp (v := str [109, 48]) rfl) (List.nil_sublist _) ?_
    (exfalso; omega)
  · skip
    refine JC.condF (congrArg Value.bool (decide_eq_false h_1)) ?_
    refine JC.skip ?_
    refine JQ.seq ?_
    refine JC.seq ?_
    refine JC.region ?_
    refine JL.pure rfl (PO.assign (v := str []) rfl) ?_
    refine JL.nil ?_
    refine JQ.seq ?_
    refine JC.seq ?_
    refine JC.block ?_
    refine JC.loop (fun k_ e_ L_ => ∃ k1 : Nat, ∃ out : Str, (k1 ≤ k) ∧ (out.length + k1 ≤ k) ∧ (mtAcc k1 out = mtAcc k []) ∧ e_ 0 = .int .i64 ((k1 : Nat) : Int) ∧ e_ 2 = str [] ∧ e_ 3 = str out ∧ L_ = [] ∧ k_ = k1 + 1) _ ⟨k, [], by omega, (by simp), rfl, rfl, rfl, rfl, rfl, rfl⟩ ?_
    rintro _ e_2 _ ⟨k1, out, hk, hl, hR, he_3, he_4, he_5, rfl, rfl⟩
    refine JC.seq ?_
    refine JC.seq ?_
    refine JC.region ?_
    refine JL.pure rfl (PO.move (v := .int .i64 ((k1 : Nat) : Int)) he_3) ?_
    refine JL.pure rfl (PO.gtr rfl rfl) ?_
    refine JL.nil ?_
    refine JQ.seq ?_
    by_cases h_6 : 0 < ((k1 : Nat) : Int)
    · skip
      have hk0 : 0 < k1 := by omega
      refine JC.condT (congrArg Value.bool (decide_eq_true h_6)) ?_
      refine JC.skip ?_
      refine JQ.seq ?_
      refine JC.block ?_
      refine JC.seq ?_
      refine JC.region ?_
      refine JL.pure rfl (PO.move (v := .int .i64 ((k1 : Nat) : Int)) he_3) ?_
      refine JL.pure rfl (PO.remN (c := ((k1 % 10 : Nat) : Int)) rfl rfl (by omega) (by omega) (by omega)) ?_
      refine JL.pure rfl (PO.add (c := ((48 + (k1 % 10) : Nat) : Int)) rfl rfl (wr (by omega))) ?_
      refine JL.pure rfl (PO.convI (c := ((48 + (k1 % 10) : Nat) : Int)) Tryz.underlying3 Tryz.underlying5 rfl (wr8 (by omega))) ?_
      refine JL.op rfl (JO.buildSlice (ps := [(0, .int .u8 ((48 + (k1 % 10) : Nat) : Int))]) (cur := #[.int .u8 ((48 + (k1 % 10) : Nat) : Int)]) Tryz.underlying182 Tryz.sizeOf5 Tryz.zeroValue5 rfl (by kernel_rfl) (by decide) (by decide)) ?_
      rintro _ _ ⟨a_7, rfl, rfl⟩
      refine JL.ld rfl (LO.toStr 0 [UInt8.ofNat (48 + (k1 % 10))] rfl Tryz.underlying182 Tryz.underlying5 Tryz.underlying9 rfl (by rw [List.map_cons, List.map_nil, encB_of _ (by omega)])) ?_
      refine JL.pure rfl (PO.move (v := str out) he_5) ?_
      refine JL.pure rfl (PO.addS rfl rfl (by (try simp only [List.length_append, List.length_cons, List.length_nil, List.length_drop, List.length_take]); omega)) ?_
      refine JL.pure rfl (PO.assign (v := str ([UInt8.ofNat (48 + (k1 % 10))] ++ out)) rfl) ?_
      refine JL.nil ?_
      refine JQ.seq ?_
      refine JC.region ?_
      refine JL.pure rfl (PO.move (v := .int .i64 ((k1 : Nat) : Int)) he_3) ?_
      refine JL.pure rfl (PO.quoN (c := ((k1 / 10 : Nat) : Int)) rfl rfl (by omega) (by omega) (by omega) (wr (by omega))) ?_
      refine JL.pure rfl (PO.assign (v := .int .i64 ((k1 / 10 : Nat) : Int)) rfl) ?_
      refine JL.nil ?_
      refine JQ.blockN ?_
      refine JQ.pick [] (A := []) rfl ?_
      refine JQ.again (k1 / 10 + 1) (by omega) ⟨(k1 / 10), [UInt8.ofNat (48 + (k1 % 10))] ++ out, by omega, (by simp only [List.length_append, List.length_cons, List.length_nil]; omega), (by rw [mtAcc_step hk0]; exact hR), rfl, he_4, rfl, rfl, rfl⟩
    · skip
      refine JC.condF (congrArg Value.bool (decide_eq_false h_6)) ?_
      refine JC.exit ?_
      refine JQ.thenExit ?_
      refine JQ.thenExit ?_
      refine JQ.blockE ?_
      refine JQ.seq ?_
      refine JC.seq ?_
      refine JC.region ?_
      refine JL.pure rfl (PO.move (v := str out) he_5) ?_
      refine JL.pure rfl (PO.addS rfl rfl (by (try simp only [List.length_append, List.length_cons, List.length_nil, List.length_drop, List.length_take]); omega)) ?_
      refine JL.pure rfl (PO.assign (v := str ([109] ++ out)) rfl) ?_
      refine JL.nil ?_
      refine JQ.seq ?_
      refine JC.ret ?_
      refine Done.one (.inl rfl) rfl (RV.tmp (v := str ([109] ++ out)) rfl) (List.nil_sublist _) ?_
      (refine ⟨?_, rfl⟩; rw [mt, ← hR, mtAcc_zero (by omega)]; rfl)

theorem C_markStringS (a : Option Addr) (c : Nat) (l : List Str) (k : Nat) (h0 : 0 < k) (h1 : k + l.length ≤ 100000000) :
    Ct Tryz.prog 48 [.slice a l.length c, .int .i64 ((k : Nat) : Int)] [Res.row (.slice a l.length c) 9 1 l.length (l.map str)] (fun _ => True) (fun v A' => v = .int .i64 ((k + l.length : Nat) : Int) ∧ A' = [.row (.slice a l.length c) 9 1 l.length ((markS l k).map str)]) := by
  refine Ct.intro Tryz.func48 rfl Tryz.ntmps48 (Nat.le_of_ble_eq_true rfl) fun w0 hpre => ?_
  refine JC.seq ?_
  refine JC.region ?_
  refine JL.pure rfl (PO.assign (v := .int .i64 0) rfl) ?_
  refine JL.nil ?_
  refine JQ.seq ?_
  refine JC.seq ?_
  refine JC.seq ?_
  refine JC.region ?_
  refine JL.pure rfl (PO.assign (v := .int .i64 0) rfl) ?_
  refine JL.nil ?_
  refine JQ.seq ?_
  refine JC.block ?_
  refine JC.loop (fun k_ e_ L_ => ∃ j : Nat, (j ≤ l.length) ∧ e_ 0 = .slice a l.length c ∧ e_ 1 = .int .i64 ((k + j : Nat) : Int) ∧ e_ 4 = .int .i64 0 ∧ e_ 5 = .int .i64 ((j : Nat) : Int) ∧ L_ = [Res.row (.slice a l.length c) 9 1 l.length (((markS l k).take j ++ l.drop j).map str)] ∧ k_ = l.length - j) _ ⟨0, by omega, rfl, rfl, rfl, rfl, rfl, rfl⟩ ?_
  rintro _ e_1 _ ⟨j, hj, he_2, he_3, he_4, he_5, rfl, rfl⟩
  refine JC.seq ?_
  refine JC.seq ?_
  refine JC.region ?_
  refine JL.pure rfl (PO.move (v := .int .i64 ((j : Nat) : Int)) he_5) ?_
  refine JL.pure rfl (PO.move (v := .slice a l.length c) he_2) ?_
  refine JL.pure rfl (PO.lenV Tryz.underlying30 rfl) ?_
  refine JL.pure rfl (PO.lss rfl rfl) ?_
  refine JL.nil ?_
  refine JQ.seq ?_
  by_cases h_6 : ((j : Nat) : Int) < ((l.length : Nat) : Int)
  · skip
    have hlt : j < l.length := by omega
    refine JC.condT (congrArg Value.bool (decide_eq_true h_6)) ?_
    refine JC.skip ?_
    refine JQ.seq ?_
    refine JC.seq ?_
    refine JC.block ?_
    refine JC.seq ?_
    refine JC.region ?_
    refine JL.pure rfl (PO.move (v := .slice a l.length c) he_2) ?_
    refine JL.pure rfl (PO.move (v := .int .i64 ((j : Nat) : Int)) he_5) ?_
    refine JL.pure rfl (PO.move (v := .int .i64 ((k + j : Nat) : Int)) he_3) ?_
    refine JL.op rfl (JO.call [] Tryz.call102 rfl (C_markText (k + j) (by omega) (by omega)) rfl (fun _ _ => trivial)) ?_
    rintro _ _ ⟨_, ⟨rfl, rfl⟩, rfl⟩
    refine JL.facts fun hst => ?_
    obtain ⟨hr_7, hr_7b, -⟩ := row_some 0 rfl (by omega) hst
    refine JL.pure rfl (PO.indexAddrV (i := j) Tryz.underlying30 Tryz.sizeOf9 hr_7 hr_7b rfl rfl (by omega)) ?_
    refine JL.op rfl (JO.storeR 0 (vs := [str (mt (k + j))]) (cs' := (((markS l k).take j ++ l.drop j).set j (mt (k + j))).map str) rfl rfl rfl rfl Tryz.sizeOf9 rfl rfl (by decide) (by rw [List.length_map]; rw [mark_len (markS_len l k) hj]; omega) (setS (by rw [mark_len (markS_len l k) hj]; omega))) ?_
    rintro _ _ rfl
    refine JL.nil ?_
    refine JQ.seq ?_
    refine JC.region ?_
    refine JL.pure rfl (PO.move (v := .int .i64 ((k + j : Nat) : Int)) he_3) ?_
    refine JL.pure rfl (PO.add (c := (((k + j) + 1 : Nat) : Int)) rfl rfl (wr (by omega))) ?_
    refine JL.pure rfl (PO.assign (v := .int .i64 (((k + j) + 1 : Nat) : Int)) rfl) ?_
    refine JL.nil ?_
    refine JQ.blockN ?_
    refine JQ.seq ?_
    refine JC.region ?_
    refine JL.pure rfl (PO.move (v := .int .i64 ((j : Nat) : Int)) he_5) ?_
    refine JL.pure rfl (PO.add (c := ((j + 1 : Nat) : Int)) rfl rfl (wr (by omega))) ?_
    refine JL.pure rfl (PO.assign (v := .int .i64 ((j + 1 : Nat) : Int)) rfl) ?_
    refine JL.nil ?_
    refine JQ.again (l.length - (j + 1)) (by omega) ⟨j + 1, by omega, he_2, rfl, he_4, rfl, (by rw [← markS_step hlt]; rfl), rfl⟩
  · skip
    refine JC.condF (congrArg Value.bool (decide_eq_false h_6)) ?_
    refine JC.exit ?_
    refine JQ.thenExit ?_
    refine JQ.thenExit ?_
    refine JQ.blockE ?_
    refine JQ.seq ?_
    refine JC.seq ?_
    refine JC.region ?_
    refine JL.pure rfl (PO.move (v := .int .i64 ((k + j : Nat) : Int)) he_3) ?_
    refine JL.pure rfl (PO.assign (v := .int .i64 ((k + j : Nat) : Int)) rfl) ?_
    refine JL.nil ?_
    refine JQ.seq ?_
    refine JC.ret ?_
    refine Done.one (.inl rfl) rfl (RV.tmp (v := .int .i64 ((k + j : Nat) : Int)) rfl) (List.Sublist.refl _) ?_
    exact ⟨by rw [show j = l.length by omega], by rw [mark_all (markS_len l k) (by omega)]⟩

theorem C_markCellS (a : Option Addr) (c : Nat) (l : List Cell) (k : Nat) (h0 : 0 < k) (h1 : k + 2 * l.length ≤ 100000000) :
    Ct Tryz.prog 44 [.slice a l.length c, .int .i64 ((k : Nat) : Int)] [Res.row (.slice a l.length c) 131 2 l.length (l.flatMap encC)] (fun _ => True) (fun v A' => v = .int .i64 ((k + 2 * l.length : Nat) : Int) ∧ A' = [.row (.slice a l.length c) 131 2 l.length ((markC l k).flatMap encC)]) := by
  refine Ct.intro Tryz.func44 rfl Tryz.ntmps44 (Nat.le_of_ble_eq_true rfl) fun w0 hpre => ?_
  refine JC.seq ?_
  refine JC.region ?_
  refine JL.pure rfl (PO.assign (v := .int .i64 0) rfl) ?_
  refine JL.nil ?_
  refine JQ.seq ?_
  refine JC.seq ?_
  refine JC.seq ?_
  refine JC.region ?_
  refine JL.pure rfl (PO.assign (v := .int .i64 0) rfl) ?_
  refine JL.nil ?_
  refine JQ.seq ?_
  refine JC.block ?_
  refine JC.loop (fun k_ e_ L_ => ∃ j : Nat, (j ≤ l.length) ∧ e_ 0 = .slice a l.length c ∧ e_ 1 = .int .i64 ((k + 2 * j : Nat) : Int) ∧ e_ 4 = .int .i64 0 ∧ e_ 5 = .int .i64 ((j : Nat) : Int) ∧ L_ = [Res.row (.slice a l.length c) 131 2 l.length (((markC l k).take j ++ l.drop j).flatMap encC)] ∧ k_ = l.length - j) _ ⟨0, by omega, rfl, rfl, rfl, rfl, rfl, rfl⟩ ?_
  rintro _ e_1 _ ⟨j, hj, he_2, he_3, he_4, he_5, rfl, rfl⟩
  refine JC.seq ?_
  refine JC.seq ?_
  refine JC.region ?_
  refine JL.pure rfl (PO.move (v := .int .i64 ((j : Nat) : Int)) he_5) ?_
  refine JL.pure rfl (PO.move (v := .slice a l.length c) he_2) ?_
  refine JL.pure rfl (PO.lenV Tryz.underlying34 rfl) ?_
  refine JL.pure rfl (PO.lss rfl rfl) ?_
  refine JL.nil ?_
  refine JQ.seq ?_
  by_cases h_6 : ((j : Nat) : Int) < ((l.length : Nat) : Int)
  · skip
    have hlt : j < l.length := by omega
    refine JC.condT (congrArg Value.bool (decide_eq_true h_6)) ?_
    refine JC.skip ?_
    refine JQ.seq ?_
    refine JC.seq ?_
    refine JC.block ?_
    refine JC.seq ?_
    refine JC.region ?_
    refine JL.pure rfl (PO.move (v := .slice a l.length c) he_2) ?_
    refine JL.pure rfl (PO.move (v := .int .i64 ((j : Nat) : Int)) he_5) ?_
    refine JL.pure rfl (PO.move (v := .int .i64 ((k + 2 * j : Nat) : Int)) he_3) ?_
    refine JL.op rfl (JO.call [] Tryz.call102 rfl (C_markText (k + 2 * j) (by omega) (by omega)) rfl (fun _ _ => trivial)) ?_
    rintro _ _ ⟨_, ⟨rfl, rfl⟩, rfl⟩
    refine JL.facts fun hst => ?_
    obtain ⟨hr_7, hr_7b, -⟩ := row_some 0 rfl (by omega) hst
    refine JL.pure rfl (PO.indexAddrV (i := j) Tryz.underlying34 Tryz.sizeOf131 hr_7 hr_7b rfl rfl (by omega)) ?_
    refine JL.pure rfl (PO.fieldAddrE fo131_0 hr_7 rfl) ?_
    refine JL.op rfl (JO.storeR 0 (vs := [str (mt (k + 2 * j))]) (cs' := (((markC l k).take j ++ l.drop j).set j (mt (k + 2 * j), (((markC l k).take j ++ l.drop j).getD j c0).2)).flatMap encC) rfl rfl rfl rfl Tryz.sizeOf9 rfl rfl (by decide) (by rw [lenC]; (try rw [List.length_set]); rw [mark_len (markC_len l k) hj]; omega) (set1 (by (try rw [List.length_set]); rw [mark_len (markC_len l k) hj]; omega))) ?_
    rintro _ _ rfl
    refine JL.nil ?_
    refine JQ.seq ?_
    refine JC.seq ?_
    refine JC.region ?_
    refine JL.pure rfl (PO.move (v := .int .i64 ((k + 2 * j : Nat) : Int)) he_3) ?_
    refine JL.pure rfl (PO.add (c := (((k + 2 * j) + 1 : Nat) : Int)) rfl rfl (wr (by omega))) ?_
    refine JL.pure rfl (PO.assign (v := .int .i64 (((k + 2 * j) + 1 : Nat) : Int)) rfl) ?_
    refine JL.nil ?_
    refine JQ.seq ?_
    refine JC.seq ?_
    refine JC.region ?_
    refine JL.pure rfl (PO.move (v := .slice a l.length c) he_2) ?_
    refine JL.pure rfl (PO.move (v := .int .i64 ((j : Nat) : Int)) he_5) ?_
    refine JL.pure rfl (PO.move (v := .int .i64 (((k + 2 * j) + 1 : Nat) : Int)) rfl) ?_
    refine JL.op rfl (JO.call [] Tryz.call102 rfl (C_markText ((k + 2 * j) + 1) (by omega) (by omega)) rfl (fun _ _ => trivial)) ?_
    rintro _ _ ⟨_, ⟨rfl, rfl⟩, rfl⟩
    refine JL.pure rfl (PO.indexAddrV (i := j) Tryz.underlying34 Tryz.sizeOf131 hr_7 hr_7b rfl rfl (by omega)) ?_
    refine JL.pure rfl (PO.fieldAddrE fo131_1 hr_7 rfl) ?_
    refine JL.op rfl (JO.storeR 0 (vs := [str (mt ((k + 2 * j) + 1))]) (cs' := ((((markC l k).take j ++ l.drop j).set j (mt (k + 2 * j), (((markC l k).take j ++ l.drop j).getD j c0).2)).set j (((((markC l k).take j ++ l.drop j).set j (mt (k + 2 * j), (((markC l k).take j ++ l.drop j).getD j c0).2)).getD j c0).1, mt ((k + 2 * j) + 1))).flatMap encC) rfl rfl rfl rfl Tryz.sizeOf9 rfl rfl (by decide) (by rw [lenC]; (try rw [List.length_set]); rw [mark_len (markC_len l k) hj]; omega) (set2 (by (try rw [List.length_set]); rw [mark_len (markC_len l k) hj]; omega))) ?_
    rintro _ _ rfl
    refine JL.nil ?_
    refine JQ.seq ?_
    refine JC.region ?_
    refine JL.pure rfl (PO.move (v := .int .i64 (((k + 2 * j) + 1 : Nat) : Int)) rfl) ?_
    refine JL.pure rfl (PO.add (c := ((((k + 2 * j) + 1) + 1 : Nat) : Int)) rfl rfl (wr (by omega))) ?_
    refine JL.pure rfl (PO.assign (v := .int .i64 ((((k + 2 * j) + 1) + 1 : Nat) : Int)) rfl) ?_
    refine JL.nil ?_
    refine JQ.blockN ?_
    refine JQ.seq ?_
    refine JC.region ?_
    refine JL.pure rfl (PO.move (v := .int .i64 ((j : Nat) : Int)) he_5) ?_
    refine JL.pure rfl (PO.add (c := ((j + 1 : Nat) : Int)) rfl rfl (wr (by omega))) ?_
    refine JL.pure rfl (PO.assign (v := .int .i64 ((j + 1 : Nat) : Int)) rfl) ?_
    refine JL.nil ?_
    refine JQ.again (l.length - (j + 1)) (by omega) ⟨j + 1, by omega, he_2, rfl, he_4, rfl, (congrArg (fun q : List Cell => [Res.row (.slice a l.length c) 131 2 l.length (q.flatMap encC)]) ((markC_two (by rw [mark_len (markC_len l k) hj]; omega)).trans (markC_step hlt))), rfl⟩
  · skip
    refine JC.condF (congrArg Value.bool (decide_eq_false h_6)) ?_
    refine JC.exit ?_
    refine JQ.thenExit ?_
    refine JQ.thenExit ?_
    refine JQ.blockE ?_
    refine JQ.seq ?_
    refine JC.seq ?_
    refine JC.region ?_
    refine JL.pure rfl (PO.move (v := .int .i64 ((k + 2 * j : Nat) : Int)) he_3) ?_
    refine JL.pure rfl (PO.assign (v := .int .i64 ((k + 2 * j : Nat) : Int)) rfl) ?_
    refine JL.nil ?_
    refine JQ.seq ?_
    refine JC.ret ?_
    refine Done.one (.inl rfl) rfl (RV.tmp (v := .int .i64 ((k + 2 * j : Nat) : Int)) rfl) (List.Sublist.refl _) ?_
    exact ⟨by rw [show j = l.length by omega], by rw [mark_all (markC_len l k) (by omega)]⟩

theorem C_heldStringS (a : Option Addr) (n c : Nat) (s : List Str) (k : Nat) (hn : s.length = n) (h0 : 0 < k) (h1 : k + 1 * s.length ≤ 100000000) :
    Ct Tryz.prog 53 [.slice a n c, .int .i64 ((k : Nat) : Int)] [] (fun w => Sees w (.slice a n c) 1 s.length (s.map str)) (fun v A' => v = .int .i64 (heldS s k) ∧ A' = []) := by
  refine Ct.intro Tryz.func53 rfl Tryz.ntmps53 (Nat.le_of_ble_eq_true rfl) fun w0 hpre => ?_
  have hs_a : Sees w0 _ _ _ _ := hpre
  refine JC.seq ?_
  refine JC.region ?_
  refine JL.pure rfl (PO.assign (v := .int .i64 0) rfl) ?_
  refine JL.nil ?_
  refine JQ.seq ?_
  refine JC.seq ?_
  refine JC.seq ?_
  refine JC.region ?_
  refine JL.pure rfl (PO.assign (v := .int .i64 0) rfl) ?_
  refine JL.nil ?_
  refine JQ.seq ?_
  refine JC.block ?_
  refine JC.loop (fun k_ e_ L_ => ∃ j : Nat, (j ≤ s.length) ∧ (heldS (s.drop j) (k + j) = heldS s k) ∧ e_ 0 = .slice a n c ∧ e_ 1 = .int .i64 ((k + j : Nat) : Int) ∧ e_ 5 = .int .i64 ((j : Nat) : Int) ∧ L_ = [] ∧ k_ = s.length - j) _ ⟨0, by omega, rfl, rfl, rfl, rfl, rfl, rfl⟩ ?_
  rintro _ e_1 _ ⟨j, hj, hR, he_2, he_3, he_4, rfl, rfl⟩
  refine JC.seq ?_
  refine JC.seq ?_
  refine JC.region ?_
  refine JL.pure rfl (PO.move (v := .int .i64 ((j : Nat) : Int)) he_4) ?_
  refine JL.pure rfl (PO.move (v := .slice a n c) he_2) ?_
  refine JL.pure rfl (PO.lenV Tryz.underlying30 rfl) ?_
  refine JL.pure rfl (PO.lss rfl rfl) ?_
  refine JL.nil ?_
  refine JQ.seq ?_
  by_cases h_5 : ((j : Nat) : Int) < ((n : Nat) : Int)
  · skip
    have hlt : j < s.length := by omega
    refine JC.condT (congrArg Value.bool (decide_eq_true h_5)) ?_
    refine JC.skip ?_
    refine JQ.seq ?_
    refine JC.seq ?_
    refine JC.block ?_
    refine JC.seq ?_
    refine JC.seq ?_
    refine JC.regionA [] 6 mixed (by simp) ?_
    refine JA.takeP 0 rfl (by kernel_rfl) (NP.th (NP.th (NP.bl (NP.th (NP.th (NP.bl (NP.th NP.body))))))) (by kernel_rfl) (by kernel_rfl) rfl (PO.move (v := .slice a n c) he_2) ?_
    refine JA.takeP 1 rfl (by kernel_rfl) (NP.th (NP.th (NP.bl (NP.th (NP.th (NP.bl (NP.th NP.body))))))) (by kernel_rfl) (by kernel_rfl) rfl (PO.move (v := .int .i64 ((j : Nat) : Int)) he_4) ?_
    obtain ⟨hr_6, hr_6b, -⟩ := sees_some hs_a (by omega)
    refine JA.takeP 2 rfl (by kernel_rfl) (NP.th (NP.th (NP.bl (NP.th (NP.th (NP.bl (NP.th NP.body))))))) (by kernel_rfl) (by kernel_rfl) rfl (PO.indexAddrV (i := j) Tryz.underlying30 Tryz.sizeOf9 hr_6 hr_6b rfl rfl (by omega)) ?_
    refine JA.take 3 rfl (by kernel_rfl) (NP.th (NP.th (NP.bl (NP.th (NP.th (NP.bl (NP.th NP.body))))))) (by kernel_rfl) (by kernel_rfl) (by kernel_rfl) rfl (LO.loadS1 (v := str (s.getD j [])) hs_a (fun _ _ => List.not_mem_nil) rfl Tryz.isAgg9 (atS (by omega))) ?_
    refine JA.takeP 4 rfl (by kernel_rfl) (NP.th (NP.th (NP.bl (NP.th (NP.th (NP.bl (NP.th NP.body))))))) (by kernel_rfl) (by kernel_rfl) rfl (PO.move (v := .int .i64 ((k + j : Nat) : Int)) he_3) ?_
    refine JA.one (i := 5) (by kernel_rfl) ?_
    refine JX.op rfl rfl (JO.call [] Tryz.call102 rfl (C_markText (k + j) (by omega) (by omega)) rfl (fun _ _ => trivial)) ?_
    rintro _ _ ⟨_, ⟨rfl, rfl⟩, rfl⟩
    refine ⟨(fun _ h => by cases h), ?_⟩
    refine JA.takeP 6 rfl (by kernel_rfl) (NP.th (NP.th (NP.bl (NP.th (NP.th (NP.bl (NP.th NP.body))))))) (by kernel_rfl) (by kernel_rfl) rfl (PO.neqS rfl rfl) ?_
    refine JA.done (by kernel_rfl) ?_
    refine JQ.seq ?_
    by_cases h_7 : (s.getD j []) = (mt (k + j))
    · skip
      have heq0 := h_7
      refine JC.condF (congrArg Value.bool (congrArg Bool.not (decide_eq_true h_7))) ?_
      refine JC.skip ?_
      refine JQ.seq ?_
      refine JC.region ?_
      refine JL.pure rfl (PO.move (v := .int .i64 ((k + j : Nat) : Int)) he_3) ?_
      refine JL.pure rfl (PO.add (c := (((k + j) + 1 : Nat) : Int)) rfl rfl (wr (by omega))) ?_
      refine JL.pure rfl (PO.assign (v := .int .i64 (((k + j) + 1 : Nat) : Int)) rfl) ?_
      refine JL.nil ?_
      refine JQ.blockN ?_
      refine JQ.seq ?_
      refine JC.region ?_
      refine JL.pure rfl (PO.move (v := .int .i64 ((j : Nat) : Int)) he_4) ?_
      refine JL.pure rfl (PO.add (c := ((j + 1 : Nat) : Int)) rfl rfl (wr (by omega))) ?_
      refine JL.pure rfl (PO.assign (v := .int .i64 ((j + 1 : Nat) : Int)) rfl) ?_
      refine JL.nil ?_
      refine JQ.again (s.length - (j + 1)) (by omega) ⟨j + 1, by omega, (by rw [heldS_step hlt, if_pos heq0] at hR; exact hR), he_2, rfl, rfl, rfl, rfl⟩
    · skip
      have hne0 := h_7
      refine JC.condT (congrArg Value.bool (congrArg Bool.not (decide_eq_false h_7))) ?_
      refine JC.seq ?_
      refine JC.region ?_
      refine JL.pure rfl (PO.assign (v := .int .i64 (-1)) rfl) ?_
      refine JL.nil ?_
      refine JQ.seq ?_
      refine JC.ret ?_
      refine JQ.thenRet ?_
      refine JQ.blockRet ?_
      refine JQ.thenRet ?_
      refine JQ.thenRet ?_
      refine JQ.blockRet ?_
      refine JQ.thenRet ?_
      refine Done.one (.inl rfl) rfl (RV.tmp (v := .int .i64 (-1)) rfl) (List.nil_sublist _) ?_
      refine ⟨?_, rfl⟩
      rw [heldS_step hlt, if_neg hne0] at hR
      rw [← hR]
  · skip
    refine JC.condF (congrArg Value.bool (decide_eq_false h_5)) ?_
    refine JC.exit ?_
    refine JQ.thenExit ?_
    refine JQ.thenExit ?_
    refine JQ.blockE ?_
    refine JQ.seq ?_
    refine JC.seq ?_
    refine JC.region ?_
    refine JL.pure rfl (PO.move (v := .int .i64 ((k + j : Nat) : Int)) he_3) ?_
    refine JL.pure rfl (PO.assign (v := .int .i64 ((k + j : Nat) : Int)) rfl) ?_
    refine JL.nil ?_
    refine JQ.seq ?_
    refine JC.ret ?_
    refine Done.one (.inl rfl) rfl (RV.tmp (v := .int .i64 ((k + j : Nat) : Int)) rfl) (List.nil_sublist _) ?_
    refine ⟨?_, rfl⟩
    rw [List.drop_of_length_le (by omega)] at hR
    rw [← hR]
    rfl

theorem C_heldCellS (a : Option Addr) (n c : Nat) (s : List Cell) (k : Nat) (hn : s.length = n) (h0 : 0 < k) (h1 : k + 2 * s.length ≤ 100000000) :
    Ct Tryz.prog 49 [.slice a n c, .int .i64 ((k : Nat) : Int)] [] (fun w => Sees w (.slice a n c) 2 s.length (s.flatMap encC)) (fun v A' => v = .int .i64 (heldC s k) ∧ A' = []) := by
  refine Ct.intro Tryz.func49 rfl Tryz.ntmps49 (Nat.le_of_ble_eq_true rfl) fun w0 hpre => ?_
  have hs_a : Sees w0 _ _ _ _ := hpre
  refine JC.seq ?_
  refine JC.region ?_
  refine JL.pure rfl (PO.assign (v := .int .i64 0) rfl) ?_
  refine JL.nil ?_
  refine JQ.seq ?_
  refine JC.seq ?_
  refine JC.seq ?_
  refine JC.region ?_
  refine JL.pure rfl (PO.assign (v := .int .i64 0) rfl) ?_
  refine JL.nil ?_
  refine JQ.seq ?_
  refine JC.block ?_
  refine JC.loop (fun k_ e_ L_ => ∃ j : Nat, (j ≤ s.length) ∧ (heldC (s.drop j) (k + 2 * j) = heldC s k) ∧ e_ 0 = .slice a n c ∧ e_ 1 = .int .i64 ((k + 2 * j : Nat) : Int) ∧ e_ 5 = .int .i64 ((j : Nat) : Int) ∧ L_ = [] ∧ k_ = s.length - j) _ ⟨0, by omega, rfl, rfl, rfl, rfl, rfl, rfl⟩ ?_
  rintro _ e_1 _ ⟨j, hj, hR, he_2, he_3, he_4, rfl, rfl⟩
  refine JC.seq ?_
  refine JC.seq ?_
  refine JC.region ?_
  refine JL.pure rfl (PO.move (v := .int .i64 ((j : Nat) : Int)) he_4) ?_
  refine JL.pure rfl (PO.move (v := .slice a n c) he_2) ?_
  refine JL.pure rfl (PO.lenV Tryz.underlying34 rfl) ?_
  refine JL.pure rfl (PO.lss rfl rfl) ?_
  refine JL.nil ?_
  refine JQ.seq ?_
  by_cases h_5 : ((j : Nat) : Int) < ((n : Nat) : Int)
  · skip
    have hlt : j < s.length := by omega
    refine JC.condT (congrArg Value.bool (decide_eq_true h_5)) ?_
    refine JC.skip ?_
    refine JQ.seq ?_
    refine JC.seq ?_
    refine JC.block ?_
    refine JC.seq ?_
    refine JC.seq ?_
    refine JC.regionA [] 7 mixed (by simp) ?_
    refine JA.takeP 0 rfl (by kernel_rfl) (NP.th (NP.th (NP.bl (NP.th (NP.th (NP.bl (NP.th NP.body))))))) (by kernel_rfl) (by kernel_rfl) rfl (PO.move (v := .slice a n c) he_2) ?_
    refine JA.takeP 1 rfl (by kernel_rfl) (NP.th (NP.th (NP.bl (NP.th (NP.th (NP.bl (NP.th NP.body))))))) (by kernel_rfl) (by kernel_rfl) rfl (PO.move (v := .int .i64 ((j : Nat) : Int)) he_4) ?_
    obtain ⟨hr_6, hr_6b, -⟩ := sees_some hs_a (by omega)
    refine JA.takeP 2 rfl (by kernel_rfl) (NP.th (NP.th (NP.bl (NP.th (NP.th (NP.bl (NP.th NP.body))))))) (by kernel_rfl) (by kernel_rfl) rfl (PO.indexAddrV (i := j) Tryz.underlying34 Tryz.sizeOf131 hr_6 hr_6b rfl rfl (by omega)) ?_
    refine JA.takeP 3 rfl (by kernel_rfl) (NP.th (NP.th (NP.bl (NP.th (NP.th (NP.bl (NP.th NP.body))))))) (by kernel_rfl) (by kernel_rfl) rfl (PO.fieldAddrE fo131_0 hr_6 rfl) ?_
    refine JA.take 4 rfl (by kernel_rfl) (NP.th (NP.th (NP.bl (NP.th (NP.th (NP.bl (NP.th NP.body))))))) (by kernel_rfl) (by kernel_rfl) (by kernel_rfl) rfl (LO.loadS1 (v := str ((s.getD j c0).1)) hs_a (fun _ _ => List.not_mem_nil) rfl Tryz.isAgg9 (atC1 (by omega))) ?_
    refine JA.takeP 5 rfl (by kernel_rfl) (NP.th (NP.th (NP.bl (NP.th (NP.th (NP.bl (NP.th NP.body))))))) (by kernel_rfl) (by kernel_rfl) rfl (PO.move (v := .int .i64 ((k + 2 * j : Nat) : Int)) he_3) ?_
    refine JA.one (i := 6) (by kernel_rfl) ?_
    refine JX.op rfl rfl (JO.call [] Tryz.call102 rfl (C_markText (k + 2 * j) (by omega) (by omega)) rfl (fun _ _ => trivial)) ?_
    rintro _ _ ⟨_, ⟨rfl, rfl⟩, rfl⟩
    refine ⟨(fun _ h => by cases h), ?_⟩
    refine JA.takeP 7 rfl (by kernel_rfl) (NP.th (NP.th (NP.bl (NP.th (NP.th (NP.bl (NP.th NP.body))))))) (by kernel_rfl) (by kernel_rfl) rfl (PO.neqS rfl rfl) ?_
    refine JA.done (by kernel_rfl) ?_
    refine JQ.seq ?_
    by_cases h_7 : ((s.getD j c0).1) = (mt (k + 2 * j))
    · skip
      have heq0 := h_7
      refine JC.condF (congrArg Value.bool (congrArg Bool.not (decide_eq_true h_7))) ?_
      refine JC.skip ?_
      refine JQ.seq ?_
      refine JC.seq ?_
      refine JC.region ?_
      refine JL.pure rfl (PO.move (v := .int .i64 ((k + 2 * j : Nat) : Int)) he_3) ?_
      refine JL.pure rfl (PO.add (c := (((k + 2 * j) + 1 : Nat) : Int)) rfl rfl (wr (by omega))) ?_
      refine JL.pure rfl (PO.assign (v := .int .i64 (((k + 2 * j) + 1 : Nat) : Int)) rfl) ?_
      refine JL.nil ?_
      refine JQ.seq ?_
      refine JC.seq ?_
      refine JC.seq ?_
      refine JC.regionA [] 7 mixed (by simp) ?_
      refine JA.takeP 0 rfl (by kernel_rfl) (NP.th (NP.th (NP.bl (NP.th (NP.th (NP.bl (NP.th NP.body))))))) (by kernel_rfl) (by kernel_rfl) rfl (PO.move (v := .slice a n c) he_2) ?_
      refine JA.takeP 1 rfl (by kernel_rfl) (NP.th (NP.th (NP.bl (NP.th (NP.th (NP.bl (NP.th NP.body))))))) (by kernel_rfl) (by kernel_rfl) rfl (PO.move (v := .int .i64 ((j : Nat) : Int)) he_4) ?_
      refine JA.takeP 2 rfl (by kernel_rfl) (NP.th (NP.th (NP.bl (NP.th (NP.th (NP.bl (NP.th NP.body))))))) (by kernel_rfl) (by kernel_rfl) rfl (PO.indexAddrV (i := j) Tryz.underlying34 Tryz.sizeOf131 hr_6 hr_6b rfl rfl (by omega)) ?_
      refine JA.takeP 3 rfl (by kernel_rfl) (NP.th (NP.th (NP.bl (NP.th (NP.th (NP.bl (NP.th NP.body))))))) (by kernel_rfl) (by kernel_rfl) rfl (PO.fieldAddrE fo131_1 hr_6 rfl) ?_
      refine JA.take 4 rfl (by kernel_rfl) (NP.th (NP.th (NP.bl (NP.th (NP.th (NP.bl (NP.th NP.body))))))) (by kernel_rfl) (by kernel_rfl) (by kernel_rfl) rfl (LO.loadS1 (v := str ((s.getD j c0).2)) hs_a (fun _ _ => List.not_mem_nil) rfl Tryz.isAgg9 (atC2 (by omega))) ?_
      refine JA.takeP 5 rfl (by kernel_rfl) (NP.th (NP.th (NP.bl (NP.th (NP.th (NP.bl (NP.th NP.body))))))) (by kernel_rfl) (by kernel_rfl) rfl (PO.move (v := .int .i64 (((k + 2 * j) + 1 : Nat) : Int)) rfl) ?_
      refine JA.one (i := 6) (by kernel_rfl) ?_
      refine JX.op rfl rfl (JO.call [] Tryz.call102 rfl (C_markText ((k + 2 * j) + 1) (by omega) (by omega)) rfl (fun _ _ => trivial)) ?_
      rintro _ _ ⟨_, ⟨rfl, rfl⟩, rfl⟩
      refine ⟨(fun _ h => by cases h), ?_⟩
      refine JA.takeP 7 rfl (by kernel_rfl) (NP.th (NP.th (NP.bl (NP.th (NP.th (NP.bl (NP.th NP.body))))))) (by kernel_rfl) (by kernel_rfl) rfl (PO.neqS rfl rfl) ?_
      refine JA.done (by kernel_rfl) ?_
      refine JQ.seq ?_
      by_cases h_8 : ((s.getD j c0).2) = (mt ((k + 2 * j) + 1))
      · skip
        have heq1 := h_8
        refine JC.condF (congrArg Value.bool (congrArg Bool.not (decide_eq_true h_8))) ?_
        refine JC.skip ?_
        refine JQ.seq ?_
        refine JC.region ?_
        refine JL.pure rfl (PO.move (v := .int .i64 (((k + 2 * j) + 1 : Nat) : Int)) rfl) ?_
        refine JL.pure rfl (PO.add (c := ((((k + 2 * j) + 1) + 1 : Nat) : Int)) rfl rfl (wr (by omega))) ?_
        refine JL.pure rfl (PO.assign (v := .int .i64 ((((k + 2 * j) + 1) + 1 : Nat) : Int)) rfl) ?_
        refine JL.nil ?_
        refine JQ.blockN ?_
        refine JQ.seq ?_
        refine JC.region ?_
        refine JL.pure rfl (PO.move (v := .int .i64 ((j : Nat) : Int)) he_4) ?_
        refine JL.pure rfl (PO.add (c := ((j + 1 : Nat) : Int)) rfl rfl (wr (by omega))) ?_
        refine JL.pure rfl (PO.assign (v := .int .i64 ((j + 1 : Nat) : Int)) rfl) ?_
        refine JL.nil ?_
        refine JQ.again (s.length - (j + 1)) (by omega) ⟨j + 1, by omega, (by rw [heldC_step hlt, if_pos heq0, if_pos heq1] at hR; exact hR), he_2, rfl, rfl, rfl, rfl⟩
      · skip
        have hne1 := h_8
        refine JC.condT (congrArg Value.bool (congrArg Bool.not (decide_eq_false h_8))) ?_
        refine JC.seq ?_
        refine JC.region ?_
        refine JL.pure rfl (PO.assign (v := .int .i64 (-1)) rfl) ?_
        refine JL.nil ?_
        refine JQ.seq ?_
        refine JC.ret ?_
        refine JQ.thenRet ?_
        refine JQ.blockRet ?_
        refine JQ.thenRet ?_
        refine JQ.thenRet ?_
        refine JQ.blockRet ?_
        refine JQ.thenRet ?_
        refine Done.one (.inl rfl) rfl (RV.tmp (v := .int .i64 (-1)) rfl) (List.nil_sublist _) ?_
        refine ⟨?_, rfl⟩
        rw [heldC_step hlt, if_pos heq0, if_neg hne1] at hR
        rw [← hR]
    · skip
      have hne0 := h_7
      refine JC.condT (congrArg Value.bool (congrArg Bool.not (decide_eq_false h_7))) ?_
      refine JC.seq ?_
      refine JC.region ?_
      refine JL.pure rfl (PO.assign (v := .int .i64 (-1)) rfl) ?_
      refine JL.nil ?_
      refine JQ.seq ?_
      refine JC.ret ?_
      refine JQ.thenRet ?_
      refine JQ.blockRet ?_
      refine JQ.thenRet ?_
      refine JQ.thenRet ?_
      refine JQ.blockRet ?_
      refine JQ.thenRet ?_
      refine Done.one (.inl rfl) rfl (RV.tmp (v := .int .i64 (-1)) rfl) (List.nil_sublist _) ?_
      refine ⟨?_, rfl⟩
      rw [heldC_step hlt, if_neg hne0] at hR
      rw [← hR]
  · skip
    refine JC.condF (congrArg Value.bool (decide_eq_false h_5)) ?_
    refine JC.exit ?_
    refine JQ.thenExit ?_
    refine JQ.thenExit ?_
    refine JQ.blockE ?_
    refine JQ.seq ?_
    refine JC.seq ?_
    refine JC.region ?_
    refine JL.pure rfl (PO.move (v := .int .i64 ((k + 2 * j : Nat) : Int)) he_3) ?_
    refine JL.pure rfl (PO.assign (v := .int .i64 ((k + 2 * j : Nat) : Int)) rfl) ?_
    refine JL.nil ?_
    refine JQ.seq ?_
    refine JC.ret ?_
    refine Done.one (.inl rfl) rfl (RV.tmp (v := .int .i64 ((k + 2 * j : Nat) : Int)) rfl) (List.nil_sublist _) ?_
    refine ⟨?_, rfl⟩
    rw [List.drop_of_length_le (by omega)] at hR
    rw [← hR]
    rfl

end Go.Proofs.YtkmpmjficoohkaaGreat
