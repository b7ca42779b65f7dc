/-
  Texts of the walk, joined: what each one proves stands at its theorems.
-/
import Derived.Test.YtkmpmjficoohkaaGreatDatU
import Derived.Lib.MinMax
set_option linter.unusedSimpArgs false
set_option linter.unusedVariables false
set_option linter.unnecessarySimpa false
namespace Go.Proofs.YtkmpmjficoohkaaGreat
open Go Go.RowKit
attribute [local irreducible] JL JC JQ JO LO PO JA JX Ct

theorem Y_within (n lo hi : Int) :
    Ct Tryz.prog 129 [.int .i64 n, .int .i64 lo, .int .i64 hi] [] (fun _ => True) (fun v A' => v = .bool (within lo n hi) ∧ A' = []) := by
  refine Ct.intro Tryz.func129 rfl Tryz.ntmps129 (lb rfl) fun w0 hpre => ?_
  refine jC <| jE <| jA (jG (v := .bool false) rfl) <| jD <| jB <| jC <| jE <| jA (jF (v := iv n) rfl) <| jA (jF (v := iv lo) rfl) <| jA (PO.geq rfl rfl) ?_
  refine jA (jF (v := .bool (decide (lo ≤ n))) rfl) ?_
  by_cases h_1 : lo ≤ n
  · refine jW rfl rfl rfl (cB (dT h_1)) (jY (jh (jF (v := iv n) rfl))) ?_
    rintro _ _ ⟨rfl, rfl⟩
    refine jW rfl rfl rfl (cB (dT h_1)) (jY (jh (jF (v := iv hi) rfl))) ?_
    rintro _ _ ⟨rfl, rfl⟩
    refine jW rfl rfl rfl (cB (dT h_1)) (jY (jh (PO.leq rfl rfl))) ?_
    rintro _ _ ⟨rfl, rfl⟩
    refine jA (jy (v := .bool (decide (n ≤ hi))) (cB (dT h_1)) rfl) <| jA (jG (v := .bool (decide (n ≤ hi))) rfl) <| jD <| jB <| jJ <| jL (.inl rfl) rfl (jM (v := .bool (decide (n ≤ hi))) rfl) (List.nil_sublist _) ?_
    refine ⟨?_, rfl⟩
    unfold within
    simp_all <;> omega
  refine jV (b := false) rfl rfl rfl (cB (dF h_1)) <| jV (b := false) rfl rfl rfl (cB (dF h_1)) <| jV (b := false) rfl rfl rfl (cB (dF h_1)) <| jA (jx (v := .bool false) (cB (dF h_1)) rfl) <| jA (jG (v := .bool false) rfl) <| jD <| jB <| jJ <| jL (.inl rfl) rfl (jM (v := .bool false) rfl) (List.nil_sublist _) ?_
  refine ⟨?_, rfl⟩
  unfold within
  simp_all <;> omega

theorem Y_l01In (n lo hi : Int) :
    Ct Tryz.prog 124 [.int .i64 n, .int .i64 lo, .int .i64 hi] [] (fun _ => True) (fun v A' => v = .bool (within lo n hi) ∧ A' = []) := by
  refine Ct.intro Tryz.func124 rfl Tryz.ntmps124 (lb rfl) fun w0 hpre => ?_
  refine jC <| jE <| jA (jG (v := .bool false) rfl) <| jD <| jB <| jC <| jE <| jA (jF (v := iv n) rfl) <| jA (jF (v := iv lo) rfl) <| jA (PO.geq rfl rfl) ?_
  refine jA (jF (v := .bool (decide (lo ≤ n))) rfl) ?_
  by_cases h_1 : lo ≤ n
  · refine jW rfl rfl rfl (cB (dT h_1)) (jY (jh (jF (v := iv n) rfl))) ?_
    rintro _ _ ⟨rfl, rfl⟩
    refine jW rfl rfl rfl (cB (dT h_1)) (jY (jh (jF (v := iv hi) rfl))) ?_
    rintro _ _ ⟨rfl, rfl⟩
    refine jW rfl rfl rfl (cB (dT h_1)) (jY (jh (PO.leq rfl rfl))) ?_
    rintro _ _ ⟨rfl, rfl⟩
    refine jA (jy (v := .bool (decide (n ≤ hi))) (cB (dT h_1)) rfl) <| jA (jG (v := .bool (decide (n ≤ hi))) rfl) <| jD <| jB <| jJ <| jL (.inl rfl) rfl (jM (v := .bool (decide (n ≤ hi))) rfl) (List.nil_sublist _) ?_
    refine ⟨?_, rfl⟩
    unfold within
    simp_all <;> omega
  refine jV (b := false) rfl rfl rfl (cB (dF h_1)) <| jV (b := false) rfl rfl rfl (cB (dF h_1)) <| jV (b := false) rfl rfl rfl (cB (dF h_1)) <| jA (jx (v := .bool false) (cB (dF h_1)) rfl) <| jA (jG (v := .bool false) rfl) <| jD <| jB <| jJ <| jL (.inl rfl) rfl (jM (v := .bool false) rfl) (List.nil_sublist _) ?_
  refine ⟨?_, rfl⟩
  unfold within
  simp_all <;> omega

theorem Y_implKeyOk (key : Str) (hk : key.length ≤ 9223372036854775807) :
    Ct Tryz.prog 149 [str key] [] (fun _ => True) (fun v A' => v = .bool (keyOk key) ∧ A' = []) := by
  refine Ct.intro Tryz.func149 rfl Tryz.ntmps149 (lb rfl) fun w0 hpre => ?_
  refine jC <| jE <| jA (jG (v := .bool false) rfl) <| jD <| jB <| jC <| jC <| jE <| jA (jF (v := str key) rfl) <| jA (PO.lenS kl rfl) ?_
  refine jA (jF (v := iv 0) rfl) <| jD <| jB <| jZ <| jp (fun k_ e_ L_ => ∃ j : Nat, (j ≤ key.length) ∧ (∀ i, i < j → i < key.length → keyByte (key.getD i 0) = true) ∧ e_ 0 = str key ∧ e_ 5 = iv (key.length : Int) ∧ e_ 6 = nv j ∧ L_ = [] ∧ k_ = key.length - j) _ ⟨0, by omega, (fun i hi => absurd hi (Nat.not_lt_zero i)), rfl, rfl, rfl, rfl, rfl⟩ ?_
  rintro _ e_1 _ ⟨j, hj, hN, he_2, he_3, he_4, rfl, rfl⟩
  refine jC <| jE <| jA (jc he_4 he_3) <| jD <| jB <| jC ?_
  by_cases h_5 : ((j : Nat) : Int) < (key.length : Int)
  · have hlt : j < key.length := by omega
    refine jS (cB (dT h_5)) <| jQ <| jB <| jC <| jZ <| jC <| jE <| jA (jF (v := nv j) he_4) <| jA (jG (v := nv j) rfl) <| jD ?_
    refine jB <| jC <| jE <| jA (jF (v := str key) he_2) <| jA (jF (v := nv j) rfl) <| jA (PO.indexS (i := j) (c := key.getD j 0) kl rfl rfl (getD_some (by omega))) ?_
    have hu_6 := UInt8.toNat_lt (key.getD j 0)
    refine jA (jc rfl rfl) <| jA (jF (v := .bool (decide (((key.getD j 0).toNat : Int) < 33))) rfl) ?_
    by_cases h_7 : ((key.getD j 0).toNat : Int) < 33
    · refine jV (b := true) rfl rfl rfl (cB (dT h_7)) <| jV (b := true) rfl rfl rfl (cB (dT h_7)) <| jV (b := true) rfl rfl rfl (cB (dT h_7)) <| jV (b := true) rfl rfl rfl (cB (dT h_7)) <| jA (jy (v := .bool true) (cB (dT h_7)) rfl) <| jA (jF (v := .bool true) rfl) <| jV (b := true) rfl rfl rfl (cB rfl) <| jV (b := true) rfl rfl rfl (cB rfl) <| jV (b := true) rfl rfl rfl (cB rfl) <| jV (b := true) rfl rfl rfl (cB rfl) ?_
      refine jA (jy (v := .bool true) (cB rfl) rfl) <| jD <| jB <| jS (cB rfl) <| jC <| jE <| jA (jG (v := .bool false) rfl) <| jD <| jB <| jJ ?_
      refine je <| jO <| jO <| je <| jO <| jL (.inl rfl) rfl (jM (v := .bool false) rfl) (List.nil_sublist _) ?_
      refine ⟨?_, rfl⟩
      rw [keyOk_bad (j := j) (by omega) (by clear hN; simp only [keyByte, within, Bool.and_eq_true, Bool.and_eq_false_iff, decide_eq_true_eq, decide_eq_false_iff_not, Bool.not_eq_true', Bool.not_eq_false'] at *; omega)]
    refine jW rfl rfl rfl (cB (dF h_7)) (jY (jh (jF (v := str key) he_2))) ?_
    rintro _ _ ⟨rfl, rfl⟩
    refine jW rfl rfl rfl (cB (dF h_7)) (jY (jh (jF (v := nv j) rfl))) ?_
    rintro _ _ ⟨rfl, rfl⟩
    refine jW rfl rfl rfl (cB (dF h_7)) (jY (jh (PO.indexS (i := j) (c := key.getD j 0) kl rfl rfl (getD_some (by omega))))) ?_
    rintro _ _ ⟨rfl, rfl⟩
    have hu_8 := UInt8.toNat_lt (key.getD j 0)
    refine jW rfl rfl rfl (cB (dF h_7)) (jY (jh (PO.gtr rfl rfl))) ?_
    rintro _ _ ⟨rfl, rfl⟩
    refine jA (jx (v := .bool (decide (126 < ((key.getD j 0).toNat : Int)))) (cB (dF h_7)) rfl) <| jA (jF (v := .bool (decide (126 < ((key.getD j 0).toNat : Int)))) rfl) ?_
    by_cases h_9 : 126 < ((key.getD j 0).toNat : Int)
    · refine jV (b := true) rfl rfl rfl (cB (dT h_9)) <| jV (b := true) rfl rfl rfl (cB (dT h_9)) <| jV (b := true) rfl rfl rfl (cB (dT h_9)) <| jV (b := true) rfl rfl rfl (cB (dT h_9)) <| jA (jy (v := .bool true) (cB (dT h_9)) rfl) <| jD <| jB <| jS (cB rfl) <| jC <| jE ?_
      refine jA (jG (v := .bool false) rfl) <| jD <| jB <| jJ <| je <| jO <| jO <| je <| jO <| jL (.inl rfl) rfl (jM (v := .bool false) rfl) (List.nil_sublist _) ?_
      refine ⟨?_, rfl⟩
      rw [keyOk_bad (j := j) (by omega) (by clear hN; simp only [keyByte, within, Bool.and_eq_true, Bool.and_eq_false_iff, decide_eq_true_eq, decide_eq_false_iff_not, Bool.not_eq_true', Bool.not_eq_false'] at *; omega)]
    refine jW rfl rfl rfl (cB (dF h_9)) (jY (jh (jF (v := str key) he_2))) ?_
    rintro _ _ ⟨rfl, rfl⟩
    refine jW rfl rfl rfl (cB (dF h_9)) (jY (jh (jF (v := nv j) rfl))) ?_
    rintro _ _ ⟨rfl, rfl⟩
    refine jW rfl rfl rfl (cB (dF h_9)) (jY (jh (PO.indexS (i := j) (c := key.getD j 0) kl rfl rfl (getD_some (by omega))))) ?_
    rintro _ _ ⟨rfl, rfl⟩
    have hu_10 := UInt8.toNat_lt (key.getD j 0)
    refine jW rfl rfl rfl (cB (dF h_9)) (jY (jh (PO.eqlI rfl rfl))) ?_
    rintro _ _ ⟨rfl, rfl⟩
    refine jA (jx (v := .bool (decide (((key.getD j 0).toNat : Int) = 42))) (cB (dF h_9)) rfl) <| jD <| jB ?_
    by_cases h_11 : ((key.getD j 0).toNat : Int) = 42
    · refine jS (cB (dT h_11)) <| jC <| jE <| jA (jG (v := .bool false) rfl) <| jD <| jB <| jJ <| je <| jO <| jO ?_
      refine je <| jO <| jL (.inl rfl) rfl (jM (v := .bool false) rfl) (List.nil_sublist _) ?_
      refine ⟨?_, rfl⟩
      rw [keyOk_bad (j := j) (by omega) (by clear hN; simp only [keyByte, within, Bool.and_eq_true, Bool.and_eq_false_iff, decide_eq_true_eq, decide_eq_false_iff_not, Bool.not_eq_true', Bool.not_eq_false'] at *; omega)]
    refine jP (cB (dF h_11)) <| jQ <| jk <| jB <| jE <| jA (ja (c := ((j + 1 : Nat) : Int)) he_4 rfl (wr (by omega))) <| jA (jF (v := iv ((j + 1 : Nat) : Int)) rfl) <| jD ?_
    refine jl (key.length - (j + 1)) (by omega) ⟨j + 1, by omega, (fun i hi hl => if h : i = j then h ▸ (by clear hN; simp only [keyByte, within, Bool.and_eq_true, Bool.and_eq_false_iff, decide_eq_true_eq, decide_eq_false_iff_not, Bool.not_eq_true', Bool.not_eq_false'] at *; omega : keyByte (key.getD j 0) = true) else hN i (by omega) hl), he_2, he_3, rfl, rfl, rfl⟩
  refine jP (cB (dF h_5)) <| jn <| jb <| jb <| jo <| jB <| jC <| jE <| jA (jF (v := str key) he_2) <| jA (PO.lenS kl rfl) ?_
  refine jH rfl (jU [] Tryz.call129 rfl (Y_within (key.length : Int) 1 40) rfl (fun _ _ => trivial)) ?_
  rintro _ _ ⟨_, ⟨rfl, rfl⟩, rfl⟩
  refine jA (jG (v := .bool (within 1 (key.length : Int) 40)) rfl) <| jD <| jB <| jJ <| jL (.inl rfl) rfl (jM (v := .bool (within 1 (key.length : Int) 40)) rfl) (List.nil_sublist _) ?_
  refine ⟨?_, rfl⟩
  rw [keyOk_good (j := j) (by omega) hN]
  exact cB (by unfold within; congr 1 <;> exact decide_eq_decide.2 (by omega))

theorem Y_specKeyOk (key : Str) (hk : key.length ≤ 9223372036854775807) :
    Ct Tryz.prog 145 [str key] [] (fun _ => True) (fun v A' => v = .bool (keyOk key) ∧ A' = []) := by
  refine Ct.intro Tryz.func145 rfl Tryz.ntmps145 (lb rfl) fun w0 hpre => ?_
  refine jC <| jE <| jA (jG (v := .bool false) rfl) <| jD <| jB <| jC <| jC <| jE <| jA (jG (v := iv 0) rfl) <| jD ?_
  refine jB <| jZ <| jp (fun k_ e_ L_ => ∃ j : Nat, (j ≤ key.length) ∧ (∀ i, i < j → i < key.length → keyByte (key.getD i 0) = true) ∧ e_ 0 = str key ∧ e_ 3 = nv j ∧ L_ = [] ∧ k_ = key.length - j) _ ⟨0, by omega, (fun i hi => absurd hi (Nat.not_lt_zero i)), rfl, rfl, rfl, rfl⟩ ?_
  rintro _ e_1 _ ⟨j, hj, hN, he_2, he_3, rfl, rfl⟩
  refine jC <| jC <| jE <| jA (jF (v := nv j) he_3) <| jA (jF (v := str key) he_2) <| jA (PO.lenS kl rfl) <| jA (jc rfl rfl) <| jD <| jB ?_
  by_cases h_4 : ((j : Nat) : Int) < (key.length : Int)
  · have hlt : j < key.length := by omega
    refine jS (cB (dT h_4)) <| jQ <| jB <| jC <| jZ <| jC <| jE <| jA (jF (v := str key) he_2) <| jA (jF (v := nv j) he_3) <| jA (PO.indexS (i := j) (c := key.getD j 0) kl rfl rfl (getD_some (by omega))) ?_
    have hu_5 := UInt8.toNat_lt (key.getD j 0)
    refine jA (PO.convI (c := ((key.getD j 0).toNat : Int)) Tryz.underlying5 Tryz.underlying3 rfl (wr (by omega))) ?_
    refine jH rfl (jU [] Tryz.call124 rfl (Y_l01In ((key.getD j 0).toNat : Int) 33 126) rfl (fun _ _ => trivial)) ?_
    rintro _ _ ⟨_, ⟨rfl, rfl⟩, rfl⟩
    refine jA (kE rfl) <| jA (jF (v := .bool (!(within 33 ((key.getD j 0).toNat : Int) 126))) rfl) ?_
    rcases Bool.eq_false_or_eq_true (within 33 ((key.getD j 0).toNat : Int) 126) with h_6 | h_6
    · refine jW rfl rfl rfl (cB (cN h_6)) (jY (jh (jF (v := str key) he_2))) ?_
      rintro _ _ ⟨rfl, rfl⟩
      refine jW rfl rfl rfl (cB (cN h_6)) (jY (jh (jF (v := nv j) he_3))) ?_
      rintro _ _ ⟨rfl, rfl⟩
      refine jW rfl rfl rfl (cB (cN h_6)) (jY (jh (PO.indexS (i := j) (c := key.getD j 0) kl rfl rfl (getD_some (by omega))))) ?_
      rintro _ _ ⟨rfl, rfl⟩
      have hu_7 := UInt8.toNat_lt (key.getD j 0)
      refine jW rfl rfl rfl (cB (cN h_6)) (jY (jh (PO.eqlI rfl rfl))) ?_
      rintro _ _ ⟨rfl, rfl⟩
      refine jA (jx (v := .bool (decide (((key.getD j 0).toNat : Int) = 42))) (cB (cN h_6)) rfl) <| jD <| jB ?_
      by_cases h_8 : ((key.getD j 0).toNat : Int) = 42
      · refine jS (cB (dT h_8)) <| jC <| jE <| jA (jG (v := .bool false) rfl) <| jD <| jB <| jJ <| je <| jO <| jO ?_
        refine je <| jO <| jL (.inl rfl) rfl (jM (v := .bool false) rfl) (List.nil_sublist _) ?_
        refine ⟨?_, rfl⟩
        rw [keyOk_bad (j := j) (by omega) (by clear hN; simp only [keyByte, within, Bool.and_eq_true, Bool.and_eq_false_iff, decide_eq_true_eq, decide_eq_false_iff_not, Bool.not_eq_true', Bool.not_eq_false'] at *; omega)]
      refine jP (cB (dF h_8)) <| jQ <| jk <| jB <| jE <| jA (jF (v := nv j) he_3) <| jA (ja (c := ((j + 1 : Nat) : Int)) rfl rfl (wr (by omega))) <| jA (jG (v := iv ((j + 1 : Nat) : Int)) rfl) <| jD ?_
      refine jl (key.length - (j + 1)) (by omega) ⟨j + 1, by omega, (fun i hi hl => if h : i = j then h ▸ (by clear hN; simp only [keyByte, within, Bool.and_eq_true, Bool.and_eq_false_iff, decide_eq_true_eq, decide_eq_false_iff_not, Bool.not_eq_true', Bool.not_eq_false'] at *; omega : keyByte (key.getD j 0) = true) else hN i (by omega) hl), he_2, rfl, rfl, rfl⟩
    refine jV (b := true) rfl rfl rfl (cB (cN h_6)) <| jV (b := true) rfl rfl rfl (cB (cN h_6)) <| jV (b := true) rfl rfl rfl (cB (cN h_6)) <| jV (b := true) rfl rfl rfl (cB (cN h_6)) <| jA (jy (v := .bool true) (cB (cN h_6)) rfl) <| jD <| jB <| jS (cB rfl) <| jC <| jE ?_
    refine jA (jG (v := .bool false) rfl) <| jD <| jB <| jJ <| je <| jO <| jO <| je <| jO <| jL (.inl rfl) rfl (jM (v := .bool false) rfl) (List.nil_sublist _) ?_
    refine ⟨?_, rfl⟩
    rw [keyOk_bad (j := j) (by omega) (by clear hN; simp only [keyByte, within, Bool.and_eq_true, Bool.and_eq_false_iff, decide_eq_true_eq, decide_eq_false_iff_not, Bool.not_eq_true', Bool.not_eq_false'] at *; omega)]
  refine jP (cB (dF h_4)) <| jn <| jb <| jb <| jo <| jB <| jC <| jE <| jA (jF (v := str key) he_2) <| jA (PO.lenS kl rfl) ?_
  refine jH rfl (jU [] Tryz.call124 rfl (Y_l01In (key.length : Int) 1 40) rfl (fun _ _ => trivial)) ?_
  rintro _ _ ⟨_, ⟨rfl, rfl⟩, rfl⟩
  refine jA (jG (v := .bool (within 1 (key.length : Int) 40)) rfl) <| jD <| jB <| jJ <| jL (.inl rfl) rfl (jM (v := .bool (within 1 (key.length : Int) 40)) rfl) (List.nil_sublist _) ?_
  refine ⟨?_, rfl⟩
  rw [keyOk_good (j := j) (by omega) hN]
  exact cB (by unfold within; congr 1 <;> exact decide_eq_decide.2 (by omega))

set_option maxRecDepth 4000 in
set_option maxHeartbeats 1000000 in
theorem Y_implStoreOk (a : Option Addr) (c : Nat) (s : List Cell) (hs : okC s) :
    Ct Tryz.prog 127 [.slice a s.length c] [] (fun w_ => Sees w_ (.slice a s.length c) 2 s.length (s.flatMap encC)) (fun v A' => v = .bool (storeOk s) ∧ A' = []) := by
  refine Ct.intro Tryz.func127 rfl Tryz.ntmps127 (lb rfl) fun w0 hpre => ?_
  have hs_a : Sees w0 _ _ _ _ := hpre
  have hsl := hs.1
  refine jC <| jE <| jA (jG (v := .bool false) rfl) <| jD <| jB <| jC <| jC <| jE <| jA (jF (v := .slice a s.length c) rfl) <| jA (jf kh rfl) ?_
  refine jA (jF (v := iv 0) rfl) <| jD <| jB <| jZ <| jp (fun k_ e_ L_ => ∃ j : Nat, (j ≤ s.length) ∧ (∀ i, i < j → storeG s i = true) ∧ e_ 0 = .slice a s.length c ∧ e_ 5 = .slice a s.length c ∧ e_ 6 = nv s.length ∧ e_ 7 = nv j ∧ L_ = [] ∧ k_ = s.length - j) _ ⟨0, by omega, (fun i hi => absurd hi (Nat.not_lt_zero i)), rfl, rfl, rfl, rfl, rfl, rfl⟩ ?_
  rintro _ e_1 _ ⟨j, hj, hN, he_2, he_3, he_4, he_5, rfl, rfl⟩
  refine jC <| jE <| jA (jc he_5 he_4) <| jD <| jB <| jC ?_
  by_cases h_6 : ((j : Nat) : Int) < ((s.length : Nat) : Int)
  · have hlt : j < s.length := by omega
    refine jS (cB (dT h_6)) <| jQ <| jB <| jC <| jZ <| jC <| jE <| jA (jF (v := nv j) he_5) ?_
    obtain ⟨hr_7, hr_7b, -⟩ := sees_some hs_a (by omega)
    refine jA (jX (i := j) kh kr hr_7 hr_7b he_3 he_5 (by omega)) <| jK (kF (vs := [str ((s.getD j c0).1), str ((s.getD j c0).2)]) hs_a nM rfl Tryz.isAgg131 kr (atC (by omega)) rfl (by decide)) ?_
    refine jH rfl (kB (z := .agg #[str [], str []]) (cs := [str [], str []]) Tryz.zeroValue131 rfl) ?_
    rintro _ _ ⟨b_8, rfl, rfl⟩
    refine jA (jG (v := nv j) rfl) ?_
    refine jH rfl (jd 0 (vs := [str ((s.getD j c0).1), str ((s.getD j c0).2)]) (cs' := [str ((s.getD j c0).1), str ((s.getD j c0).2)]) rfl rfl rfl rfl kr rfl rfl (lb rfl) rfl) ?_
    rintro _ _ rfl
    refine jD <| jB <| jC <| kG [bk b_8 131 [str ((s.getD j c0).1), str ((s.getD j c0).2)]] 1000 mixed (by simp) <| jT 0 rfl (jI fo131_0 rfl) <| jw 1 rfl (jR 0 (v := str ((s.getD j c0).1)) rfl rfl kT rfl) <| jq (i := 2) ?_
    refine kA rfl rfl (jU [] Tryz.call149 rfl (Y_implKeyOk ((s.getD j c0).1) (hs.2 j hlt).1) rfl (fun _ _ => trivial)) ?_
    rintro _ _ ⟨_, ⟨rfl, rfl⟩, rfl⟩
    refine ⟨by simp, ?_⟩
    refine jT 3 rfl (kE rfl) <| jT 4 rfl (jF (v := .bool (!(keyOk ((s.getD j c0).1)))) rfl) ?_
    rcases Bool.eq_false_or_eq_true (keyOk ((s.getD j c0).1)) with h_9 | h_9
    · refine jr 5 rfl (by kernel_rfl) (NP.th (NP.bl (NP.th (NP.th (NP.bl (NP.th NP.body)))))) (by kernel_rfl) (by kernel_rfl) rfl rfl rfl (cB (cN h_9)) (jI fo131_1 rfl) <| JA.takeOn 6 rfl (by kernel_rfl) (NP.th (NP.bl (NP.th (NP.th (NP.bl (NP.th NP.body)))))) (by kernel_rfl) (by kernel_rfl) (by kernel_rfl) rfl rfl rfl (cB (cN h_9)) (jR 0 (v := str ((s.getD j c0).2)) rfl rfl kT rfl) <| jr 7 rfl (by kernel_rfl) (NP.th (NP.bl (NP.th (NP.th (NP.bl (NP.th NP.body)))))) (by kernel_rfl) (by kernel_rfl) rfl rfl rfl (cB (cN h_9)) (PO.lenS kl rfl) <| jq (i := 8) ?_
      refine JX.opOnD rfl rfl rfl rfl (cB (cN h_9)) (jU [] Tryz.call129 rfl (Y_within (((s.getD j c0).2).length : Int) 1 60) rfl (fun _ _ => trivial)) ?_
      rintro _ _ ⟨_, ⟨rfl, rfl⟩, rfl⟩
      refine ⟨by simp, ?_⟩
      refine jr 9 rfl (by kernel_rfl) (NP.th (NP.bl (NP.th (NP.th (NP.bl (NP.th NP.body)))))) (by kernel_rfl) (by kernel_rfl) rfl rfl rfl (cB (cN h_9)) (kE rfl) <| jT 10 rfl (jx (v := .bool (!(within 1 (((s.getD j c0).2).length : Int) 60))) (cB (cN h_9)) rfl) <| jT 11 rfl (jF (v := .bool (!(within 1 (((s.getD j c0).2).length : Int) 60))) rfl) ?_
      rcases Bool.eq_false_or_eq_true (within 1 (((s.getD j c0).2).length : Int) 60) with h_10 | h_10
      · refine jr 12 rfl (by kernel_rfl) (NP.th (NP.bl (NP.th (NP.th (NP.bl (NP.th NP.body)))))) (by kernel_rfl) (by kernel_rfl) rfl rfl rfl (cB (cN h_10)) (jF (v := nv j) rfl) <| jr 13 rfl (by kernel_rfl) (NP.th (NP.bl (NP.th (NP.th (NP.bl (NP.th NP.body)))))) (by kernel_rfl) (by kernel_rfl) rfl rfl rfl (cB (cN h_10)) (PO.gtr rfl rfl) <| jr 14 rfl (by kernel_rfl) (NP.th (NP.bl (NP.th (NP.th (NP.bl (NP.th NP.body)))))) (by kernel_rfl) (by kernel_rfl) rfl rfl rfl (cB (cN h_10)) (jF (v := .bool (decide (0 < ((j : Nat) : Int)))) rfl) ?_
        by_cases h_11 : 0 < ((j : Nat) : Int)
        · refine jr 15 rfl (by kernel_rfl) (NP.th (NP.bl (NP.th (NP.th (NP.bl (NP.th NP.body)))))) (by kernel_rfl) (by kernel_rfl) rfl rfl rfl (cB (dT h_11)) (jI fo131_0 rfl) <| JA.takeOn 16 rfl (by kernel_rfl) (NP.th (NP.bl (NP.th (NP.th (NP.bl (NP.th NP.body)))))) (by kernel_rfl) (by kernel_rfl) (by kernel_rfl) rfl rfl rfl (cB (dT h_11)) (jR 0 (v := str ((s.getD j c0).1)) rfl rfl kT rfl) <| jr 17 rfl (by kernel_rfl) (NP.th (NP.bl (NP.th (NP.th (NP.bl (NP.th NP.body)))))) (by kernel_rfl) (by kernel_rfl) rfl rfl rfl (cB (dT h_11)) (jF (v := .slice a s.length c) he_2) <| jr 18 rfl (by kernel_rfl) (NP.th (NP.bl (NP.th (NP.th (NP.bl (NP.th NP.body)))))) (by kernel_rfl) (by kernel_rfl) rfl rfl rfl (cB (dT h_11)) (jF (v := nv j) rfl) <| jr 19 rfl (by kernel_rfl) (NP.th (NP.bl (NP.th (NP.th (NP.bl (NP.th NP.body)))))) (by kernel_rfl) (by kernel_rfl) rfl rfl rfl (cB (dT h_11)) (kM (c := ((j - 1 : Nat) : Int)) rfl rfl (wr (by omega))) <| jr 20 rfl (by kernel_rfl) (NP.th (NP.bl (NP.th (NP.th (NP.bl (NP.th NP.body)))))) (by kernel_rfl) (by kernel_rfl) rfl rfl rfl (cB (dT h_11)) (jX (i := (j - 1)) kh kr hr_7 hr_7b rfl rfl (by omega)) <| jr 21 rfl (by kernel_rfl) (NP.th (NP.bl (NP.th (NP.th (NP.bl (NP.th NP.body)))))) (by kernel_rfl) (by kernel_rfl) rfl rfl rfl (cB (dT h_11)) (ji fo131_0 hr_7 rfl) <| JA.takeOn 22 rfl (by kernel_rfl) (NP.th (NP.bl (NP.th (NP.th (NP.bl (NP.th NP.body)))))) (by kernel_rfl) (by kernel_rfl) (by kernel_rfl) rfl rfl rfl (cB (dT h_11)) (ju (v := str ((s.getD (j - 1) c0).1)) hs_a nM rfl kT (atC1 (by omega))) <| jr 23 rfl (by kernel_rfl) (NP.th (NP.bl (NP.th (NP.th (NP.bl (NP.th NP.body)))))) (by kernel_rfl) (by kernel_rfl) rfl rfl rfl (cB (dT h_11)) (PO.leqS rfl rfl) <| jr 24 rfl (by kernel_rfl) (NP.th (NP.bl (NP.th (NP.th (NP.bl (NP.th NP.body)))))) (by kernel_rfl) (by kernel_rfl) rfl rfl rfl (cB (cN h_10)) (jy (v := .bool (!(Op.bytesLess ((s.getD (j - 1) c0).1) ((s.getD j c0).1)))) (cB (dT h_11)) rfl) ?_
          refine jT 25 rfl (jx (v := .bool (!(Op.bytesLess ((s.getD (j - 1) c0).1) ((s.getD j c0).1)))) (cB (cN h_10)) rfl) <| kH (by kernel_rfl) <| jB ?_
          rcases Bool.eq_false_or_eq_true (Op.bytesLess ((s.getD (j - 1) c0).1) ((s.getD j c0).1)) with h_12 | h_12
          · refine jP (cB (cN h_12)) <| jQ <| jk <| jB <| jE <| jA (ja (c := ((j + 1 : Nat) : Int)) he_5 rfl (wr (by omega))) <| jA (jF (v := iv ((j + 1 : Nat) : Int)) rfl) <| jD <| kL [] (A := []) rfl ?_
            refine jl (s.length - (j + 1)) (by omega) ⟨j + 1, by omega, (fun i hi => if h : i = j then h ▸ (by simp only [storeG, Bool.and_true, Bool.true_and, Bool.and_false, Bool.false_and, Bool.or_true, Bool.true_or, Bool.or_false, Bool.false_or, Bool.not_true, Bool.not_false, ((dT h_6)), (h_9), (h_10), ((dT h_11)), (h_12)]) else hN i (by omega)), he_2, he_3, he_4, rfl, rfl, rfl⟩
          refine jS (cB (cN h_12)) <| jC <| jE <| jA (jG (v := .bool false) rfl) <| jD <| jB <| jJ <| je <| jO <| jO ?_
          refine je <| jO <| jL (.inl rfl) rfl (jM (v := .bool false) rfl) (List.nil_sublist _) ?_
          exact ⟨cB (storeOk_bad hlt (by simp only [storeG, Bool.and_true, Bool.true_and, Bool.and_false, Bool.false_and, Bool.or_true, Bool.true_or, Bool.or_false, Bool.false_or, Bool.not_true, Bool.not_false, ((dT h_6)), (h_9), (h_10), ((dT h_11)), (h_12)])).symm, rfl⟩
        refine jj 15 (b := false) rfl (by kernel_rfl) (NP.th (NP.bl (NP.th (NP.th (NP.bl (NP.th NP.body)))))) (by kernel_rfl) (by kernel_rfl) rfl rfl rfl (cB (dF h_11)) <| jj 16 (b := false) rfl (by kernel_rfl) (NP.th (NP.bl (NP.th (NP.th (NP.bl (NP.th NP.body)))))) (by kernel_rfl) (by kernel_rfl) rfl rfl rfl (cB (dF h_11)) <| jj 17 (b := false) rfl (by kernel_rfl) (NP.th (NP.bl (NP.th (NP.th (NP.bl (NP.th NP.body)))))) (by kernel_rfl) (by kernel_rfl) rfl rfl rfl (cB (dF h_11)) <| jj 18 (b := false) rfl (by kernel_rfl) (NP.th (NP.bl (NP.th (NP.th (NP.bl (NP.th NP.body)))))) (by kernel_rfl) (by kernel_rfl) rfl rfl rfl (cB (dF h_11)) <| jj 19 (b := false) rfl (by kernel_rfl) (NP.th (NP.bl (NP.th (NP.th (NP.bl (NP.th NP.body)))))) (by kernel_rfl) (by kernel_rfl) rfl rfl rfl (cB (dF h_11)) <| jj 20 (b := false) rfl (by kernel_rfl) (NP.th (NP.bl (NP.th (NP.th (NP.bl (NP.th NP.body)))))) (by kernel_rfl) (by kernel_rfl) rfl rfl rfl (cB (dF h_11)) <| jj 21 (b := false) rfl (by kernel_rfl) (NP.th (NP.bl (NP.th (NP.th (NP.bl (NP.th NP.body)))))) (by kernel_rfl) (by kernel_rfl) rfl rfl rfl (cB (dF h_11)) <| jj 22 (b := false) rfl (by kernel_rfl) (NP.th (NP.bl (NP.th (NP.th (NP.bl (NP.th NP.body)))))) (by kernel_rfl) (by kernel_rfl) rfl rfl rfl (cB (dF h_11)) <| jj 23 (b := false) rfl (by kernel_rfl) (NP.th (NP.bl (NP.th (NP.th (NP.bl (NP.th NP.body)))))) (by kernel_rfl) (by kernel_rfl) rfl rfl rfl (cB (dF h_11)) <| jr 24 rfl (by kernel_rfl) (NP.th (NP.bl (NP.th (NP.th (NP.bl (NP.th NP.body)))))) (by kernel_rfl) (by kernel_rfl) rfl rfl rfl (cB (cN h_10)) (jx (v := .bool false) (cB (dF h_11)) rfl) ?_
        refine jT 25 rfl (jx (v := .bool false) (cB (cN h_10)) rfl) <| kH (by kernel_rfl) <| jB <| jP (cB rfl) <| jQ <| jk <| jB <| jE <| jA (ja (c := ((j + 1 : Nat) : Int)) he_5 rfl (wr (by omega))) <| jA (jF (v := iv ((j + 1 : Nat) : Int)) rfl) ?_
        refine jD <| kL [] (A := []) rfl ?_
        refine jl (s.length - (j + 1)) (by omega) ⟨j + 1, by omega, (fun i hi => if h : i = j then h ▸ (by simp only [storeG, Bool.and_true, Bool.true_and, Bool.and_false, Bool.false_and, Bool.or_true, Bool.true_or, Bool.or_false, Bool.false_or, Bool.not_true, Bool.not_false, ((dT h_6)), (h_9), (h_10), ((dF h_11))]) else hN i (by omega)), he_2, he_3, he_4, rfl, rfl, rfl⟩
      refine jj 12 (b := true) rfl (by kernel_rfl) (NP.th (NP.bl (NP.th (NP.th (NP.bl (NP.th NP.body)))))) (by kernel_rfl) (by kernel_rfl) rfl rfl rfl (cB (cN h_10)) <| jj 13 (b := true) rfl (by kernel_rfl) (NP.th (NP.bl (NP.th (NP.th (NP.bl (NP.th NP.body)))))) (by kernel_rfl) (by kernel_rfl) rfl rfl rfl (cB (cN h_10)) <| jj 14 (b := true) rfl (by kernel_rfl) (NP.th (NP.bl (NP.th (NP.th (NP.bl (NP.th NP.body)))))) (by kernel_rfl) (by kernel_rfl) rfl rfl rfl (cB (cN h_10)) <| kC 15 rfl (by kernel_rfl) (NP.th (NP.bl (NP.th (NP.th (NP.bl (NP.th NP.body)))))) (by kernel_rfl) (by kernel_rfl) rfl rfl rfl rfl <| kC 16 rfl (by kernel_rfl) (NP.th (NP.bl (NP.th (NP.th (NP.bl (NP.th NP.body)))))) (by kernel_rfl) (by kernel_rfl) rfl rfl rfl rfl <| kC 17 rfl (by kernel_rfl) (NP.th (NP.bl (NP.th (NP.th (NP.bl (NP.th NP.body)))))) (by kernel_rfl) (by kernel_rfl) rfl rfl rfl rfl <| kC 18 rfl (by kernel_rfl) (NP.th (NP.bl (NP.th (NP.th (NP.bl (NP.th NP.body)))))) (by kernel_rfl) (by kernel_rfl) rfl rfl rfl rfl <| kC 19 rfl (by kernel_rfl) (NP.th (NP.bl (NP.th (NP.th (NP.bl (NP.th NP.body)))))) (by kernel_rfl) (by kernel_rfl) rfl rfl rfl rfl <| kC 20 rfl (by kernel_rfl) (NP.th (NP.bl (NP.th (NP.th (NP.bl (NP.th NP.body)))))) (by kernel_rfl) (by kernel_rfl) rfl rfl rfl rfl <| kC 21 rfl (by kernel_rfl) (NP.th (NP.bl (NP.th (NP.th (NP.bl (NP.th NP.body)))))) (by kernel_rfl) (by kernel_rfl) rfl rfl rfl rfl ?_
      refine kC 22 rfl (by kernel_rfl) (NP.th (NP.bl (NP.th (NP.th (NP.bl (NP.th NP.body)))))) (by kernel_rfl) (by kernel_rfl) rfl rfl rfl rfl <| kC 23 rfl (by kernel_rfl) (NP.th (NP.bl (NP.th (NP.th (NP.bl (NP.th NP.body)))))) (by kernel_rfl) (by kernel_rfl) rfl rfl rfl rfl <| jj 24 (b := true) rfl (by kernel_rfl) (NP.th (NP.bl (NP.th (NP.th (NP.bl (NP.th NP.body)))))) (by kernel_rfl) (by kernel_rfl) rfl rfl rfl (cB (cN h_10)) <| jT 25 rfl (jy (v := .bool true) (cB (cN h_10)) rfl) <| kH (by kernel_rfl) <| jB <| jS (cB rfl) <| jC <| jE <| jA (jG (v := .bool false) rfl) ?_
      refine jD <| jB <| jJ <| je <| jO <| jO <| je <| jO <| jL (.inl rfl) rfl (jM (v := .bool false) rfl) (List.nil_sublist _) ?_
      exact ⟨cB (storeOk_bad hlt (by simp only [storeG, Bool.and_true, Bool.true_and, Bool.and_false, Bool.false_and, Bool.or_true, Bool.true_or, Bool.or_false, Bool.false_or, Bool.not_true, Bool.not_false, ((dT h_6)), (h_9), (h_10)])).symm, rfl⟩
    refine jj 5 (b := true) rfl (by kernel_rfl) (NP.th (NP.bl (NP.th (NP.th (NP.bl (NP.th NP.body)))))) (by kernel_rfl) (by kernel_rfl) rfl rfl rfl (cB (cN h_9)) <| jj 6 (b := true) rfl (by kernel_rfl) (NP.th (NP.bl (NP.th (NP.th (NP.bl (NP.th NP.body)))))) (by kernel_rfl) (by kernel_rfl) rfl rfl rfl (cB (cN h_9)) <| jj 7 (b := true) rfl (by kernel_rfl) (NP.th (NP.bl (NP.th (NP.th (NP.bl (NP.th NP.body)))))) (by kernel_rfl) (by kernel_rfl) rfl rfl rfl (cB (cN h_9)) <| jj 8 (b := true) rfl (by kernel_rfl) (NP.th (NP.bl (NP.th (NP.th (NP.bl (NP.th NP.body)))))) (by kernel_rfl) (by kernel_rfl) rfl rfl rfl (cB (cN h_9)) <| jj 9 (b := true) rfl (by kernel_rfl) (NP.th (NP.bl (NP.th (NP.th (NP.bl (NP.th NP.body)))))) (by kernel_rfl) (by kernel_rfl) rfl rfl rfl (cB (cN h_9)) <| jT 10 rfl (jy (v := .bool true) (cB (cN h_9)) rfl) <| jT 11 rfl (jF (v := .bool true) rfl) <| jj 12 (b := true) rfl (by kernel_rfl) (NP.th (NP.bl (NP.th (NP.th (NP.bl (NP.th NP.body)))))) (by kernel_rfl) (by kernel_rfl) rfl rfl rfl (cB rfl) <| jj 13 (b := true) rfl (by kernel_rfl) (NP.th (NP.bl (NP.th (NP.th (NP.bl (NP.th NP.body)))))) (by kernel_rfl) (by kernel_rfl) rfl rfl rfl (cB rfl) <| jj 14 (b := true) rfl (by kernel_rfl) (NP.th (NP.bl (NP.th (NP.th (NP.bl (NP.th NP.body)))))) (by kernel_rfl) (by kernel_rfl) rfl rfl rfl (cB rfl) ?_
    refine kC 15 rfl (by kernel_rfl) (NP.th (NP.bl (NP.th (NP.th (NP.bl (NP.th NP.body)))))) (by kernel_rfl) (by kernel_rfl) rfl rfl rfl rfl <| kC 16 rfl (by kernel_rfl) (NP.th (NP.bl (NP.th (NP.th (NP.bl (NP.th NP.body)))))) (by kernel_rfl) (by kernel_rfl) rfl rfl rfl rfl <| kC 17 rfl (by kernel_rfl) (NP.th (NP.bl (NP.th (NP.th (NP.bl (NP.th NP.body)))))) (by kernel_rfl) (by kernel_rfl) rfl rfl rfl rfl <| kC 18 rfl (by kernel_rfl) (NP.th (NP.bl (NP.th (NP.th (NP.bl (NP.th NP.body)))))) (by kernel_rfl) (by kernel_rfl) rfl rfl rfl rfl <| kC 19 rfl (by kernel_rfl) (NP.th (NP.bl (NP.th (NP.th (NP.bl (NP.th NP.body)))))) (by kernel_rfl) (by kernel_rfl) rfl rfl rfl rfl <| kC 20 rfl (by kernel_rfl) (NP.th (NP.bl (NP.th (NP.th (NP.bl (NP.th NP.body)))))) (by kernel_rfl) (by kernel_rfl) rfl rfl rfl rfl <| kC 21 rfl (by kernel_rfl) (NP.th (NP.bl (NP.th (NP.th (NP.bl (NP.th NP.body)))))) (by kernel_rfl) (by kernel_rfl) rfl rfl rfl rfl <| kC 22 rfl (by kernel_rfl) (NP.th (NP.bl (NP.th (NP.th (NP.bl (NP.th NP.body)))))) (by kernel_rfl) (by kernel_rfl) rfl rfl rfl rfl <| kC 23 rfl (by kernel_rfl) (NP.th (NP.bl (NP.th (NP.th (NP.bl (NP.th NP.body)))))) (by kernel_rfl) (by kernel_rfl) rfl rfl rfl rfl <| jj 24 (b := true) rfl (by kernel_rfl) (NP.th (NP.bl (NP.th (NP.th (NP.bl (NP.th NP.body)))))) (by kernel_rfl) (by kernel_rfl) rfl rfl rfl (cB rfl) ?_
    refine jT 25 rfl (jy (v := .bool true) (cB rfl) rfl) <| kH (by kernel_rfl) <| jB <| jS (cB rfl) <| jC <| jE <| jA (jG (v := .bool false) rfl) <| jD <| jB <| jJ ?_
    refine je <| jO <| jO <| je <| jO <| jL (.inl rfl) rfl (jM (v := .bool false) rfl) (List.nil_sublist _) ?_
    exact ⟨cB (storeOk_bad hlt (by simp only [storeG, Bool.and_true, Bool.true_and, Bool.and_false, Bool.false_and, Bool.or_true, Bool.true_or, Bool.or_false, Bool.false_or, Bool.not_true, Bool.not_false, ((dT h_6)), (h_9)])).symm, rfl⟩
  refine jP (cB (dF h_6)) <| jn <| jb <| jb <| jo <| jB <| jC <| jE <| jA (jF (v := .slice a s.length c) he_2) <| jA (jf kh rfl) ?_
  refine jA (PO.leq rfl rfl) <| jA (jG (v := .bool (decide (((s.length : Nat) : Int) ≤ 900))) rfl) <| jD <| jB <| jJ <| jL (.inl rfl) rfl (jM (v := .bool (decide (((s.length : Nat) : Int) ≤ 900))) rfl) (List.nil_sublist _) ?_
  exact ⟨cB (storeOk_end (by omega) hN).symm, rfl⟩

set_option maxRecDepth 4000 in
set_option maxHeartbeats 1000000 in
theorem Y_specStoreOk (a : Option Addr) (c : Nat) (s : List Cell) (hs : okC s) :
    Ct Tryz.prog 122 [.slice a s.length c] [] (fun w_ => Sees w_ (.slice a s.length c) 2 s.length (s.flatMap encC)) (fun v A' => v = .bool (storeOk s) ∧ A' = []) := by
  refine Ct.intro Tryz.func122 rfl Tryz.ntmps122 (lb rfl) fun w0 hpre => ?_
  have hs_a : Sees w0 _ _ _ _ := hpre
  have hsl := hs.1
  refine jC <| jE <| jA (jG (v := .bool false) rfl) <| jD <| jB <| jC <| jC <| jE <| jA (jG (v := iv 0) rfl) <| jD ?_
  refine jB <| jZ <| jp (fun k_ e_ L_ => ∃ j : Nat, (j ≤ s.length) ∧ (∀ i, i < j → storeG s i = true) ∧ e_ 0 = .slice a s.length c ∧ e_ 3 = nv j ∧ L_ = [] ∧ k_ = s.length - j) _ ⟨0, by omega, (fun i hi => absurd hi (Nat.not_lt_zero i)), rfl, rfl, rfl, rfl⟩ ?_
  rintro _ e_1 _ ⟨j, hj, hN, he_2, he_3, rfl, rfl⟩
  refine jC <| jC <| jE <| jA (jF (v := nv j) he_3) <| jA (jF (v := .slice a s.length c) he_2) <| jA (jf kh rfl) <| jA (jc rfl rfl) <| jD <| jB ?_
  by_cases h_4 : ((j : Nat) : Int) < ((s.length : Nat) : Int)
  · have hlt : j < s.length := by omega
    refine jS (cB (dT h_4)) <| jQ <| jB <| jC <| jZ <| jC <| kG [] 1000 mixed (by simp) <| jT 0 rfl (jF (v := .slice a s.length c) he_2) <| jT 1 rfl (jF (v := nv j) he_3) ?_
    obtain ⟨hr_5, hr_5b, -⟩ := sees_some hs_a (by omega)
    refine jT 2 rfl (jX (i := j) kh kr hr_5 hr_5b rfl rfl (by omega)) <| jT 3 rfl (ji fo131_0 hr_5 rfl) <| jw 4 rfl (ju (v := str ((s.getD j c0).1)) hs_a nM rfl kT (atC1 (by omega))) <| jq (i := 5) ?_
    refine kA rfl rfl (jU [] Tryz.call145 rfl (Y_specKeyOk ((s.getD j c0).1) (hs.2 j hlt).1) rfl (fun _ _ => trivial)) ?_
    rintro _ _ ⟨_, ⟨rfl, rfl⟩, rfl⟩
    refine ⟨(fun _ h => by cases h), ?_⟩
    refine jT 6 rfl (kE rfl) <| jT 7 rfl (jF (v := .bool (!(keyOk ((s.getD j c0).1)))) rfl) ?_
    rcases Bool.eq_false_or_eq_true (keyOk ((s.getD j c0).1)) with h_6 | h_6
    · refine jr 8 rfl (by kernel_rfl) (NP.th (NP.bl (NP.th (NP.th (NP.bl (NP.th NP.body)))))) (by kernel_rfl) (by kernel_rfl) rfl rfl rfl (cB (cN h_6)) (jF (v := .slice a s.length c) he_2) <| jr 9 rfl (by kernel_rfl) (NP.th (NP.bl (NP.th (NP.th (NP.bl (NP.th NP.body)))))) (by kernel_rfl) (by kernel_rfl) rfl rfl rfl (cB (cN h_6)) (jF (v := nv j) he_3) <| jr 10 rfl (by kernel_rfl) (NP.th (NP.bl (NP.th (NP.th (NP.bl (NP.th NP.body)))))) (by kernel_rfl) (by kernel_rfl) rfl rfl rfl (cB (cN h_6)) (jX (i := j) kh kr hr_5 hr_5b rfl rfl (by omega)) <| jr 11 rfl (by kernel_rfl) (NP.th (NP.bl (NP.th (NP.th (NP.bl (NP.th NP.body)))))) (by kernel_rfl) (by kernel_rfl) rfl rfl rfl (cB (cN h_6)) (ji fo131_1 hr_5 rfl) <| JA.takeOn 12 rfl (by kernel_rfl) (NP.th (NP.bl (NP.th (NP.th (NP.bl (NP.th NP.body)))))) (by kernel_rfl) (by kernel_rfl) (by kernel_rfl) rfl rfl rfl (cB (cN h_6)) (ju (v := str ((s.getD j c0).2)) hs_a nM rfl kT (atC2 (by omega))) <| jr 13 rfl (by kernel_rfl) (NP.th (NP.bl (NP.th (NP.th (NP.bl (NP.th NP.body)))))) (by kernel_rfl) (by kernel_rfl) rfl rfl rfl (cB (cN h_6)) (PO.lenS kl rfl) <| jq (i := 14) ?_
      refine JX.opOnD rfl rfl rfl rfl (cB (cN h_6)) (jU [] Tryz.call124 rfl (Y_l01In (((s.getD j c0).2).length : Int) 1 60) rfl (fun _ _ => trivial)) ?_
      rintro _ _ ⟨_, ⟨rfl, rfl⟩, rfl⟩
      refine ⟨(fun _ h => by cases h), ?_⟩
      refine jr 15 rfl (by kernel_rfl) (NP.th (NP.bl (NP.th (NP.th (NP.bl (NP.th NP.body)))))) (by kernel_rfl) (by kernel_rfl) rfl rfl rfl (cB (cN h_6)) (kE rfl) <| jT 16 rfl (jx (v := .bool (!(within 1 (((s.getD j c0).2).length : Int) 60))) (cB (cN h_6)) rfl) <| jT 17 rfl (jF (v := .bool (!(within 1 (((s.getD j c0).2).length : Int) 60))) rfl) ?_
      rcases Bool.eq_false_or_eq_true (within 1 (((s.getD j c0).2).length : Int) 60) with h_7 | h_7
      · refine jr 18 rfl (by kernel_rfl) (NP.th (NP.bl (NP.th (NP.th (NP.bl (NP.th NP.body)))))) (by kernel_rfl) (by kernel_rfl) rfl rfl rfl (cB (cN h_7)) (jF (v := nv j) he_3) <| jr 19 rfl (by kernel_rfl) (NP.th (NP.bl (NP.th (NP.th (NP.bl (NP.th NP.body)))))) (by kernel_rfl) (by kernel_rfl) rfl rfl rfl (cB (cN h_7)) (PO.gtr rfl rfl) <| jr 20 rfl (by kernel_rfl) (NP.th (NP.bl (NP.th (NP.th (NP.bl (NP.th NP.body)))))) (by kernel_rfl) (by kernel_rfl) rfl rfl rfl (cB (cN h_7)) (jF (v := .bool (decide (0 < ((j : Nat) : Int)))) rfl) ?_
        by_cases h_8 : 0 < ((j : Nat) : Int)
        · refine jr 21 rfl (by kernel_rfl) (NP.th (NP.bl (NP.th (NP.th (NP.bl (NP.th NP.body)))))) (by kernel_rfl) (by kernel_rfl) rfl rfl rfl (cB (dT h_8)) (jF (v := .slice a s.length c) he_2) <| jr 22 rfl (by kernel_rfl) (NP.th (NP.bl (NP.th (NP.th (NP.bl (NP.th NP.body)))))) (by kernel_rfl) (by kernel_rfl) rfl rfl rfl (cB (dT h_8)) (jF (v := nv j) he_3) <| jr 23 rfl (by kernel_rfl) (NP.th (NP.bl (NP.th (NP.th (NP.bl (NP.th NP.body)))))) (by kernel_rfl) (by kernel_rfl) rfl rfl rfl (cB (dT h_8)) (kM (c := ((j - 1 : Nat) : Int)) rfl rfl (wr (by omega))) <| jr 24 rfl (by kernel_rfl) (NP.th (NP.bl (NP.th (NP.th (NP.bl (NP.th NP.body)))))) (by kernel_rfl) (by kernel_rfl) rfl rfl rfl (cB (dT h_8)) (jX (i := (j - 1)) kh kr hr_5 hr_5b rfl rfl (by omega)) <| jr 25 rfl (by kernel_rfl) (NP.th (NP.bl (NP.th (NP.th (NP.bl (NP.th NP.body)))))) (by kernel_rfl) (by kernel_rfl) rfl rfl rfl (cB (dT h_8)) (ji fo131_0 hr_5 rfl) <| JA.takeOn 26 rfl (by kernel_rfl) (NP.th (NP.bl (NP.th (NP.th (NP.bl (NP.th NP.body)))))) (by kernel_rfl) (by kernel_rfl) (by kernel_rfl) rfl rfl rfl (cB (dT h_8)) (ju (v := str ((s.getD (j - 1) c0).1)) hs_a nM rfl kT (atC1 (by omega))) <| jr 27 rfl (by kernel_rfl) (NP.th (NP.bl (NP.th (NP.th (NP.bl (NP.th NP.body)))))) (by kernel_rfl) (by kernel_rfl) rfl rfl rfl (cB (dT h_8)) (jF (v := .slice a s.length c) he_2) <| jr 28 rfl (by kernel_rfl) (NP.th (NP.bl (NP.th (NP.th (NP.bl (NP.th NP.body)))))) (by kernel_rfl) (by kernel_rfl) rfl rfl rfl (cB (dT h_8)) (jF (v := nv j) he_3) <| jr 29 rfl (by kernel_rfl) (NP.th (NP.bl (NP.th (NP.th (NP.bl (NP.th NP.body)))))) (by kernel_rfl) (by kernel_rfl) rfl rfl rfl (cB (dT h_8)) (jX (i := j) kh kr hr_5 hr_5b rfl rfl (by omega)) <| jr 30 rfl (by kernel_rfl) (NP.th (NP.bl (NP.th (NP.th (NP.bl (NP.th NP.body)))))) (by kernel_rfl) (by kernel_rfl) rfl rfl rfl (cB (dT h_8)) (ji fo131_0 hr_5 rfl) ?_
          refine JA.takeOn 31 rfl (by kernel_rfl) (NP.th (NP.bl (NP.th (NP.th (NP.bl (NP.th NP.body)))))) (by kernel_rfl) (by kernel_rfl) (by kernel_rfl) rfl rfl rfl (cB (dT h_8)) (ju (v := str ((s.getD j c0).1)) hs_a nM rfl kT (atC1 (by omega))) <| jr 32 rfl (by kernel_rfl) (NP.th (NP.bl (NP.th (NP.th (NP.bl (NP.th NP.body)))))) (by kernel_rfl) (by kernel_rfl) rfl rfl rfl (cB (dT h_8)) (PO.geqS rfl rfl) <| jr 33 rfl (by kernel_rfl) (NP.th (NP.bl (NP.th (NP.th (NP.bl (NP.th NP.body)))))) (by kernel_rfl) (by kernel_rfl) rfl rfl rfl (cB (cN h_7)) (jy (v := .bool (!(Op.bytesLess ((s.getD (j - 1) c0).1) ((s.getD j c0).1)))) (cB (dT h_8)) rfl) <| jT 34 rfl (jx (v := .bool (!(Op.bytesLess ((s.getD (j - 1) c0).1) ((s.getD j c0).1)))) (cB (cN h_7)) rfl) <| kH (by kernel_rfl) <| jB ?_
          rcases Bool.eq_false_or_eq_true (Op.bytesLess ((s.getD (j - 1) c0).1) ((s.getD j c0).1)) with h_9 | h_9
          · refine jP (cB (cN h_9)) <| jQ <| jk <| jB <| jE <| jA (jF (v := nv j) he_3) <| jA (ja (c := ((j + 1 : Nat) : Int)) rfl rfl (wr (by omega))) <| jA (jG (v := iv ((j + 1 : Nat) : Int)) rfl) <| jD ?_
            refine jl (s.length - (j + 1)) (by omega) ⟨j + 1, by omega, (fun i hi => if h : i = j then h ▸ (by simp only [storeG, Bool.and_true, Bool.true_and, Bool.and_false, Bool.false_and, Bool.or_true, Bool.true_or, Bool.or_false, Bool.false_or, Bool.not_true, Bool.not_false, ((dT h_4)), (h_6), (h_7), ((dT h_8)), (h_9)]) else hN i (by omega)), he_2, rfl, rfl, rfl⟩
          refine jS (cB (cN h_9)) <| jC <| jE <| jA (jG (v := .bool false) rfl) <| jD <| jB <| jJ <| je <| jO <| jO ?_
          refine je <| jO <| jL (.inl rfl) rfl (jM (v := .bool false) rfl) (List.nil_sublist _) ?_
          exact ⟨cB (storeOk_bad hlt (by simp only [storeG, Bool.and_true, Bool.true_and, Bool.and_false, Bool.false_and, Bool.or_true, Bool.true_or, Bool.or_false, Bool.false_or, Bool.not_true, Bool.not_false, ((dT h_4)), (h_6), (h_7), ((dT h_8)), (h_9)])).symm, rfl⟩
        refine jj 21 (b := false) rfl (by kernel_rfl) (NP.th (NP.bl (NP.th (NP.th (NP.bl (NP.th NP.body)))))) (by kernel_rfl) (by kernel_rfl) rfl rfl rfl (cB (dF h_8)) <| jj 22 (b := false) rfl (by kernel_rfl) (NP.th (NP.bl (NP.th (NP.th (NP.bl (NP.th NP.body)))))) (by kernel_rfl) (by kernel_rfl) rfl rfl rfl (cB (dF h_8)) <| jj 23 (b := false) rfl (by kernel_rfl) (NP.th (NP.bl (NP.th (NP.th (NP.bl (NP.th NP.body)))))) (by kernel_rfl) (by kernel_rfl) rfl rfl rfl (cB (dF h_8)) <| jj 24 (b := false) rfl (by kernel_rfl) (NP.th (NP.bl (NP.th (NP.th (NP.bl (NP.th NP.body)))))) (by kernel_rfl) (by kernel_rfl) rfl rfl rfl (cB (dF h_8)) <| jj 25 (b := false) rfl (by kernel_rfl) (NP.th (NP.bl (NP.th (NP.th (NP.bl (NP.th NP.body)))))) (by kernel_rfl) (by kernel_rfl) rfl rfl rfl (cB (dF h_8)) <| jj 26 (b := false) rfl (by kernel_rfl) (NP.th (NP.bl (NP.th (NP.th (NP.bl (NP.th NP.body)))))) (by kernel_rfl) (by kernel_rfl) rfl rfl rfl (cB (dF h_8)) <| jj 27 (b := false) rfl (by kernel_rfl) (NP.th (NP.bl (NP.th (NP.th (NP.bl (NP.th NP.body)))))) (by kernel_rfl) (by kernel_rfl) rfl rfl rfl (cB (dF h_8)) <| jj 28 (b := false) rfl (by kernel_rfl) (NP.th (NP.bl (NP.th (NP.th (NP.bl (NP.th NP.body)))))) (by kernel_rfl) (by kernel_rfl) rfl rfl rfl (cB (dF h_8)) <| jj 29 (b := false) rfl (by kernel_rfl) (NP.th (NP.bl (NP.th (NP.th (NP.bl (NP.th NP.body)))))) (by kernel_rfl) (by kernel_rfl) rfl rfl rfl (cB (dF h_8)) <| jj 30 (b := false) rfl (by kernel_rfl) (NP.th (NP.bl (NP.th (NP.th (NP.bl (NP.th NP.body)))))) (by kernel_rfl) (by kernel_rfl) rfl rfl rfl (cB (dF h_8)) ?_
        refine jj 31 (b := false) rfl (by kernel_rfl) (NP.th (NP.bl (NP.th (NP.th (NP.bl (NP.th NP.body)))))) (by kernel_rfl) (by kernel_rfl) rfl rfl rfl (cB (dF h_8)) <| jj 32 (b := false) rfl (by kernel_rfl) (NP.th (NP.bl (NP.th (NP.th (NP.bl (NP.th NP.body)))))) (by kernel_rfl) (by kernel_rfl) rfl rfl rfl (cB (dF h_8)) <| jr 33 rfl (by kernel_rfl) (NP.th (NP.bl (NP.th (NP.th (NP.bl (NP.th NP.body)))))) (by kernel_rfl) (by kernel_rfl) rfl rfl rfl (cB (cN h_7)) (jx (v := .bool false) (cB (dF h_8)) rfl) <| jT 34 rfl (jx (v := .bool false) (cB (cN h_7)) rfl) <| kH (by kernel_rfl) <| jB <| jP (cB rfl) <| jQ <| jk <| jB ?_
        refine jE <| jA (jF (v := nv j) he_3) <| jA (ja (c := ((j + 1 : Nat) : Int)) rfl rfl (wr (by omega))) <| jA (jG (v := iv ((j + 1 : Nat) : Int)) rfl) <| jD ?_
        refine jl (s.length - (j + 1)) (by omega) ⟨j + 1, by omega, (fun i hi => if h : i = j then h ▸ (by simp only [storeG, Bool.and_true, Bool.true_and, Bool.and_false, Bool.false_and, Bool.or_true, Bool.true_or, Bool.or_false, Bool.false_or, Bool.not_true, Bool.not_false, ((dT h_4)), (h_6), (h_7), ((dF h_8))]) else hN i (by omega)), he_2, rfl, rfl, rfl⟩
      refine jj 18 (b := true) rfl (by kernel_rfl) (NP.th (NP.bl (NP.th (NP.th (NP.bl (NP.th NP.body)))))) (by kernel_rfl) (by kernel_rfl) rfl rfl rfl (cB (cN h_7)) <| jj 19 (b := true) rfl (by kernel_rfl) (NP.th (NP.bl (NP.th (NP.th (NP.bl (NP.th NP.body)))))) (by kernel_rfl) (by kernel_rfl) rfl rfl rfl (cB (cN h_7)) <| jj 20 (b := true) rfl (by kernel_rfl) (NP.th (NP.bl (NP.th (NP.th (NP.bl (NP.th NP.body)))))) (by kernel_rfl) (by kernel_rfl) rfl rfl rfl (cB (cN h_7)) <| kC 21 rfl (by kernel_rfl) (NP.th (NP.bl (NP.th (NP.th (NP.bl (NP.th NP.body)))))) (by kernel_rfl) (by kernel_rfl) rfl rfl rfl rfl <| kC 22 rfl (by kernel_rfl) (NP.th (NP.bl (NP.th (NP.th (NP.bl (NP.th NP.body)))))) (by kernel_rfl) (by kernel_rfl) rfl rfl rfl rfl <| kC 23 rfl (by kernel_rfl) (NP.th (NP.bl (NP.th (NP.th (NP.bl (NP.th NP.body)))))) (by kernel_rfl) (by kernel_rfl) rfl rfl rfl rfl <| kC 24 rfl (by kernel_rfl) (NP.th (NP.bl (NP.th (NP.th (NP.bl (NP.th NP.body)))))) (by kernel_rfl) (by kernel_rfl) rfl rfl rfl rfl <| kC 25 rfl (by kernel_rfl) (NP.th (NP.bl (NP.th (NP.th (NP.bl (NP.th NP.body)))))) (by kernel_rfl) (by kernel_rfl) rfl rfl rfl rfl <| kC 26 rfl (by kernel_rfl) (NP.th (NP.bl (NP.th (NP.th (NP.bl (NP.th NP.body)))))) (by kernel_rfl) (by kernel_rfl) rfl rfl rfl rfl <| kC 27 rfl (by kernel_rfl) (NP.th (NP.bl (NP.th (NP.th (NP.bl (NP.th NP.body)))))) (by kernel_rfl) (by kernel_rfl) rfl rfl rfl rfl ?_
      refine kC 28 rfl (by kernel_rfl) (NP.th (NP.bl (NP.th (NP.th (NP.bl (NP.th NP.body)))))) (by kernel_rfl) (by kernel_rfl) rfl rfl rfl rfl <| kC 29 rfl (by kernel_rfl) (NP.th (NP.bl (NP.th (NP.th (NP.bl (NP.th NP.body)))))) (by kernel_rfl) (by kernel_rfl) rfl rfl rfl rfl <| kC 30 rfl (by kernel_rfl) (NP.th (NP.bl (NP.th (NP.th (NP.bl (NP.th NP.body)))))) (by kernel_rfl) (by kernel_rfl) rfl rfl rfl rfl <| kC 31 rfl (by kernel_rfl) (NP.th (NP.bl (NP.th (NP.th (NP.bl (NP.th NP.body)))))) (by kernel_rfl) (by kernel_rfl) rfl rfl rfl rfl <| kC 32 rfl (by kernel_rfl) (NP.th (NP.bl (NP.th (NP.th (NP.bl (NP.th NP.body)))))) (by kernel_rfl) (by kernel_rfl) rfl rfl rfl rfl <| jj 33 (b := true) rfl (by kernel_rfl) (NP.th (NP.bl (NP.th (NP.th (NP.bl (NP.th NP.body)))))) (by kernel_rfl) (by kernel_rfl) rfl rfl rfl (cB (cN h_7)) <| jT 34 rfl (jy (v := .bool true) (cB (cN h_7)) rfl) <| kH (by kernel_rfl) <| jB <| jS (cB rfl) ?_
      refine jC <| jE <| jA (jG (v := .bool false) rfl) <| jD <| jB <| jJ <| je <| jO <| jO <| je ?_
      refine jO <| jL (.inl rfl) rfl (jM (v := .bool false) rfl) (List.nil_sublist _) ?_
      exact ⟨cB (storeOk_bad hlt (by simp only [storeG, Bool.and_true, Bool.true_and, Bool.and_false, Bool.false_and, Bool.or_true, Bool.true_or, Bool.or_false, Bool.false_or, Bool.not_true, Bool.not_false, ((dT h_4)), (h_6), (h_7)])).symm, rfl⟩
    refine jj 8 (b := true) rfl (by kernel_rfl) (NP.th (NP.bl (NP.th (NP.th (NP.bl (NP.th NP.body)))))) (by kernel_rfl) (by kernel_rfl) rfl rfl rfl (cB (cN h_6)) <| jj 9 (b := true) rfl (by kernel_rfl) (NP.th (NP.bl (NP.th (NP.th (NP.bl (NP.th NP.body)))))) (by kernel_rfl) (by kernel_rfl) rfl rfl rfl (cB (cN h_6)) <| jj 10 (b := true) rfl (by kernel_rfl) (NP.th (NP.bl (NP.th (NP.th (NP.bl (NP.th NP.body)))))) (by kernel_rfl) (by kernel_rfl) rfl rfl rfl (cB (cN h_6)) <| jj 11 (b := true) rfl (by kernel_rfl) (NP.th (NP.bl (NP.th (NP.th (NP.bl (NP.th NP.body)))))) (by kernel_rfl) (by kernel_rfl) rfl rfl rfl (cB (cN h_6)) <| jj 12 (b := true) rfl (by kernel_rfl) (NP.th (NP.bl (NP.th (NP.th (NP.bl (NP.th NP.body)))))) (by kernel_rfl) (by kernel_rfl) rfl rfl rfl (cB (cN h_6)) <| jj 13 (b := true) rfl (by kernel_rfl) (NP.th (NP.bl (NP.th (NP.th (NP.bl (NP.th NP.body)))))) (by kernel_rfl) (by kernel_rfl) rfl rfl rfl (cB (cN h_6)) <| jj 14 (b := true) rfl (by kernel_rfl) (NP.th (NP.bl (NP.th (NP.th (NP.bl (NP.th NP.body)))))) (by kernel_rfl) (by kernel_rfl) rfl rfl rfl (cB (cN h_6)) <| jj 15 (b := true) rfl (by kernel_rfl) (NP.th (NP.bl (NP.th (NP.th (NP.bl (NP.th NP.body)))))) (by kernel_rfl) (by kernel_rfl) rfl rfl rfl (cB (cN h_6)) <| jT 16 rfl (jy (v := .bool true) (cB (cN h_6)) rfl) <| jT 17 rfl (jF (v := .bool true) rfl) ?_
    refine jj 18 (b := true) rfl (by kernel_rfl) (NP.th (NP.bl (NP.th (NP.th (NP.bl (NP.th NP.body)))))) (by kernel_rfl) (by kernel_rfl) rfl rfl rfl (cB rfl) <| jj 19 (b := true) rfl (by kernel_rfl) (NP.th (NP.bl (NP.th (NP.th (NP.bl (NP.th NP.body)))))) (by kernel_rfl) (by kernel_rfl) rfl rfl rfl (cB rfl) <| jj 20 (b := true) rfl (by kernel_rfl) (NP.th (NP.bl (NP.th (NP.th (NP.bl (NP.th NP.body)))))) (by kernel_rfl) (by kernel_rfl) rfl rfl rfl (cB rfl) <| kC 21 rfl (by kernel_rfl) (NP.th (NP.bl (NP.th (NP.th (NP.bl (NP.th NP.body)))))) (by kernel_rfl) (by kernel_rfl) rfl rfl rfl rfl <| kC 22 rfl (by kernel_rfl) (NP.th (NP.bl (NP.th (NP.th (NP.bl (NP.th NP.body)))))) (by kernel_rfl) (by kernel_rfl) rfl rfl rfl rfl <| kC 23 rfl (by kernel_rfl) (NP.th (NP.bl (NP.th (NP.th (NP.bl (NP.th NP.body)))))) (by kernel_rfl) (by kernel_rfl) rfl rfl rfl rfl <| kC 24 rfl (by kernel_rfl) (NP.th (NP.bl (NP.th (NP.th (NP.bl (NP.th NP.body)))))) (by kernel_rfl) (by kernel_rfl) rfl rfl rfl rfl <| kC 25 rfl (by kernel_rfl) (NP.th (NP.bl (NP.th (NP.th (NP.bl (NP.th NP.body)))))) (by kernel_rfl) (by kernel_rfl) rfl rfl rfl rfl <| kC 26 rfl (by kernel_rfl) (NP.th (NP.bl (NP.th (NP.th (NP.bl (NP.th NP.body)))))) (by kernel_rfl) (by kernel_rfl) rfl rfl rfl rfl <| kC 27 rfl (by kernel_rfl) (NP.th (NP.bl (NP.th (NP.th (NP.bl (NP.th NP.body)))))) (by kernel_rfl) (by kernel_rfl) rfl rfl rfl rfl ?_
    refine kC 28 rfl (by kernel_rfl) (NP.th (NP.bl (NP.th (NP.th (NP.bl (NP.th NP.body)))))) (by kernel_rfl) (by kernel_rfl) rfl rfl rfl rfl <| kC 29 rfl (by kernel_rfl) (NP.th (NP.bl (NP.th (NP.th (NP.bl (NP.th NP.body)))))) (by kernel_rfl) (by kernel_rfl) rfl rfl rfl rfl <| kC 30 rfl (by kernel_rfl) (NP.th (NP.bl (NP.th (NP.th (NP.bl (NP.th NP.body)))))) (by kernel_rfl) (by kernel_rfl) rfl rfl rfl rfl <| kC 31 rfl (by kernel_rfl) (NP.th (NP.bl (NP.th (NP.th (NP.bl (NP.th NP.body)))))) (by kernel_rfl) (by kernel_rfl) rfl rfl rfl rfl <| kC 32 rfl (by kernel_rfl) (NP.th (NP.bl (NP.th (NP.th (NP.bl (NP.th NP.body)))))) (by kernel_rfl) (by kernel_rfl) rfl rfl rfl rfl <| jj 33 (b := true) rfl (by kernel_rfl) (NP.th (NP.bl (NP.th (NP.th (NP.bl (NP.th NP.body)))))) (by kernel_rfl) (by kernel_rfl) rfl rfl rfl (cB rfl) <| jT 34 rfl (jy (v := .bool true) (cB rfl) rfl) <| kH (by kernel_rfl) <| jB <| jS (cB rfl) ?_
    refine jC <| jE <| jA (jG (v := .bool false) rfl) <| jD <| jB <| jJ <| je <| jO <| jO <| je ?_
    refine jO <| jL (.inl rfl) rfl (jM (v := .bool false) rfl) (List.nil_sublist _) ?_
    exact ⟨cB (storeOk_bad hlt (by simp only [storeG, Bool.and_true, Bool.true_and, Bool.and_false, Bool.false_and, Bool.or_true, Bool.true_or, Bool.or_false, Bool.false_or, Bool.not_true, Bool.not_false, ((dT h_4)), (h_6)])).symm, rfl⟩
  refine jP (cB (dF h_4)) <| jn <| jb <| jb <| jo <| jB <| jC <| jE <| jA (jF (v := .slice a s.length c) he_2) <| jA (jf kh rfl) ?_
  refine jA (PO.leq rfl rfl) <| jA (jG (v := .bool (decide (((s.length : Nat) : Int) ≤ 900))) rfl) <| jD <| jB <| jJ <| jL (.inl rfl) rfl (jM (v := .bool (decide (((s.length : Nat) : Int) ≤ 900))) rfl) (List.nil_sublist _) ?_
  exact ⟨cB (storeOk_end (by omega) hN).symm, rfl⟩

theorem Y_implJournalOk (t : Str) (js : Int) (hl : t.length ≤ 9223372036854775807) :
    Ct Tryz.prog 150 [.agg #[str t, .int .i64 js]] [] (fun _ => True) (fun v A' => v = .bool (jourOk t js) ∧ A' = []) := by
  refine Ct.intro Tryz.func150 rfl Tryz.ntmps150 (lb rfl) fun w0 hpre => ?_
  refine jC <| jE ?_
  refine jH rfl (jm (cs := [str t, iv js]) rfl rfl) ?_
  rintro _ _ ⟨b_1, rfl, rfl⟩
  refine jA (jG (v := .bool false) rfl) <| jD <| jB <| jC <| jE <| jA (jI fo37_0 rfl) <| jK (jR 0 (v := str t) rfl rfl kT rfl) <| jA (PO.lenS kl rfl) <| jA (PO.leq rfl rfl) <| jA (jF (v := .bool (decide ((t.length : Int) ≤ 20000))) rfl) ?_
  by_cases h_2 : (t.length : Int) ≤ 20000
  · refine jW rfl rfl rfl (cB (dT h_2)) (jY (jh (jI fo37_1 rfl))) ?_
    rintro _ _ ⟨rfl, rfl⟩
    refine jW rfl rfl rfl (cB (dT h_2)) (jY (jR 0 (v := iv js) rfl rfl kR rfl)) ?_
    rintro _ _ ⟨rfl, rfl⟩
    refine jW rfl rfl rfl (cB (dT h_2)) (jY (jh (jI fo37_0 rfl))) ?_
    rintro _ _ ⟨rfl, rfl⟩
    refine jW rfl rfl rfl (cB (dT h_2)) (jY (jR 0 (v := str t) rfl rfl kT rfl)) ?_
    rintro _ _ ⟨rfl, rfl⟩
    refine jW rfl rfl rfl (cB (dT h_2)) (jY (jh (PO.lenS kl rfl))) ?_
    rintro _ _ ⟨rfl, rfl⟩
    refine jW rfl rfl rfl (cB (dT h_2)) (jU [] Tryz.call129 rfl (Y_within js 0 (t.length : Int)) rfl (fun _ _ => trivial)) ?_
    rintro _ _ ⟨_, ⟨rfl, rfl⟩, rfl⟩
    refine jA (jy (v := .bool (within 0 js (t.length : Int))) (cB (dT h_2)) rfl) <| jA (jG (v := .bool (within 0 js (t.length : Int))) rfl) <| jD <| jB <| jJ <| jL (.inl rfl) rfl (jM (v := .bool (within 0 js (t.length : Int))) rfl) (List.nil_sublist _) ?_
    exact ⟨cB (by simp only [jourOk, Bool.and_true, Bool.true_and, Bool.and_false, Bool.false_and, Bool.or_true, Bool.true_or, Bool.or_false, Bool.false_or, Bool.not_true, Bool.not_false, ((dT h_2))]), rfl⟩
  refine jV (b := false) rfl rfl rfl (cB (dF h_2)) <| jV (b := false) rfl rfl rfl (cB (dF h_2)) <| jV (b := false) rfl rfl rfl (cB (dF h_2)) <| jV (b := false) rfl rfl rfl (cB (dF h_2)) <| jV (b := false) rfl rfl rfl (cB (dF h_2)) <| jV (b := false) rfl rfl rfl (cB (dF h_2)) <| jA (jx (v := .bool false) (cB (dF h_2)) rfl) <| jA (jG (v := .bool false) rfl) <| jD <| jB ?_
  refine jJ <| jL (.inl rfl) rfl (jM (v := .bool false) rfl) (List.nil_sublist _) ?_
  exact ⟨cB (by simp only [jourOk, Bool.and_true, Bool.true_and, Bool.and_false, Bool.false_and, Bool.or_true, Bool.true_or, Bool.or_false, Bool.false_or, Bool.not_true, Bool.not_false, ((dF h_2))]), rfl⟩

set_option maxRecDepth 4000 in
set_option maxHeartbeats 1000000 in
theorem Y_implDiskOk (d : DX) (hz : d.dat.okz) (hl : d.l.length ≤ 1000000000) :
    Ct Tryz.prog 128 [.agg #[.slice d.a d.l.length d.c, str d.jt, .int .i64 d.js]] [] (fun w => SeesA w (rdsD d)) (fun v A' => v = .bool (diskOk d.dat) ∧ A' = []) := by
  refine Ct.intro Tryz.func128 rfl Tryz.ntmps128 (lb rfl) fun w0 hpre => ?_
  have hjl := hz.k2
  have hs_1 : Sees w0 (.slice d.a d.l.length d.c) 3 d.l.length (d.l.flatMap encO) := (hpre).head
  have hi_2 : SeesA w0 (d.l.flatMap rdsO) := (hpre).tail
  refine jC <| jE ?_
  refine jH rfl (jm (cs := [.slice d.a d.l.length d.c, str d.jt, iv d.js]) rfl rfl) ?_
  rintro _ _ ⟨b_3, rfl, rfl⟩
  refine jA (jG (v := .bool false) rfl) <| jD <| jB <| jC <| jC <| jE <| jA (jI fo39_0 rfl) <| jK (jR 0 (v := .slice d.a d.l.length d.c) rfl rfl ks rfl) <| jA (jf kY rfl) <| jA (jz rfl rfl) ?_
  refine jA (jF (v := .bool (!(decide (((d.l.length : Nat) : Int) = 2)))) rfl) ?_
  by_cases h_4 : ((d.l.length : Nat) : Int) = 2
  · refine jW rfl rfl rfl (cB (cN (dT h_4))) (jY (jh (jI fo39_0 rfl))) ?_
    rintro _ _ ⟨rfl, rfl⟩
    refine jW rfl rfl rfl (cB (cN (dT h_4))) (jY (jR 0 (v := .slice d.a d.l.length d.c) rfl rfl ks rfl)) ?_
    rintro _ _ ⟨rfl, rfl⟩
    obtain ⟨hr_5, hr_5b, -⟩ := sees_some hs_1 (by omega)
    refine jW rfl rfl rfl (cB (cN (dT h_4))) (jY (jh (jX (i := 0) kY kd hr_5 hr_5b rfl rfl (by omega)))) ?_
    rintro _ _ ⟨rfl, rfl⟩
    refine jW rfl rfl rfl (cB (cN (dT h_4))) (jY (jh (ji fo173_2 hr_5 rfl))) ?_
    rintro _ _ ⟨rfl, rfl⟩
    have hi_6 := SeesA.elem hi_2 o0 (show 0 < d.l.length by omega)
    have hs_7 := seesO hi_6
    refine jW rfl rfl rfl (cB (cN (dT h_4))) (jY (ju (v := .bool ((d.l.getD 0 o0).t.whole)) hs_1 nM rfl ky (flat_at encO_len o0 d.l 0 2 (by omega) (by decide)))) ?_
    rintro _ _ ⟨rfl, rfl⟩
    refine jW rfl rfl rfl (cB (cN (dT h_4))) (jY (jh (kE rfl))) ?_
    rintro _ _ ⟨rfl, rfl⟩
    refine jW rfl rfl rfl (cB (cN (dT h_4))) (jY (jh (jF (v := .bool (!((d.l.getD 0 o0).t.whole))) rfl))) ?_
    rintro _ _ ⟨rfl, rfl⟩
    rcases Bool.eq_false_or_eq_true ((d.l.getD 0 o0).t.whole) with h_8 | h_8
    · refine jV (b := false) rfl rfl rfl (cB (cN h_8)) <| jV (b := false) rfl rfl rfl (cB (cN h_8)) <| jV (b := false) rfl rfl rfl (cB (cN h_8)) <| jV (b := false) rfl rfl rfl (cB (cN h_8)) <| jV (b := false) rfl rfl rfl (cB (cN h_8)) <| jV (b := false) rfl rfl rfl (cB (cN h_8)) <| jW rfl rfl rfl (cB (cN (dT h_4))) (jY (jh (jx (v := .bool false) (cB (cN h_8)) rfl))) ?_
      rintro _ _ ⟨rfl, rfl⟩
      refine jA (jx (v := .bool false) (cB (cN (dT h_4))) rfl) <| jD <| jB <| jP (cB rfl) <| jQ <| jB <| jC <| jC <| jE <| jA (jI fo39_0 rfl) ?_
      refine jK (jR 0 (v := .slice d.a d.l.length d.c) rfl rfl ks rfl) <| jA (jf kY rfl) <| jA (jF (v := iv 0) rfl) <| jD <| jB <| jZ <| jp (fun k_ e_ L_ => ∃ j : Nat, (j ≤ d.l.length) ∧ (∀ i, i < j → slotG (d.l.getD i o0).t = true) ∧ e_ 1 = .pointer (some ⟨b_3, 0, none⟩) ∧ e_ 26 = .slice d.a d.l.length d.c ∧ e_ 27 = nv d.l.length ∧ e_ 28 = nv j ∧ L_ = [bk b_3 39 [.slice d.a d.l.length d.c, str d.jt, iv d.js]] ∧ k_ = d.l.length - j) _ ⟨0, by omega, (fun i hi => absurd hi (Nat.not_lt_zero i)), rfl, rfl, rfl, rfl, rfl, rfl⟩ ?_
      rintro _ e_9 _ ⟨j, hj, hN, he_10, he_11, he_12, he_13, rfl, rfl⟩
      refine jC <| jE <| jA (jc he_13 he_12) <| jD <| jB <| jC ?_
      by_cases h_14 : ((j : Nat) : Int) < ((d.l.length : Nat) : Int)
      · have hlt : j < d.l.length := by omega
        refine jS (cB (dT h_14)) <| jQ <| jB <| jC <| jZ <| jC <| jE <| jA (jX (i := j) kY kd hr_5 hr_5b he_11 he_13 (by omega)) ?_
        have hi_15 := SeesA.elem hi_2 o0 (show j < d.l.length by omega)
        have hs_16 := seesO hi_15
        refine jK (kF (vs := [iv ((d.l.getD j o0).t.seq), .slice ((d.l.getD j o0).x.a0) ((d.l.getD j o0).t.cells.length) ((d.l.getD j o0).x.c0), .bool ((d.l.getD j o0).t.whole)]) hs_1 nM rfl Tryz.isAgg173 kd (flat_take encO_len o0 d.l j (by omega)) rfl (by decide)) ?_
        refine jH rfl (kB (z := .agg #[iv 0, .slice none 0 0, .bool false]) (cs := [iv 0, .slice none 0 0, .bool false]) Tryz.zeroValue173 rfl) ?_
        rintro _ _ ⟨b_17, rfl, rfl⟩
        refine jH rfl (jd 0 (vs := [iv ((d.l.getD j o0).t.seq), .slice ((d.l.getD j o0).x.a0) ((d.l.getD j o0).t.cells.length) ((d.l.getD j o0).x.c0), .bool ((d.l.getD j o0).t.whole)]) (cs' := [iv ((d.l.getD j o0).t.seq), .slice ((d.l.getD j o0).x.a0) ((d.l.getD j o0).t.cells.length) ((d.l.getD j o0).x.c0), .bool ((d.l.getD j o0).t.whole)]) rfl rfl rfl rfl kd rfl rfl (lb rfl) rfl) ?_
        rintro _ _ rfl
        refine jD <| jB <| jC <| jE <| jA (jI fo173_2 rfl) <| jK (jR 0 (v := .bool ((d.l.getD j o0).t.whole)) rfl rfl ky rfl) <| jA (jF (v := .bool ((d.l.getD j o0).t.whole)) rfl) ?_
        rcases Bool.eq_false_or_eq_true ((d.l.getD j o0).t.whole) with h_18 | h_18
        · refine jW rfl rfl rfl (cB h_18) (jY (jh (jI fo173_0 rfl))) ?_
          rintro _ _ ⟨rfl, rfl⟩
          refine jW rfl rfl rfl (cB h_18) (jY (jR 0 (v := iv ((d.l.getD j o0).t.seq)) rfl rfl kR rfl)) ?_
          rintro _ _ ⟨rfl, rfl⟩
          refine jW rfl rfl rfl (cB h_18) (jU [] Tryz.call129 rfl (Y_within ((d.l.getD j o0).t.seq) 0 99999) rfl (fun _ _ => trivial)) ?_
          rintro _ _ ⟨_, ⟨rfl, rfl⟩, rfl⟩
          refine jW rfl rfl rfl (cB h_18) (jY (jh (kE rfl))) ?_
          rintro _ _ ⟨rfl, rfl⟩
          refine jW rfl rfl rfl (cB h_18) (jY (jh (jF (v := .bool (!(within 0 ((d.l.getD j o0).t.seq) 99999))) rfl))) ?_
          rintro _ _ ⟨rfl, rfl⟩
          rcases Bool.eq_false_or_eq_true (within 0 ((d.l.getD j o0).t.seq) 99999) with h_19 | h_19
          · refine jW rfl rfl rfl (cB (cN h_19)) (jY (jh (jI fo173_1 rfl))) ?_
            rintro _ _ ⟨rfl, rfl⟩
            refine jW rfl rfl rfl (cB (cN h_19)) (jY (jR 0 (v := .slice ((d.l.getD j o0).x.a0) ((d.l.getD j o0).t.cells.length) ((d.l.getD j o0).x.c0)) rfl rfl kx rfl)) ?_
            rintro _ _ ⟨rfl, rfl⟩
            refine jW rfl rfl rfl (cB (cN h_19)) (jU [] Tryz.call127 rfl (Y_implStoreOk (d.l.getD j o0).x.a0 ((d.l.getD j o0).x.c0) ((d.l.getD j o0).t.cells) (DX.okz_get hz j (by omega)).k0) rfl (fun w hw => hw.seeOut_ hs_16 nM)) ?_
            rintro _ _ ⟨_, ⟨rfl, rfl⟩, rfl⟩
            refine jW rfl rfl rfl (cB (cN h_19)) (jY (jh (kE rfl))) ?_
            rintro _ _ ⟨rfl, rfl⟩
            refine jW rfl rfl rfl (cB h_18) (jY (jh (jx (v := .bool (!(storeOk ((d.l.getD j o0).t.cells)))) (cB (cN h_19)) rfl))) ?_
            rintro _ _ ⟨rfl, rfl⟩
            refine jA (jy (v := .bool (!(storeOk ((d.l.getD j o0).t.cells)))) (cB h_18) rfl) <| jD <| jB ?_
            rcases Bool.eq_false_or_eq_true (storeOk ((d.l.getD j o0).t.cells)) with h_20 | h_20
            · refine jP (cB (cN h_20)) <| jQ <| jk <| jB <| jE <| jA (ja (c := ((j + 1 : Nat) : Int)) he_13 rfl (wr (by omega))) <| jA (jF (v := iv ((j + 1 : Nat) : Int)) rfl) <| jD <| kL [1] (A := [bk b_3 39 [.slice d.a d.l.length d.c, str d.jt, iv d.js]]) rfl ?_
              refine jl (d.l.length - (j + 1)) (by omega) ⟨j + 1, by omega, (fun i hi => if h : i = j then h ▸ (by simp only [slotG, Bool.and_true, Bool.true_and, Bool.and_false, Bool.false_and, Bool.or_true, Bool.true_or, Bool.or_false, Bool.false_or, Bool.not_true, Bool.not_false, ((dT h_4)), (h_8), ((dT h_14)), (h_18), (h_19), (h_20)]) else hN i (by omega)), he_10, he_11, he_12, rfl, rfl, rfl⟩
            refine jS (cB (cN h_20)) <| jC <| jE <| jA (jG (v := .bool false) rfl) <| jD <| jB <| jJ <| je <| jO <| jO ?_
            refine je <| jO <| jL (.inl rfl) rfl (jM (v := .bool false) rfl) (List.nil_sublist _) ?_
            refine ⟨cB ?_, rfl⟩
            rw [diskOk_dat]
            exact (diskOkF_slot (f := (fun i => (d.l.getD i o0).t)) hlt (by simp only [slotG, Bool.and_true, Bool.true_and, Bool.and_false, Bool.false_and, Bool.or_true, Bool.true_or, Bool.or_false, Bool.false_or, Bool.not_true, Bool.not_false, ((dT h_4)), (h_8), ((dT h_14)), (h_18), (h_19), (h_20)])).symm
          refine jV (b := true) rfl rfl rfl (cB (cN h_19)) <| jV (b := true) rfl rfl rfl (cB (cN h_19)) <| jV (b := true) rfl rfl rfl (cB (cN h_19)) <| jV (b := true) rfl rfl rfl (cB (cN h_19)) <| jW rfl rfl rfl (cB h_18) (jY (jh (jy (v := .bool true) (cB (cN h_19)) rfl))) ?_
          rintro _ _ ⟨rfl, rfl⟩
          refine jA (jy (v := .bool true) (cB h_18) rfl) <| jD <| jB <| jS (cB rfl) <| jC <| jE <| jA (jG (v := .bool false) rfl) <| jD <| jB <| jJ ?_
          refine je <| jO <| jO <| je <| jO <| jL (.inl rfl) rfl (jM (v := .bool false) rfl) (List.nil_sublist _) ?_
          refine ⟨cB ?_, rfl⟩
          rw [diskOk_dat]
          exact (diskOkF_slot (f := (fun i => (d.l.getD i o0).t)) hlt (by simp only [slotG, Bool.and_true, Bool.true_and, Bool.and_false, Bool.false_and, Bool.or_true, Bool.true_or, Bool.or_false, Bool.false_or, Bool.not_true, Bool.not_false, ((dT h_4)), (h_8), ((dT h_14)), (h_18), (h_19)])).symm
        refine jV (b := false) rfl rfl rfl (cB h_18) <| jV (b := false) rfl rfl rfl (cB h_18) <| jV (b := false) rfl rfl rfl (cB h_18) <| jV (b := false) rfl rfl rfl (cB h_18) <| jV (b := false) rfl rfl rfl (cB h_18) <| JL.guardOffU rfl rfl rfl rfl <| JL.guardOffU rfl rfl rfl rfl <| JL.guardOffU rfl rfl rfl rfl <| JL.guardOffU rfl rfl rfl rfl <| jV (b := false) rfl rfl rfl (cB h_18) ?_
        refine jA (jx (v := .bool false) (cB h_18) rfl) <| jD <| jB <| jP (cB rfl) <| jQ <| jk <| jB <| jE <| jA (ja (c := ((j + 1 : Nat) : Int)) he_13 rfl (wr (by omega))) <| jA (jF (v := iv ((j + 1 : Nat) : Int)) rfl) ?_
        refine jD <| kL [1] (A := [bk b_3 39 [.slice d.a d.l.length d.c, str d.jt, iv d.js]]) rfl ?_
        refine jl (d.l.length - (j + 1)) (by omega) ⟨j + 1, by omega, (fun i hi => if h : i = j then h ▸ (by simp only [slotG, Bool.and_true, Bool.true_and, Bool.and_false, Bool.false_and, Bool.or_true, Bool.true_or, Bool.or_false, Bool.false_or, Bool.not_true, Bool.not_false, ((dT h_4)), (h_8), ((dT h_14)), (h_18)]) else hN i (by omega)), he_10, he_11, he_12, rfl, rfl, rfl⟩
      refine jP (cB (dF h_14)) <| jn <| jb <| jb <| jo <| jB <| jC <| jE <| jA (jI fo39_1 he_10) <| jK (jg 0 (vs := [str d.jt, iv d.js]) rfl rfl Tryz.isAgg37 Tryz.sizeOf37 rfl rfl) ?_
      refine jH rfl (jU [] Tryz.call150 rfl (Y_implJournalOk d.jt d.js hjl) rfl (fun _ _ => trivial)) ?_
      rintro _ _ ⟨_, ⟨rfl, rfl⟩, rfl⟩
      refine jA (jG (v := .bool (jourOk d.jt d.js)) rfl) <| jD <| jB <| jJ <| jL (.inl rfl) rfl (jM (v := .bool (jourOk d.jt d.js)) rfl) (List.nil_sublist _) ?_
      refine ⟨cB ?_, rfl⟩
      rw [diskOk_dat]
      first | (refine (diskOkF_end (f := (fun i => (d.l.getD i o0).t)) (i := 0) (by omega) (by omega) ?_ (by omega) hN).symm; assumption) | (refine (diskOkF_end (f := (fun i => (d.l.getD i o0).t)) (i := 1) (by omega) (by omega) ?_ (by omega) hN).symm; assumption)
    refine jW rfl rfl rfl (cB (cN h_8)) (jY (jh (jI fo39_0 rfl))) ?_
    rintro _ _ ⟨rfl, rfl⟩
    refine jW rfl rfl rfl (cB (cN h_8)) (jY (jR 0 (v := .slice d.a d.l.length d.c) rfl rfl ks rfl)) ?_
    rintro _ _ ⟨rfl, rfl⟩
    refine jW rfl rfl rfl (cB (cN h_8)) (jY (jh (jX (i := 1) kY kd hr_5 hr_5b rfl rfl (by omega)))) ?_
    rintro _ _ ⟨rfl, rfl⟩
    refine jW rfl rfl rfl (cB (cN h_8)) (jY (jh (ji fo173_2 hr_5 rfl))) ?_
    rintro _ _ ⟨rfl, rfl⟩
    have hi_21 := SeesA.elem hi_2 o0 (show 1 < d.l.length by omega)
    have hs_22 := seesO hi_21
    refine jW rfl rfl rfl (cB (cN h_8)) (jY (ju (v := .bool ((d.l.getD 1 o0).t.whole)) hs_1 nM rfl ky (flat_at encO_len o0 d.l 1 2 (by omega) (by decide)))) ?_
    rintro _ _ ⟨rfl, rfl⟩
    refine jW rfl rfl rfl (cB (cN h_8)) (jY (jh (kE rfl))) ?_
    rintro _ _ ⟨rfl, rfl⟩
    refine jW rfl rfl rfl (cB (cN (dT h_4))) (jY (jh (jy (v := .bool (!((d.l.getD 1 o0).t.whole))) (cB (cN h_8)) rfl))) ?_
    rintro _ _ ⟨rfl, rfl⟩
    refine jA (jx (v := .bool (!((d.l.getD 1 o0).t.whole))) (cB (cN (dT h_4))) rfl) <| jD <| jB ?_
    rcases Bool.eq_false_or_eq_true ((d.l.getD 1 o0).t.whole) with h_23 | h_23
    · refine jP (cB (cN h_23)) <| jQ <| jB <| jC <| jC <| jE <| jA (jI fo39_0 rfl) <| jK (jR 0 (v := .slice d.a d.l.length d.c) rfl rfl ks rfl) <| jA (jf kY rfl) <| jA (jF (v := iv 0) rfl) ?_
      refine jD <| jB <| jZ <| jp (fun k_ e_ L_ => ∃ j : Nat, (j ≤ d.l.length) ∧ (∀ i, i < j → slotG (d.l.getD i o0).t = true) ∧ e_ 1 = .pointer (some ⟨b_3, 0, none⟩) ∧ e_ 26 = .slice d.a d.l.length d.c ∧ e_ 27 = nv d.l.length ∧ e_ 28 = nv j ∧ L_ = [bk b_3 39 [.slice d.a d.l.length d.c, str d.jt, iv d.js]] ∧ k_ = d.l.length - j) _ ⟨0, by omega, (fun i hi => absurd hi (Nat.not_lt_zero i)), rfl, rfl, rfl, rfl, rfl, rfl⟩ ?_
      rintro _ e_24 _ ⟨j, hj, hN, he_25, he_26, he_27, he_28, rfl, rfl⟩
      refine jC <| jE <| jA (jc he_28 he_27) <| jD <| jB <| jC ?_
      by_cases h_29 : ((j : Nat) : Int) < ((d.l.length : Nat) : Int)
      · have hlt : j < d.l.length := by omega
        refine jS (cB (dT h_29)) <| jQ <| jB <| jC <| jZ <| jC <| jE <| jA (jX (i := j) kY kd hr_5 hr_5b he_26 he_28 (by omega)) ?_
        have hi_30 := SeesA.elem hi_2 o0 (show j < d.l.length by omega)
        have hs_31 := seesO hi_30
        refine jK (kF (vs := [iv ((d.l.getD j o0).t.seq), .slice ((d.l.getD j o0).x.a0) ((d.l.getD j o0).t.cells.length) ((d.l.getD j o0).x.c0), .bool ((d.l.getD j o0).t.whole)]) hs_1 nM rfl Tryz.isAgg173 kd (flat_take encO_len o0 d.l j (by omega)) rfl (by decide)) ?_
        refine jH rfl (kB (z := .agg #[iv 0, .slice none 0 0, .bool false]) (cs := [iv 0, .slice none 0 0, .bool false]) Tryz.zeroValue173 rfl) ?_
        rintro _ _ ⟨b_32, rfl, rfl⟩
        refine jH rfl (jd 0 (vs := [iv ((d.l.getD j o0).t.seq), .slice ((d.l.getD j o0).x.a0) ((d.l.getD j o0).t.cells.length) ((d.l.getD j o0).x.c0), .bool ((d.l.getD j o0).t.whole)]) (cs' := [iv ((d.l.getD j o0).t.seq), .slice ((d.l.getD j o0).x.a0) ((d.l.getD j o0).t.cells.length) ((d.l.getD j o0).x.c0), .bool ((d.l.getD j o0).t.whole)]) rfl rfl rfl rfl kd rfl rfl (lb rfl) rfl) ?_
        rintro _ _ rfl
        refine jD <| jB <| jC <| jE <| jA (jI fo173_2 rfl) <| jK (jR 0 (v := .bool ((d.l.getD j o0).t.whole)) rfl rfl ky rfl) <| jA (jF (v := .bool ((d.l.getD j o0).t.whole)) rfl) ?_
        rcases Bool.eq_false_or_eq_true ((d.l.getD j o0).t.whole) with h_33 | h_33
        · refine jW rfl rfl rfl (cB h_33) (jY (jh (jI fo173_0 rfl))) ?_
          rintro _ _ ⟨rfl, rfl⟩
          refine jW rfl rfl rfl (cB h_33) (jY (jR 0 (v := iv ((d.l.getD j o0).t.seq)) rfl rfl kR rfl)) ?_
          rintro _ _ ⟨rfl, rfl⟩
          refine jW rfl rfl rfl (cB h_33) (jU [] Tryz.call129 rfl (Y_within ((d.l.getD j o0).t.seq) 0 99999) rfl (fun _ _ => trivial)) ?_
          rintro _ _ ⟨_, ⟨rfl, rfl⟩, rfl⟩
          refine jW rfl rfl rfl (cB h_33) (jY (jh (kE rfl))) ?_
          rintro _ _ ⟨rfl, rfl⟩
          refine jW rfl rfl rfl (cB h_33) (jY (jh (jF (v := .bool (!(within 0 ((d.l.getD j o0).t.seq) 99999))) rfl))) ?_
          rintro _ _ ⟨rfl, rfl⟩
          rcases Bool.eq_false_or_eq_true (within 0 ((d.l.getD j o0).t.seq) 99999) with h_34 | h_34
          · refine jW rfl rfl rfl (cB (cN h_34)) (jY (jh (jI fo173_1 rfl))) ?_
            rintro _ _ ⟨rfl, rfl⟩
            refine jW rfl rfl rfl (cB (cN h_34)) (jY (jR 0 (v := .slice ((d.l.getD j o0).x.a0) ((d.l.getD j o0).t.cells.length) ((d.l.getD j o0).x.c0)) rfl rfl kx rfl)) ?_
            rintro _ _ ⟨rfl, rfl⟩
            refine jW rfl rfl rfl (cB (cN h_34)) (jU [] Tryz.call127 rfl (Y_implStoreOk (d.l.getD j o0).x.a0 ((d.l.getD j o0).x.c0) ((d.l.getD j o0).t.cells) (DX.okz_get hz j (by omega)).k0) rfl (fun w hw => hw.seeOut_ hs_31 nM)) ?_
            rintro _ _ ⟨_, ⟨rfl, rfl⟩, rfl⟩
            refine jW rfl rfl rfl (cB (cN h_34)) (jY (jh (kE rfl))) ?_
            rintro _ _ ⟨rfl, rfl⟩
            refine jW rfl rfl rfl (cB h_33) (jY (jh (jx (v := .bool (!(storeOk ((d.l.getD j o0).t.cells)))) (cB (cN h_34)) rfl))) ?_
            rintro _ _ ⟨rfl, rfl⟩
            refine jA (jy (v := .bool (!(storeOk ((d.l.getD j o0).t.cells)))) (cB h_33) rfl) <| jD <| jB ?_
            rcases Bool.eq_false_or_eq_true (storeOk ((d.l.getD j o0).t.cells)) with h_35 | h_35
            · refine jP (cB (cN h_35)) <| jQ <| jk <| jB <| jE <| jA (ja (c := ((j + 1 : Nat) : Int)) he_28 rfl (wr (by omega))) <| jA (jF (v := iv ((j + 1 : Nat) : Int)) rfl) <| jD <| kL [1] (A := [bk b_3 39 [.slice d.a d.l.length d.c, str d.jt, iv d.js]]) rfl ?_
              refine jl (d.l.length - (j + 1)) (by omega) ⟨j + 1, by omega, (fun i hi => if h : i = j then h ▸ (by simp only [slotG, Bool.and_true, Bool.true_and, Bool.and_false, Bool.false_and, Bool.or_true, Bool.true_or, Bool.or_false, Bool.false_or, Bool.not_true, Bool.not_false, ((dT h_4)), (h_8), (h_23), ((dT h_29)), (h_33), (h_34), (h_35)]) else hN i (by omega)), he_25, he_26, he_27, rfl, rfl, rfl⟩
            refine jS (cB (cN h_35)) <| jC <| jE <| jA (jG (v := .bool false) rfl) <| jD <| jB <| jJ <| je <| jO <| jO ?_
            refine je <| jO <| jL (.inl rfl) rfl (jM (v := .bool false) rfl) (List.nil_sublist _) ?_
            refine ⟨cB ?_, rfl⟩
            rw [diskOk_dat]
            exact (diskOkF_slot (f := (fun i => (d.l.getD i o0).t)) hlt (by simp only [slotG, Bool.and_true, Bool.true_and, Bool.and_false, Bool.false_and, Bool.or_true, Bool.true_or, Bool.or_false, Bool.false_or, Bool.not_true, Bool.not_false, ((dT h_4)), (h_8), (h_23), ((dT h_29)), (h_33), (h_34), (h_35)])).symm
          refine jV (b := true) rfl rfl rfl (cB (cN h_34)) <| jV (b := true) rfl rfl rfl (cB (cN h_34)) <| jV (b := true) rfl rfl rfl (cB (cN h_34)) <| jV (b := true) rfl rfl rfl (cB (cN h_34)) <| jW rfl rfl rfl (cB h_33) (jY (jh (jy (v := .bool true) (cB (cN h_34)) rfl))) ?_
          rintro _ _ ⟨rfl, rfl⟩
          refine jA (jy (v := .bool true) (cB h_33) rfl) <| jD <| jB <| jS (cB rfl) <| jC <| jE <| jA (jG (v := .bool false) rfl) <| jD <| jB <| jJ ?_
          refine je <| jO <| jO <| je <| jO <| jL (.inl rfl) rfl (jM (v := .bool false) rfl) (List.nil_sublist _) ?_
          refine ⟨cB ?_, rfl⟩
          rw [diskOk_dat]
          exact (diskOkF_slot (f := (fun i => (d.l.getD i o0).t)) hlt (by simp only [slotG, Bool.and_true, Bool.true_and, Bool.and_false, Bool.false_and, Bool.or_true, Bool.true_or, Bool.or_false, Bool.false_or, Bool.not_true, Bool.not_false, ((dT h_4)), (h_8), (h_23), ((dT h_29)), (h_33), (h_34)])).symm
        refine jV (b := false) rfl rfl rfl (cB h_33) <| jV (b := false) rfl rfl rfl (cB h_33) <| jV (b := false) rfl rfl rfl (cB h_33) <| jV (b := false) rfl rfl rfl (cB h_33) <| jV (b := false) rfl rfl rfl (cB h_33) <| JL.guardOffU rfl rfl rfl rfl <| JL.guardOffU rfl rfl rfl rfl <| JL.guardOffU rfl rfl rfl rfl <| JL.guardOffU rfl rfl rfl rfl <| jV (b := false) rfl rfl rfl (cB h_33) ?_
        refine jA (jx (v := .bool false) (cB h_33) rfl) <| jD <| jB <| jP (cB rfl) <| jQ <| jk <| jB <| jE <| jA (ja (c := ((j + 1 : Nat) : Int)) he_28 rfl (wr (by omega))) <| jA (jF (v := iv ((j + 1 : Nat) : Int)) rfl) ?_
        refine jD <| kL [1] (A := [bk b_3 39 [.slice d.a d.l.length d.c, str d.jt, iv d.js]]) rfl ?_
        refine jl (d.l.length - (j + 1)) (by omega) ⟨j + 1, by omega, (fun i hi => if h : i = j then h ▸ (by simp only [slotG, Bool.and_true, Bool.true_and, Bool.and_false, Bool.false_and, Bool.or_true, Bool.true_or, Bool.or_false, Bool.false_or, Bool.not_true, Bool.not_false, ((dT h_4)), (h_8), (h_23), ((dT h_29)), (h_33)]) else hN i (by omega)), he_25, he_26, he_27, rfl, rfl, rfl⟩
      refine jP (cB (dF h_29)) <| jn <| jb <| jb <| jo <| jB <| jC <| jE <| jA (jI fo39_1 he_25) <| jK (jg 0 (vs := [str d.jt, iv d.js]) rfl rfl Tryz.isAgg37 Tryz.sizeOf37 rfl rfl) ?_
      refine jH rfl (jU [] Tryz.call150 rfl (Y_implJournalOk d.jt d.js hjl) rfl (fun _ _ => trivial)) ?_
      rintro _ _ ⟨_, ⟨rfl, rfl⟩, rfl⟩
      refine jA (jG (v := .bool (jourOk d.jt d.js)) rfl) <| jD <| jB <| jJ <| jL (.inl rfl) rfl (jM (v := .bool (jourOk d.jt d.js)) rfl) (List.nil_sublist _) ?_
      refine ⟨cB ?_, rfl⟩
      rw [diskOk_dat]
      first | (refine (diskOkF_end (f := (fun i => (d.l.getD i o0).t)) (i := 0) (by omega) (by omega) ?_ (by omega) hN).symm; assumption) | (refine (diskOkF_end (f := (fun i => (d.l.getD i o0).t)) (i := 1) (by omega) (by omega) ?_ (by omega) hN).symm; assumption)
    refine jS (cB (cN h_23)) <| jC <| jE <| jA (jG (v := .bool false) rfl) <| jD <| jB <| jJ <| jO <| jL (.inl rfl) rfl (jM (v := .bool false) rfl) (List.nil_sublist _) ?_
    refine ⟨cB ?_, rfl⟩
    rw [diskOk_dat]
    first | exact (diskOkF_len (by omega)).symm | (refine (diskOkF_none (f := (fun i => (d.l.getD i o0).t)) (by omega) ?_ ?_).symm <;> assumption)
  refine jV (b := true) rfl rfl rfl (cB (cN (dF h_4))) <| jV (b := true) rfl rfl rfl (cB (cN (dF h_4))) <| jV (b := true) rfl rfl rfl (cB (cN (dF h_4))) <| jV (b := true) rfl rfl rfl (cB (cN (dF h_4))) <| jV (b := true) rfl rfl rfl (cB (cN (dF h_4))) <| jV (b := true) rfl rfl rfl (cB (cN (dF h_4))) <| jV (b := true) rfl rfl rfl (cB (cN (dF h_4))) <| JL.guardOffU rfl rfl rfl rfl <| JL.guardOffU rfl rfl rfl rfl <| JL.guardOffU rfl rfl rfl rfl ?_
  refine JL.guardOffU rfl rfl rfl rfl <| JL.guardOffU rfl rfl rfl rfl <| JL.guardOffU rfl rfl rfl rfl <| jV (b := true) rfl rfl rfl (cB (cN (dF h_4))) <| jA (jy (v := .bool true) (cB (cN (dF h_4))) rfl) <| jD <| jB <| jS (cB rfl) <| jC <| jE ?_
  refine jA (jG (v := .bool false) rfl) <| jD <| jB <| jJ <| jO <| jL (.inl rfl) rfl (jM (v := .bool false) rfl) (List.nil_sublist _) ?_
  refine ⟨cB ?_, rfl⟩
  rw [diskOk_dat]
  first | exact (diskOkF_len (by omega)).symm | (refine (diskOkF_none (f := (fun i => (d.l.getD i o0).t)) (by omega) ?_ ?_).symm <;> assumption)

theorem Y_specJournalOk (t : Str) (js : Int) (hl : t.length ≤ 9223372036854775807) :
    Ct Tryz.prog 147 [.agg #[str t, .int .i64 js]] [] (fun _ => True) (fun v A' => v = .bool (jourOk t js) ∧ A' = []) := by
  refine Ct.intro Tryz.func147 rfl Tryz.ntmps147 (lb rfl) fun w0 hpre => ?_
  refine jC <| jE ?_
  refine jH rfl (jm (cs := [str t, iv js]) rfl rfl) ?_
  rintro _ _ ⟨b_1, rfl, rfl⟩
  refine jA (jG (v := .bool false) rfl) <| jD <| jB <| jC <| jE <| jA (jI fo37_0 rfl) <| jK (jR 0 (v := str t) rfl rfl kT rfl) <| jA (PO.lenS kl rfl) <| jA (PO.leq rfl rfl) <| jA (jF (v := .bool (decide ((t.length : Int) ≤ 20000))) rfl) ?_
  by_cases h_2 : (t.length : Int) ≤ 20000
  · refine jW rfl rfl rfl (cB (dT h_2)) (jY (jh (jI fo37_1 rfl))) ?_
    rintro _ _ ⟨rfl, rfl⟩
    refine jW rfl rfl rfl (cB (dT h_2)) (jY (jR 0 (v := iv js) rfl rfl kR rfl)) ?_
    rintro _ _ ⟨rfl, rfl⟩
    refine jW rfl rfl rfl (cB (dT h_2)) (jY (jh (jI fo37_0 rfl))) ?_
    rintro _ _ ⟨rfl, rfl⟩
    refine jW rfl rfl rfl (cB (dT h_2)) (jY (jR 0 (v := str t) rfl rfl kT rfl)) ?_
    rintro _ _ ⟨rfl, rfl⟩
    refine jW rfl rfl rfl (cB (dT h_2)) (jY (jh (PO.lenS kl rfl))) ?_
    rintro _ _ ⟨rfl, rfl⟩
    refine jW rfl rfl rfl (cB (dT h_2)) (jU [] Tryz.call124 rfl (Y_l01In js 0 (t.length : Int)) rfl (fun _ _ => trivial)) ?_
    rintro _ _ ⟨_, ⟨rfl, rfl⟩, rfl⟩
    refine jA (jy (v := .bool (within 0 js (t.length : Int))) (cB (dT h_2)) rfl) <| jA (jG (v := .bool (within 0 js (t.length : Int))) rfl) <| jD <| jB <| jJ <| jL (.inl rfl) rfl (jM (v := .bool (within 0 js (t.length : Int))) rfl) (List.nil_sublist _) ?_
    exact ⟨cB (by simp only [jourOk, Bool.and_true, Bool.true_and, Bool.and_false, Bool.false_and, Bool.or_true, Bool.true_or, Bool.or_false, Bool.false_or, Bool.not_true, Bool.not_false, ((dT h_2))]), rfl⟩
  refine jV (b := false) rfl rfl rfl (cB (dF h_2)) <| jV (b := false) rfl rfl rfl (cB (dF h_2)) <| jV (b := false) rfl rfl rfl (cB (dF h_2)) <| jV (b := false) rfl rfl rfl (cB (dF h_2)) <| jV (b := false) rfl rfl rfl (cB (dF h_2)) <| jV (b := false) rfl rfl rfl (cB (dF h_2)) <| jA (jx (v := .bool false) (cB (dF h_2)) rfl) <| jA (jG (v := .bool false) rfl) <| jD <| jB ?_
  refine jJ <| jL (.inl rfl) rfl (jM (v := .bool false) rfl) (List.nil_sublist _) ?_
  exact ⟨cB (by simp only [jourOk, Bool.and_true, Bool.true_and, Bool.and_false, Bool.false_and, Bool.or_true, Bool.true_or, Bool.or_false, Bool.false_or, Bool.not_true, Bool.not_false, ((dF h_2))]), rfl⟩

set_option maxRecDepth 4000 in
set_option maxHeartbeats 1000000 in
theorem Y_sBest (d : DX) (hz : d.dat.okz) (hl : d.l.length ≤ 1000000000) :
    Ct Tryz.prog 146 [.agg #[.slice d.a d.l.length d.c, str d.jt, .int .i64 d.js]] [] (fun w => SeesA w (rdsD d)) (fun v A' => v = .int .i64 (bestD d.dat) ∧ A' = []) := by
  refine Ct.intro Tryz.func146 rfl Tryz.ntmps146 (lb rfl) fun w0 hpre => ?_
  have hs_1 : Sees w0 (.slice d.a d.l.length d.c) 3 d.l.length (d.l.flatMap encO) := (hpre).head
  have hi_2 : SeesA w0 (d.l.flatMap rdsO) := (hpre).tail
  refine jC <| jE ?_
  refine jH rfl (jm (cs := [.slice d.a d.l.length d.c, str d.jt, iv d.js]) rfl rfl) ?_
  rintro _ _ ⟨b_3, rfl, rfl⟩
  refine jA (jG (v := iv 0) rfl) <| jD <| jB <| jC <| jE <| jA (jG (v := iv (-1)) rfl) <| jD <| jB <| jC <| jC ?_
  refine jE <| jA (jG (v := iv 0) rfl) <| jD <| jB <| jZ <| jp (fun k_ e_ L_ => ∃ j : Nat, (j ≤ d.l.length) ∧ e_ 1 = .pointer (some ⟨b_3, 0, none⟩) ∧ e_ 2 = iv 0 ∧ e_ 3 = iv (bestF (fun i => (d.l.getD i o0).t) j) ∧ e_ 4 = nv j ∧ L_ = [bk b_3 39 [.slice d.a d.l.length d.c, str d.jt, iv d.js]] ∧ k_ = d.l.length - j) _ ⟨0, by omega, rfl, rfl, rfl, rfl, rfl, rfl⟩ ?_
  rintro _ e_4 _ ⟨j, hj, he_5, he_6, he_7, he_8, rfl, rfl⟩
  refine jC <| jC <| jE <| jA (jF (v := nv j) he_8) <| jA (jI fo39_0 he_5) <| jK (jR 0 (v := .slice d.a d.l.length d.c) rfl rfl ks rfl) <| jA (jf kY rfl) <| jA (jc rfl rfl) <| jD <| jB ?_
  by_cases h_9 : ((j : Nat) : Int) < ((d.l.length : Nat) : Int)
  · have hlt : j < d.l.length := by omega
    refine jS (cB (dT h_9)) <| jQ <| jB <| jC <| jZ <| jC <| kG [bk b_3 39 [.slice d.a d.l.length d.c, str d.jt, iv d.js]] 1000 mixed (by simp) <| jT 0 rfl (jI fo39_0 he_5) <| jw 1 rfl (jR 0 (v := .slice d.a d.l.length d.c) rfl rfl ks rfl) <| jT 2 rfl (jF (v := nv j) he_8) ?_
    obtain ⟨hr_10, hr_10b, -⟩ := sees_some hs_1 (by omega)
    refine jT 3 rfl (jX (i := j) kY kd hr_10 hr_10b rfl rfl (by omega)) <| jT 4 rfl (ji fo173_2 hr_10 rfl) ?_
    have hi_11 := SeesA.elem hi_2 o0 (show j < d.l.length by omega)
    have hs_12 := seesO hi_11
    refine jw 5 rfl (ju (v := .bool ((d.l.getD j o0).t.whole)) hs_1 nM rfl ky (flat_at encO_len o0 d.l j 2 (by omega) (by decide))) <| jT 6 rfl (jF (v := .bool ((d.l.getD j o0).t.whole)) rfl) ?_
    rcases Bool.eq_false_or_eq_true ((d.l.getD j o0).t.whole) with h_13 | h_13
    · refine jr 7 rfl (by kernel_rfl) (NP.th (NP.bl (NP.th (NP.th (NP.bl (NP.th NP.body)))))) (by kernel_rfl) (by kernel_rfl) rfl rfl rfl (cB h_13) (jF (v := iv (bestF (fun i => (d.l.getD i o0).t) j)) he_7) <| jr 8 rfl (by kernel_rfl) (NP.th (NP.bl (NP.th (NP.th (NP.bl (NP.th NP.body)))))) (by kernel_rfl) (by kernel_rfl) rfl rfl rfl (cB h_13) (jc rfl rfl) <| jr 9 rfl (by kernel_rfl) (NP.th (NP.bl (NP.th (NP.th (NP.bl (NP.th NP.body)))))) (by kernel_rfl) (by kernel_rfl) rfl rfl rfl (cB h_13) (jF (v := .bool (decide ((bestF (fun i => (d.l.getD i o0).t) j) < 0))) rfl) ?_
      by_cases h_14 : (bestF (fun i => (d.l.getD i o0).t) j) < 0
      · refine jj 10 (b := true) rfl (by kernel_rfl) (NP.th (NP.bl (NP.th (NP.th (NP.bl (NP.th NP.body)))))) (by kernel_rfl) (by kernel_rfl) rfl rfl rfl (cB (dT h_14)) <| jj 11 (b := true) rfl (by kernel_rfl) (NP.th (NP.bl (NP.th (NP.th (NP.bl (NP.th NP.body)))))) (by kernel_rfl) (by kernel_rfl) rfl rfl rfl (cB (dT h_14)) <| jj 12 (b := true) rfl (by kernel_rfl) (NP.th (NP.bl (NP.th (NP.th (NP.bl (NP.th NP.body)))))) (by kernel_rfl) (by kernel_rfl) rfl rfl rfl (cB (dT h_14)) <| jj 13 (b := true) rfl (by kernel_rfl) (NP.th (NP.bl (NP.th (NP.th (NP.bl (NP.th NP.body)))))) (by kernel_rfl) (by kernel_rfl) rfl rfl rfl (cB (dT h_14)) <| jj 14 (b := true) rfl (by kernel_rfl) (NP.th (NP.bl (NP.th (NP.th (NP.bl (NP.th NP.body)))))) (by kernel_rfl) (by kernel_rfl) rfl rfl rfl (cB (dT h_14)) <| jj 15 (b := true) rfl (by kernel_rfl) (NP.th (NP.bl (NP.th (NP.th (NP.bl (NP.th NP.body)))))) (by kernel_rfl) (by kernel_rfl) rfl rfl rfl (cB (dT h_14)) <| jj 16 (b := true) rfl (by kernel_rfl) (NP.th (NP.bl (NP.th (NP.th (NP.bl (NP.th NP.body)))))) (by kernel_rfl) (by kernel_rfl) rfl rfl rfl (cB (dT h_14)) <| jj 17 (b := true) rfl (by kernel_rfl) (NP.th (NP.bl (NP.th (NP.th (NP.bl (NP.th NP.body)))))) (by kernel_rfl) (by kernel_rfl) rfl rfl rfl (cB (dT h_14)) <| jj 18 (b := true) rfl (by kernel_rfl) (NP.th (NP.bl (NP.th (NP.th (NP.bl (NP.th NP.body)))))) (by kernel_rfl) (by kernel_rfl) rfl rfl rfl (cB (dT h_14)) <| jj 19 (b := true) rfl (by kernel_rfl) (NP.th (NP.bl (NP.th (NP.th (NP.bl (NP.th NP.body)))))) (by kernel_rfl) (by kernel_rfl) rfl rfl rfl (cB (dT h_14)) ?_
        refine jj 20 (b := true) rfl (by kernel_rfl) (NP.th (NP.bl (NP.th (NP.th (NP.bl (NP.th NP.body)))))) (by kernel_rfl) (by kernel_rfl) rfl rfl rfl (cB (dT h_14)) <| jj 21 (b := true) rfl (by kernel_rfl) (NP.th (NP.bl (NP.th (NP.th (NP.bl (NP.th NP.body)))))) (by kernel_rfl) (by kernel_rfl) rfl rfl rfl (cB (dT h_14)) <| jj 22 (b := true) rfl (by kernel_rfl) (NP.th (NP.bl (NP.th (NP.th (NP.bl (NP.th NP.body)))))) (by kernel_rfl) (by kernel_rfl) rfl rfl rfl (cB (dT h_14)) <| jr 23 rfl (by kernel_rfl) (NP.th (NP.bl (NP.th (NP.th (NP.bl (NP.th NP.body)))))) (by kernel_rfl) (by kernel_rfl) rfl rfl rfl (cB h_13) (jy (v := .bool true) (cB (dT h_14)) rfl) <| jT 24 rfl (jy (v := .bool true) (cB h_13) rfl) <| kH (by kernel_rfl) <| jB <| jS (cB rfl) <| jE <| jA (jF (v := nv j) he_8) ?_
        refine jA (jG (v := nv j) rfl) <| jD <| jk <| jB <| jE <| jA (jF (v := nv j) he_8) <| jA (ja (c := ((j + 1 : Nat) : Int)) rfl rfl (wr (by omega))) <| jA (jG (v := iv ((j + 1 : Nat) : Int)) rfl) <| jD ?_
        refine jl (d.l.length - (j + 1)) (by omega) ⟨j + 1, by omega, he_5, he_6, (by simp only [bestF]; first | (rw [if_pos ⟨by assumption, .inl (by assumption)⟩]; first | rfl | assumption) | (rw [if_neg (by rintro ⟨h_, _⟩; simp_all)]; first | rfl | assumption)), rfl, rfl, rfl⟩
      have hlo := bestF_lo (fun i => (d.l.getD i o0).t) j
      obtain ⟨q_15, hq_16⟩ : ∃ n_ : Nat, bestF (fun i => (d.l.getD i o0).t) j = ((n_ : Nat) : Int) := ⟨(bestF (fun i => (d.l.getD i o0).t) j).toNat, by omega⟩
      refine jr 10 rfl (by kernel_rfl) (NP.th (NP.bl (NP.th (NP.th (NP.bl (NP.th NP.body)))))) (by kernel_rfl) (by kernel_rfl) rfl rfl rfl (cB (dF h_14)) (jI fo39_0 he_5) <| JA.takeOn 11 rfl (by kernel_rfl) (NP.th (NP.bl (NP.th (NP.th (NP.bl (NP.th NP.body)))))) (by kernel_rfl) (by kernel_rfl) (by kernel_rfl) rfl rfl rfl (cB (dF h_14)) (jR 0 (v := .slice d.a d.l.length d.c) rfl rfl ks rfl) <| jr 12 rfl (by kernel_rfl) (NP.th (NP.bl (NP.th (NP.th (NP.bl (NP.th NP.body)))))) (by kernel_rfl) (by kernel_rfl) rfl rfl rfl (cB (dF h_14)) (jF (v := nv j) he_8) <| jr 13 rfl (by kernel_rfl) (NP.th (NP.bl (NP.th (NP.th (NP.bl (NP.th NP.body)))))) (by kernel_rfl) (by kernel_rfl) rfl rfl rfl (cB (dF h_14)) (jX (i := j) kY kd hr_10 hr_10b rfl rfl (by omega)) <| jr 14 rfl (by kernel_rfl) (NP.th (NP.bl (NP.th (NP.th (NP.bl (NP.th NP.body)))))) (by kernel_rfl) (by kernel_rfl) rfl rfl rfl (cB (dF h_14)) (ji fo173_0 hr_10 rfl) <| JA.takeOn 15 rfl (by kernel_rfl) (NP.th (NP.bl (NP.th (NP.th (NP.bl (NP.th NP.body)))))) (by kernel_rfl) (by kernel_rfl) (by kernel_rfl) rfl rfl rfl (cB (dF h_14)) (ju (v := iv ((d.l.getD j o0).t.seq)) hs_1 nM rfl kR (flat_at encO_len o0 d.l j 0 (by omega) (by decide))) <| jr 16 rfl (by kernel_rfl) (NP.th (NP.bl (NP.th (NP.th (NP.bl (NP.th NP.body)))))) (by kernel_rfl) (by kernel_rfl) rfl rfl rfl (cB (dF h_14)) (jI fo39_0 he_5) <| JA.takeOn 17 rfl (by kernel_rfl) (NP.th (NP.bl (NP.th (NP.th (NP.bl (NP.th NP.body)))))) (by kernel_rfl) (by kernel_rfl) (by kernel_rfl) rfl rfl rfl (cB (dF h_14)) (jR 0 (v := .slice d.a d.l.length d.c) rfl rfl ks rfl) <| jr 18 rfl (by kernel_rfl) (NP.th (NP.bl (NP.th (NP.th (NP.bl (NP.th NP.body)))))) (by kernel_rfl) (by kernel_rfl) rfl rfl rfl (cB (dF h_14)) (jF (v := nv q_15) ((he_7).trans (congrArg (Value.int .i64) hq_16))) <| jr 19 rfl (by kernel_rfl) (NP.th (NP.bl (NP.th (NP.th (NP.bl (NP.th NP.body)))))) (by kernel_rfl) (by kernel_rfl) rfl rfl rfl (cB (dF h_14)) (jX (i := q_15) kY kd hr_10 hr_10b rfl rfl (by omega)) ?_
      refine jr 20 rfl (by kernel_rfl) (NP.th (NP.bl (NP.th (NP.th (NP.bl (NP.th NP.body)))))) (by kernel_rfl) (by kernel_rfl) rfl rfl rfl (cB (dF h_14)) (ji fo173_0 hr_10 rfl) ?_
      have hi_17 := SeesA.elem hi_2 o0 (show q_15 < d.l.length by omega)
      have hs_18 := seesO hi_17
      refine JA.takeOn 21 rfl (by kernel_rfl) (NP.th (NP.bl (NP.th (NP.th (NP.bl (NP.th NP.body)))))) (by kernel_rfl) (by kernel_rfl) (by kernel_rfl) rfl rfl rfl (cB (dF h_14)) (ju (v := iv ((d.l.getD q_15 o0).t.seq)) hs_1 nM rfl kR (flat_at encO_len o0 d.l q_15 0 (by omega) (by decide))) <| jr 22 rfl (by kernel_rfl) (NP.th (NP.bl (NP.th (NP.th (NP.bl (NP.th NP.body)))))) (by kernel_rfl) (by kernel_rfl) rfl rfl rfl (cB (dF h_14)) (PO.gtr rfl rfl) <| jr 23 rfl (by kernel_rfl) (NP.th (NP.bl (NP.th (NP.th (NP.bl (NP.th NP.body)))))) (by kernel_rfl) (by kernel_rfl) rfl rfl rfl (cB h_13) (jx (v := .bool (decide (((d.l.getD q_15 o0).t.seq) < ((d.l.getD j o0).t.seq)))) (cB (dF h_14)) rfl) <| jT 24 rfl (jy (v := .bool (decide (((d.l.getD q_15 o0).t.seq) < ((d.l.getD j o0).t.seq)))) (cB h_13) rfl) <| kH (by kernel_rfl) <| jB ?_
      by_cases h_19 : ((d.l.getD q_15 o0).t.seq) < ((d.l.getD j o0).t.seq)
      · refine jS (cB (dT h_19)) <| jE <| jA (jF (v := nv j) he_8) <| jA (jG (v := nv j) rfl) <| jD <| jk <| jB <| jE <| jA (jF (v := nv j) he_8) <| jA (ja (c := ((j + 1 : Nat) : Int)) rfl rfl (wr (by omega))) ?_
        refine jA (jG (v := iv ((j + 1 : Nat) : Int)) rfl) <| jD ?_
        refine jl (d.l.length - (j + 1)) (by omega) ⟨j + 1, by omega, he_5, he_6, (by first | rfl | (simp only [bestF]; first | (rw [if_pos ⟨by assumption, .inr (by rw [hq_16]; simp only [Int.toNat_natCast]; omega)⟩]; first | rfl | assumption) | (rw [if_neg (by rintro ⟨_, h_ | h_⟩ <;> first | omega | (simp only [hq_16, Int.toNat_natCast] at h_; omega))]; first | assumption | (rw [hq_16]; first | rfl | assumption)))), rfl, rfl, rfl⟩
      refine jP (cB (dF h_19)) <| jQ <| jk <| jB <| jE <| jA (jF (v := nv j) he_8) <| jA (ja (c := ((j + 1 : Nat) : Int)) rfl rfl (wr (by omega))) <| jA (jG (v := iv ((j + 1 : Nat) : Int)) rfl) <| jD ?_
      refine jl (d.l.length - (j + 1)) (by omega) ⟨j + 1, by omega, he_5, he_6, (by first | rfl | (simp only [bestF]; first | (rw [if_pos ⟨by assumption, .inr (by rw [hq_16]; simp only [Int.toNat_natCast]; omega)⟩]; first | rfl | assumption) | (rw [if_neg (by rintro ⟨_, h_ | h_⟩ <;> first | omega | (simp only [hq_16, Int.toNat_natCast] at h_; omega))]; first | assumption | (rw [hq_16]; first | rfl | assumption)))), rfl, rfl, rfl⟩
    refine jj 7 (b := false) rfl (by kernel_rfl) (NP.th (NP.bl (NP.th (NP.th (NP.bl (NP.th NP.body)))))) (by kernel_rfl) (by kernel_rfl) rfl rfl rfl (cB h_13) <| jj 8 (b := false) rfl (by kernel_rfl) (NP.th (NP.bl (NP.th (NP.th (NP.bl (NP.th NP.body)))))) (by kernel_rfl) (by kernel_rfl) rfl rfl rfl (cB h_13) <| jj 9 (b := false) rfl (by kernel_rfl) (NP.th (NP.bl (NP.th (NP.th (NP.bl (NP.th NP.body)))))) (by kernel_rfl) (by kernel_rfl) rfl rfl rfl (cB h_13) <| kC 10 rfl (by kernel_rfl) (NP.th (NP.bl (NP.th (NP.th (NP.bl (NP.th NP.body)))))) (by kernel_rfl) (by kernel_rfl) rfl rfl rfl rfl <| kC 11 rfl (by kernel_rfl) (NP.th (NP.bl (NP.th (NP.th (NP.bl (NP.th NP.body)))))) (by kernel_rfl) (by kernel_rfl) rfl rfl rfl rfl <| kC 12 rfl (by kernel_rfl) (NP.th (NP.bl (NP.th (NP.th (NP.bl (NP.th NP.body)))))) (by kernel_rfl) (by kernel_rfl) rfl rfl rfl rfl <| kC 13 rfl (by kernel_rfl) (NP.th (NP.bl (NP.th (NP.th (NP.bl (NP.th NP.body)))))) (by kernel_rfl) (by kernel_rfl) rfl rfl rfl rfl <| kC 14 rfl (by kernel_rfl) (NP.th (NP.bl (NP.th (NP.th (NP.bl (NP.th NP.body)))))) (by kernel_rfl) (by kernel_rfl) rfl rfl rfl rfl <| kC 15 rfl (by kernel_rfl) (NP.th (NP.bl (NP.th (NP.th (NP.bl (NP.th NP.body)))))) (by kernel_rfl) (by kernel_rfl) rfl rfl rfl rfl <| kC 16 rfl (by kernel_rfl) (NP.th (NP.bl (NP.th (NP.th (NP.bl (NP.th NP.body)))))) (by kernel_rfl) (by kernel_rfl) rfl rfl rfl rfl ?_
    refine kC 17 rfl (by kernel_rfl) (NP.th (NP.bl (NP.th (NP.th (NP.bl (NP.th NP.body)))))) (by kernel_rfl) (by kernel_rfl) rfl rfl rfl rfl <| kC 18 rfl (by kernel_rfl) (NP.th (NP.bl (NP.th (NP.th (NP.bl (NP.th NP.body)))))) (by kernel_rfl) (by kernel_rfl) rfl rfl rfl rfl <| kC 19 rfl (by kernel_rfl) (NP.th (NP.bl (NP.th (NP.th (NP.bl (NP.th NP.body)))))) (by kernel_rfl) (by kernel_rfl) rfl rfl rfl rfl <| kC 20 rfl (by kernel_rfl) (NP.th (NP.bl (NP.th (NP.th (NP.bl (NP.th NP.body)))))) (by kernel_rfl) (by kernel_rfl) rfl rfl rfl rfl <| kC 21 rfl (by kernel_rfl) (NP.th (NP.bl (NP.th (NP.th (NP.bl (NP.th NP.body)))))) (by kernel_rfl) (by kernel_rfl) rfl rfl rfl rfl <| kC 22 rfl (by kernel_rfl) (NP.th (NP.bl (NP.th (NP.th (NP.bl (NP.th NP.body)))))) (by kernel_rfl) (by kernel_rfl) rfl rfl rfl rfl <| jj 23 (b := false) rfl (by kernel_rfl) (NP.th (NP.bl (NP.th (NP.th (NP.bl (NP.th NP.body)))))) (by kernel_rfl) (by kernel_rfl) rfl rfl rfl (cB h_13) <| jT 24 rfl (jx (v := .bool false) (cB h_13) rfl) <| kH (by kernel_rfl) <| jB ?_
    refine jP (cB rfl) <| jQ <| jk <| jB <| jE <| jA (jF (v := nv j) he_8) <| jA (ja (c := ((j + 1 : Nat) : Int)) rfl rfl (wr (by omega))) <| jA (jG (v := iv ((j + 1 : Nat) : Int)) rfl) <| jD ?_
    refine jl (d.l.length - (j + 1)) (by omega) ⟨j + 1, by omega, he_5, he_6, (by simp only [bestF]; first | (rw [if_pos ⟨by assumption, .inl (by assumption)⟩]; first | rfl | assumption) | (rw [if_neg (by rintro ⟨h_, _⟩; simp_all)]; first | rfl | assumption)), rfl, rfl, rfl⟩
  refine jP (cB (dF h_9)) <| jn <| jb <| jb <| jo <| jB <| jC <| jE <| jA (jF (v := iv (bestF (fun i => (d.l.getD i o0).t) j)) he_7) <| jA (jG (v := iv (bestF (fun i => (d.l.getD i o0).t) j)) rfl) ?_
  refine jD <| jB <| jJ <| jL (.inl rfl) rfl (jM (v := iv (bestF (fun i => (d.l.getD i o0).t) j)) rfl) (List.nil_sublist _) ?_
  refine ⟨congrArg (Value.int .i64) ?_, rfl⟩
  rw [bestD_dat, show d.l.length = j by omega]

set_option maxRecDepth 4000 in
set_option maxHeartbeats 1000000 in
theorem Y_specDiskOk (d : DX) (hz : d.dat.okz) (hl : d.l.length ≤ 1000000000) :
    Ct Tryz.prog 123 [.agg #[.slice d.a d.l.length d.c, str d.jt, .int .i64 d.js]] [] (fun w => SeesA w (rdsD d)) (fun v A' => v = .bool (diskOk d.dat) ∧ A' = []) := by
  refine Ct.intro Tryz.func123 rfl Tryz.ntmps123 (lb rfl) fun w0 hpre => ?_
  have hjl := hz.k2
  have hs_1 : Sees w0 (.slice d.a d.l.length d.c) 3 d.l.length (d.l.flatMap encO) := (hpre).head
  have hi_2 : SeesA w0 (d.l.flatMap rdsO) := (hpre).tail
  refine jC <| jE ?_
  refine jH rfl (jm (cs := [.slice d.a d.l.length d.c, str d.jt, iv d.js]) rfl rfl) ?_
  rintro _ _ ⟨b_3, rfl, rfl⟩
  refine jA (jG (v := .bool false) rfl) <| jD <| jB <| jC <| jC <| jE <| jA (jG (v := iv 0) rfl) <| jD <| jB <| jZ ?_
  refine jp (fun k_ e_ L_ => ∃ j : Nat, (j ≤ d.l.length) ∧ (∀ i, i < j → slotG (d.l.getD i o0).t = true) ∧ e_ 1 = .pointer (some ⟨b_3, 0, none⟩) ∧ e_ 3 = nv j ∧ L_ = [bk b_3 39 [.slice d.a d.l.length d.c, str d.jt, iv d.js]] ∧ k_ = d.l.length - j) _ ⟨0, by omega, (fun i hi => absurd hi (Nat.not_lt_zero i)), rfl, rfl, rfl, rfl⟩ ?_
  rintro _ e_4 _ ⟨j, hj, hN, he_5, he_6, rfl, rfl⟩
  refine jC <| jC <| jE <| jA (jF (v := nv j) he_6) <| jA (jI fo39_0 he_5) <| jK (jR 0 (v := .slice d.a d.l.length d.c) rfl rfl ks rfl) <| jA (jf kY rfl) <| jA (jc rfl rfl) <| jD <| jB ?_
  by_cases h_7 : ((j : Nat) : Int) < ((d.l.length : Nat) : Int)
  · have hlt : j < d.l.length := by omega
    refine jS (cB (dT h_7)) <| jQ <| jB <| jC <| jZ <| jC <| jE <| jA (jI fo39_0 he_5) <| jK (jR 0 (v := .slice d.a d.l.length d.c) rfl rfl ks rfl) <| jA (jF (v := nv j) he_6) ?_
    obtain ⟨hr_8, hr_8b, -⟩ := sees_some hs_1 (by omega)
    refine jA (jX (i := j) kY kd hr_8 hr_8b rfl rfl (by omega)) ?_
    have hi_9 := SeesA.elem hi_2 o0 (show j < d.l.length by omega)
    have hs_10 := seesO hi_9
    refine jK (kF (vs := [iv ((d.l.getD j o0).t.seq), .slice ((d.l.getD j o0).x.a0) ((d.l.getD j o0).t.cells.length) ((d.l.getD j o0).x.c0), .bool ((d.l.getD j o0).t.whole)]) hs_1 nM rfl Tryz.isAgg173 kd (flat_take encO_len o0 d.l j (by omega)) rfl (by decide)) ?_
    refine jH rfl (kB (z := .agg #[iv 0, .slice none 0 0, .bool false]) (cs := [iv 0, .slice none 0 0, .bool false]) Tryz.zeroValue173 rfl) ?_
    rintro _ _ ⟨b_11, rfl, rfl⟩
    refine jH rfl (jd 0 (vs := [iv ((d.l.getD j o0).t.seq), .slice ((d.l.getD j o0).x.a0) ((d.l.getD j o0).t.cells.length) ((d.l.getD j o0).x.c0), .bool ((d.l.getD j o0).t.whole)]) (cs' := [iv ((d.l.getD j o0).t.seq), .slice ((d.l.getD j o0).x.a0) ((d.l.getD j o0).t.cells.length) ((d.l.getD j o0).x.c0), .bool ((d.l.getD j o0).t.whole)]) rfl rfl rfl rfl kd rfl rfl (lb rfl) rfl) ?_
    rintro _ _ rfl
    refine jD <| jB <| jC <| jE <| jA (jI fo173_2 rfl) <| jK (jR 0 (v := .bool ((d.l.getD j o0).t.whole)) rfl rfl ky rfl) <| jA (jF (v := .bool ((d.l.getD j o0).t.whole)) rfl) ?_
    rcases Bool.eq_false_or_eq_true ((d.l.getD j o0).t.whole) with h_12 | h_12
    · refine jW rfl rfl rfl (cB h_12) (jY (jh (jI fo173_0 rfl))) ?_
      rintro _ _ ⟨rfl, rfl⟩
      refine jW rfl rfl rfl (cB h_12) (jY (jR 0 (v := iv ((d.l.getD j o0).t.seq)) rfl rfl kR rfl)) ?_
      rintro _ _ ⟨rfl, rfl⟩
      refine jW rfl rfl rfl (cB h_12) (jU [] Tryz.call124 rfl (Y_l01In ((d.l.getD j o0).t.seq) 0 99999) rfl (fun _ _ => trivial)) ?_
      rintro _ _ ⟨_, ⟨rfl, rfl⟩, rfl⟩
      refine jW rfl rfl rfl (cB h_12) (jY (jh (kE rfl))) ?_
      rintro _ _ ⟨rfl, rfl⟩
      refine jW rfl rfl rfl (cB h_12) (jY (jh (jF (v := .bool (!(within 0 ((d.l.getD j o0).t.seq) 99999))) rfl))) ?_
      rintro _ _ ⟨rfl, rfl⟩
      rcases Bool.eq_false_or_eq_true (within 0 ((d.l.getD j o0).t.seq) 99999) with h_13 | h_13
      · refine jW rfl rfl rfl (cB (cN h_13)) (jY (jh (jI fo173_1 rfl))) ?_
        rintro _ _ ⟨rfl, rfl⟩
        refine jW rfl rfl rfl (cB (cN h_13)) (jY (jR 0 (v := .slice ((d.l.getD j o0).x.a0) ((d.l.getD j o0).t.cells.length) ((d.l.getD j o0).x.c0)) rfl rfl kx rfl)) ?_
        rintro _ _ ⟨rfl, rfl⟩
        refine jW rfl rfl rfl (cB (cN h_13)) (jU [] Tryz.call122 rfl (Y_specStoreOk (d.l.getD j o0).x.a0 ((d.l.getD j o0).x.c0) ((d.l.getD j o0).t.cells) (DX.okz_get hz j (by omega)).k0) rfl (fun w hw => hw.seeOut_ hs_10 nM)) ?_
        rintro _ _ ⟨_, ⟨rfl, rfl⟩, rfl⟩
        refine jW rfl rfl rfl (cB (cN h_13)) (jY (jh (kE rfl))) ?_
        rintro _ _ ⟨rfl, rfl⟩
        refine jW rfl rfl rfl (cB h_12) (jY (jh (jx (v := .bool (!(storeOk ((d.l.getD j o0).t.cells)))) (cB (cN h_13)) rfl))) ?_
        rintro _ _ ⟨rfl, rfl⟩
        refine jA (jy (v := .bool (!(storeOk ((d.l.getD j o0).t.cells)))) (cB h_12) rfl) <| jD <| jB ?_
        rcases Bool.eq_false_or_eq_true (storeOk ((d.l.getD j o0).t.cells)) with h_14 | h_14
        · refine jP (cB (cN h_14)) <| jQ <| jk <| jB <| jE <| jA (jF (v := nv j) he_6) <| jA (ja (c := ((j + 1 : Nat) : Int)) rfl rfl (wr (by omega))) <| jA (jG (v := iv ((j + 1 : Nat) : Int)) rfl) <| jD <| kL [1] (A := [bk b_3 39 [.slice d.a d.l.length d.c, str d.jt, iv d.js]]) rfl ?_
          refine jl (d.l.length - (j + 1)) (by omega) ⟨j + 1, by omega, (fun i hi => if h : i = j then h ▸ (by simp only [slotG, Bool.and_true, Bool.true_and, Bool.and_false, Bool.false_and, Bool.or_true, Bool.true_or, Bool.or_false, Bool.false_or, Bool.not_true, Bool.not_false, ((dT h_7)), (h_12), (h_13), (h_14)]) else hN i (by omega)), he_5, rfl, rfl, rfl⟩
        refine jS (cB (cN h_14)) <| jC <| jE <| jA (jG (v := .bool false) rfl) <| jD <| jB <| jJ <| je <| jO <| jO ?_
        refine je <| jO <| jL (.inl rfl) rfl (jM (v := .bool false) rfl) (List.nil_sublist _) ?_
        refine ⟨cB ?_, rfl⟩
        rw [diskOk_dat]
        exact (diskOkF_slot (f := (fun i => (d.l.getD i o0).t)) hlt (by simp only [slotG, Bool.and_true, Bool.true_and, Bool.and_false, Bool.false_and, Bool.or_true, Bool.true_or, Bool.or_false, Bool.false_or, Bool.not_true, Bool.not_false, ((dT h_7)), (h_12), (h_13), (h_14)])).symm
      refine jV (b := true) rfl rfl rfl (cB (cN h_13)) <| jV (b := true) rfl rfl rfl (cB (cN h_13)) <| jV (b := true) rfl rfl rfl (cB (cN h_13)) <| jV (b := true) rfl rfl rfl (cB (cN h_13)) <| jW rfl rfl rfl (cB h_12) (jY (jh (jy (v := .bool true) (cB (cN h_13)) rfl))) ?_
      rintro _ _ ⟨rfl, rfl⟩
      refine jA (jy (v := .bool true) (cB h_12) rfl) <| jD <| jB <| jS (cB rfl) <| jC <| jE <| jA (jG (v := .bool false) rfl) <| jD <| jB <| jJ ?_
      refine je <| jO <| jO <| je <| jO <| jL (.inl rfl) rfl (jM (v := .bool false) rfl) (List.nil_sublist _) ?_
      refine ⟨cB ?_, rfl⟩
      rw [diskOk_dat]
      exact (diskOkF_slot (f := (fun i => (d.l.getD i o0).t)) hlt (by simp only [slotG, Bool.and_true, Bool.true_and, Bool.and_false, Bool.false_and, Bool.or_true, Bool.true_or, Bool.or_false, Bool.false_or, Bool.not_true, Bool.not_false, ((dT h_7)), (h_12), (h_13)])).symm
    refine jV (b := false) rfl rfl rfl (cB h_12) <| jV (b := false) rfl rfl rfl (cB h_12) <| jV (b := false) rfl rfl rfl (cB h_12) <| jV (b := false) rfl rfl rfl (cB h_12) <| jV (b := false) rfl rfl rfl (cB h_12) <| JL.guardOffU rfl rfl rfl rfl <| JL.guardOffU rfl rfl rfl rfl <| JL.guardOffU rfl rfl rfl rfl <| JL.guardOffU rfl rfl rfl rfl <| jV (b := false) rfl rfl rfl (cB h_12) ?_
    refine jA (jx (v := .bool false) (cB h_12) rfl) <| jD <| jB <| jP (cB rfl) <| jQ <| jk <| jB <| jE <| jA (jF (v := nv j) he_6) <| jA (ja (c := ((j + 1 : Nat) : Int)) rfl rfl (wr (by omega))) ?_
    refine jA (jG (v := iv ((j + 1 : Nat) : Int)) rfl) <| jD <| kL [1] (A := [bk b_3 39 [.slice d.a d.l.length d.c, str d.jt, iv d.js]]) rfl ?_
    refine jl (d.l.length - (j + 1)) (by omega) ⟨j + 1, by omega, (fun i hi => if h : i = j then h ▸ (by simp only [slotG, Bool.and_true, Bool.true_and, Bool.and_false, Bool.false_and, Bool.or_true, Bool.true_or, Bool.or_false, Bool.false_or, Bool.not_true, Bool.not_false, ((dT h_7)), (h_12)]) else hN i (by omega)), he_5, rfl, rfl, rfl⟩
  refine jP (cB (dF h_7)) <| jn <| jb <| jb <| jo <| jB <| jC <| jE <| jA (jI fo39_0 he_5) <| jK (jR 0 (v := .slice d.a d.l.length d.c) rfl rfl ks rfl) ?_
  refine jA (jf kY rfl) <| jA (PO.eqlI rfl rfl) <| jA (jF (v := .bool (decide (((d.l.length : Nat) : Int) = 2))) rfl) ?_
  by_cases h_15 : ((d.l.length : Nat) : Int) = 2
  · refine jW rfl rfl rfl (cB (dT h_15)) (jY (jg 0 (vs := [.slice d.a d.l.length d.c, str d.jt, iv d.js]) rfl he_5 kz kq rfl rfl)) ?_
    rintro _ _ ⟨rfl, rfl⟩
    refine jW rfl rfl rfl (cB (dT h_15)) (jU [] Tryz.call146 rfl (Y_sBest d hz (by omega)) rfl (fun w hw => hw.seeOutA hpre nMA)) ?_
    rintro _ _ ⟨_, ⟨rfl, rfl⟩, rfl⟩
    refine jW rfl rfl rfl (cB (dT h_15)) (jY (jh (PO.geq rfl rfl))) ?_
    rintro _ _ ⟨rfl, rfl⟩
    refine jA (jy (v := .bool (decide (0 ≤ (bestD d.dat)))) (cB (dT h_15)) rfl) <| jA (jF (v := .bool (decide (0 ≤ (bestD d.dat)))) rfl) ?_
    by_cases h_16 : 0 ≤ (bestD d.dat)
    · refine jW rfl rfl rfl (cB (dT h_16)) (jY (jh (jI fo39_1 he_5))) ?_
      rintro _ _ ⟨rfl, rfl⟩
      refine jW rfl rfl rfl (cB (dT h_16)) (jY (jg 0 (vs := [str d.jt, iv d.js]) rfl rfl Tryz.isAgg37 Tryz.sizeOf37 rfl rfl)) ?_
      rintro _ _ ⟨rfl, rfl⟩
      refine jW rfl rfl rfl (cB (dT h_16)) (jU [] Tryz.call147 rfl (Y_specJournalOk d.jt d.js hjl) rfl (fun _ _ => trivial)) ?_
      rintro _ _ ⟨_, ⟨rfl, rfl⟩, rfl⟩
      refine jA (jy (v := .bool (jourOk d.jt d.js)) (cB (dT h_16)) rfl) <| jA (jG (v := .bool (jourOk d.jt d.js)) rfl) <| jD <| jB <| jJ <| jL (.inl rfl) rfl (jM (v := .bool (jourOk d.jt d.js)) rfl) (List.nil_sublist _) ?_
      refine ⟨cB ?_, rfl⟩
      rw [diskOk_dat, diskOkF_spec (f := (fun i => (d.l.getD i o0).t)) (by omega) hN, ← bestD_dat]
      simp only [Bool.and_true, Bool.true_and, Bool.and_false, Bool.false_and, Bool.or_true, Bool.true_or, Bool.or_false, Bool.false_or, Bool.not_true, Bool.not_false, ((dF h_7)), ((dT h_15)), ((dT h_16))]
    refine jV (b := false) rfl rfl rfl (cB (dF h_16)) <| jV (b := false) rfl rfl rfl (cB (dF h_16)) <| jV (b := false) rfl rfl rfl (cB (dF h_16)) <| jA (jx (v := .bool false) (cB (dF h_16)) rfl) <| jA (jG (v := .bool false) rfl) <| jD <| jB <| jJ <| jL (.inl rfl) rfl (jM (v := .bool false) rfl) (List.nil_sublist _) ?_
    refine ⟨cB ?_, rfl⟩
    rw [diskOk_dat, diskOkF_spec (f := (fun i => (d.l.getD i o0).t)) (by omega) hN, ← bestD_dat]
    simp only [Bool.and_true, Bool.true_and, Bool.and_false, Bool.false_and, Bool.or_true, Bool.true_or, Bool.or_false, Bool.false_or, Bool.not_true, Bool.not_false, ((dF h_7)), ((dT h_15)), ((dF h_16))]
  refine jV (b := false) rfl rfl rfl (cB (dF h_15)) <| jV (b := false) rfl rfl rfl (cB (dF h_15)) <| jV (b := false) rfl rfl rfl (cB (dF h_15)) <| jA (jx (v := .bool false) (cB (dF h_15)) rfl) <| jA (jF (v := .bool false) rfl) <| jV (b := false) rfl rfl rfl (cB rfl) <| jV (b := false) rfl rfl rfl (cB rfl) <| jV (b := false) rfl rfl rfl (cB rfl) <| jA (jx (v := .bool false) (cB rfl) rfl) <| jA (jG (v := .bool false) rfl) ?_
  refine jD <| jB <| jJ <| jL (.inl rfl) rfl (jM (v := .bool false) rfl) (List.nil_sublist _) ?_
  refine ⟨cB ?_, rfl⟩
  rw [diskOk_dat, diskOkF_spec (f := (fun i => (d.l.getD i o0).t)) (by omega) hN, ← bestD_dat]
  simp only [Bool.and_true, Bool.true_and, Bool.and_false, Bool.false_and, Bool.or_true, Bool.true_or, Bool.or_false, Bool.false_or, Bool.not_true, Bool.not_false, ((dF h_7)), ((dF h_15))]

theorem N_iFindTxT (a : Option Addr) (c : Nat) (l : List TX) (hn : l.length ≤ 1000000000) (id : Int) (j : Nat) (hj : j ≤ l.length) : Ct Tryz.prog 64 [.slice a j c, .int .i64 id] [] (fun w_ => Sees w_ (.slice a j c) 10 j ((l.take j).flatMap encX)) (fun v A' => v = .int .i64 (findT ((l.take j).map TX.t) id) ∧ A' = []) := by
  have h := N_iFindTx a c (l.take j) (by rw [List.length_take]; omega) id
  have e : (l.take j).length = j := by rw [List.length_take]; omega
  rw [e] at h
  exact h

set_option maxRecDepth 4000 in
set_option maxHeartbeats 1000000 in
theorem Y_implKernelOk (k : KX) (hz : k.dat.okz) (hl : k.dat.lim 1000000000) :
    Ct Tryz.prog 77 [.agg #[.slice k.a0 k.store.length k.c0, .slice k.a1 k.txs.length k.c1, .slice k.dk.a k.dk.l.length k.dk.c, str k.dk.jt, .int .i64 k.dk.js, .int .i64 k.seq, .int .i64 k.next, .int .i64 k.time, .slice k.a2 k.hist.length k.c2, .slice k.a3 k.seen.length k.c3, .bool k.room]] [] (fun w => SeesA w (rdsN k)) (fun v A' => v = .bool (kernelOk k.dat) ∧ A' = []) := by
  refine Ct.intro Tryz.func77 rfl Tryz.ntmps77 (lb rfl) fun w0 hpre => ?_
  obtain ⟨hs_1, hs_2, hs_3, hs_4, hs_5⟩ := seesN hpre
  have hs_6 : Sees w0 (.slice k.a1 k.txs.length k.c1) 10 k.txs.length (k.txs.flatMap encX) := (hs_3).head
  have hi_7 : SeesA w0 (k.txs.flatMap rdsX) := (hs_3).tail
  have hs_8 : Sees w0 (.slice k.dk.a k.dk.l.length k.dk.c) 3 k.dk.l.length (k.dk.l.flatMap encO) := (hs_4).head
  have hi_9 : SeesA w0 (k.dk.l.flatMap rdsO) := (hs_4).tail
  have hs_10 : Sees w0 (.slice k.a2 k.hist.length k.c2) 8 k.hist.length (k.hist.flatMap encE) := (hs_5).head
  have hi_11 : SeesA w0 (k.hist.flatMap rdsE) := (hs_5).tail
  have hm0 : k.store.length ≤ 1000000000 := hl.l0
  have hm6 : k.seen.length ≤ 1000000000 := hl.l6
  have hm1 : k.txs.length ≤ 1000000000 := by have := hl.l1; simpa only [KX.dat, List.length_map] using this
  have hm2 : ∀ q ∈ k.txs, q.t.lim 1000000000 := fun q hq => hl.l2 _ (List.mem_map_of_mem hq)
  have hm4 : k.hist.length ≤ 1000000000 := by have := hl.l4; simpa only [KX.dat, List.length_map] using this
  have hm5 : ∀ q ∈ k.hist, q.t.lim 1000000000 := fun q hq => hl.l5 _ (List.mem_map_of_mem hq)
  have hdl : k.dk.l.length ≤ 1000000000 := by have := hl.l3.l0; simpa only [KX.dat, DX.dat, List.length_map] using this
  refine jC <| jE ?_
  refine jH rfl (jm (cs := [.slice k.a0 k.store.length k.c0, .slice k.a1 k.txs.length k.c1, .slice k.dk.a k.dk.l.length k.dk.c, str k.dk.jt, iv k.dk.js, iv k.seq, iv k.next, iv k.time, .slice k.a2 k.hist.length k.c2, .slice k.a3 k.seen.length k.c3, .bool k.room]) rfl rfl) ?_
  rintro _ _ ⟨b_12, rfl, rfl⟩
  refine jA (jG (v := .bool false) rfl) <| jD <| jB <| jC <| jC <| jE <| jA (jI fo42_0 rfl) <| jK (jR 0 (v := .slice k.a0 k.store.length k.c0) rfl rfl kx rfl) ?_
  refine jH rfl (jU [] Tryz.call127 rfl (Y_implStoreOk k.a0 k.c0 k.store hz.k0) rfl (fun w hw => hw.seeOut_ hs_1 nM)) ?_
  rintro _ _ ⟨_, ⟨rfl, rfl⟩, rfl⟩
  refine jA (kE rfl) <| jA (jF (v := .bool (!(storeOk k.store))) rfl) ?_
  rcases Bool.eq_false_or_eq_true (storeOk k.store) with h_13 | h_13
  · refine jW rfl rfl rfl (cB (cN h_13)) (jY (jh (jI fo42_2 rfl))) ?_
    rintro _ _ ⟨rfl, rfl⟩
    refine jW rfl rfl rfl (cB (cN h_13)) (jY (jg 0 (vs := [.slice k.dk.a k.dk.l.length k.dk.c, str k.dk.jt, iv k.dk.js]) rfl rfl kz kq rfl rfl)) ?_
    rintro _ _ ⟨rfl, rfl⟩
    refine jW rfl rfl rfl (cB (cN h_13)) (jU [] Tryz.call128 rfl (Y_implDiskOk k.dk hz.k3 (by omega)) rfl (fun w hw => hw.seeOutA hs_4 nMA)) ?_
    rintro _ _ ⟨_, ⟨rfl, rfl⟩, rfl⟩
    refine jW rfl rfl rfl (cB (cN h_13)) (jY (jh (kE rfl))) ?_
    rintro _ _ ⟨rfl, rfl⟩
    refine jA (jx (v := .bool (!(diskOk k.dk.dat))) (cB (cN h_13)) rfl) <| jA (jF (v := .bool (!(diskOk k.dk.dat))) rfl) ?_
    rcases Bool.eq_false_or_eq_true (diskOk k.dk.dat) with h_14 | h_14
    · refine jW rfl rfl rfl (cB (cN h_14)) (jY (jh (jI fo42_3 rfl))) ?_
      rintro _ _ ⟨rfl, rfl⟩
      refine jW rfl rfl rfl (cB (cN h_14)) (jY (jR 0 (v := iv k.seq) rfl rfl kR rfl)) ?_
      rintro _ _ ⟨rfl, rfl⟩
      refine jW rfl rfl rfl (cB (cN h_14)) (jU [] Tryz.call129 rfl (Y_within k.seq 0 99000) rfl (fun _ _ => trivial)) ?_
      rintro _ _ ⟨_, ⟨rfl, rfl⟩, rfl⟩
      refine jW rfl rfl rfl (cB (cN h_14)) (jY (jh (kE rfl))) ?_
      rintro _ _ ⟨rfl, rfl⟩
      refine jA (jx (v := .bool (!(within 0 k.seq 99000))) (cB (cN h_14)) rfl) <| jD <| jB ?_
      rcases Bool.eq_false_or_eq_true (within 0 k.seq 99000) with h_15 | h_15
      · refine jP (cB (cN h_15)) <| jQ <| jB <| jC <| jC <| jE <| jA (jI fo42_1 rfl) <| jK (jR 0 (v := .slice k.a1 k.txs.length k.c1) rfl rfl kw rfl) <| jA (jf kU rfl) <| jA (jF (v := iv 0) rfl) ?_
        refine jD <| jB <| jZ <| jp (fun k_ e_ L_ => ∃ j : Nat, (j ≤ k.txs.length) ∧ (∀ i, i < j → txGX k.txs k.next i = true) ∧ e_ 1 = .pointer (some ⟨b_12, 0, none⟩) ∧ e_ 22 = .slice k.a1 k.txs.length k.c1 ∧ e_ 23 = nv k.txs.length ∧ e_ 24 = nv j ∧ L_ = [bk b_12 42 [.slice k.a0 k.store.length k.c0, .slice k.a1 k.txs.length k.c1, .slice k.dk.a k.dk.l.length k.dk.c, str k.dk.jt, iv k.dk.js, iv k.seq, iv k.next, iv k.time, .slice k.a2 k.hist.length k.c2, .slice k.a3 k.seen.length k.c3, .bool k.room]] ∧ k_ = k.txs.length - j) _ ⟨0, by omega, (fun i hi => absurd hi (Nat.not_lt_zero i)), rfl, rfl, rfl, rfl, rfl, rfl⟩ ?_
        rintro _ e_16 _ ⟨j, hj, hN, he_17, he_18, he_19, he_20, rfl, rfl⟩
        refine jC <| jE <| jA (jc he_20 he_19) <| jD <| jB <| jC ?_
        by_cases h_21 : ((j : Nat) : Int) < ((k.txs.length : Nat) : Int)
        · have hlt : j < k.txs.length := by omega
          refine jS (cB (dT h_21)) <| jQ <| jB <| jC <| jZ <| jC <| jE <| jA (jF (v := nv j) he_20) ?_
          obtain ⟨hr_22, hr_22b, -⟩ := sees_some hs_6 (by omega)
          refine jA (jX (i := j) kU kS hr_22 hr_22b he_18 he_20 (by omega)) ?_
          have hi_23 := SeesA.elem hi_7 x0 (show j < k.txs.length by omega)
          obtain ⟨hs_24, hs_25, hs_26, hs_27, hs_28⟩ := seesX hi_23
          refine jK (kF (vs := [iv ((k.txs.getD j x0).t.id), iv ((k.txs.getD j x0).t.age), iv ((k.txs.getD j x0).t.proc), iv ((k.txs.getD j x0).t.began), .slice ((k.txs.getD j x0).x.a0) ((k.txs.getD j x0).t.calls.length) ((k.txs.getD j x0).x.c0), .slice ((k.txs.getD j x0).x.a1) ((k.txs.getD j x0).t.ans.length) ((k.txs.getD j x0).x.c1), .slice ((k.txs.getD j x0).x.a2) ((k.txs.getD j x0).t.rd.length) ((k.txs.getD j x0).x.c2), .slice ((k.txs.getD j x0).x.a3) ((k.txs.getD j x0).t.wr.length) ((k.txs.getD j x0).x.c3), .slice ((k.txs.getD j x0).x.a4) ((k.txs.getD j x0).t.marks.length) ((k.txs.getD j x0).x.c4), iv ((k.txs.getD j x0).t.state)]) hs_6 nM rfl kg kS (flat_take encX_len x0 k.txs j (by omega)) rfl (by decide)) ?_
          refine jH rfl (kB (z := .agg #[iv 0, iv 0, iv 0, iv 0, .slice none 0 0, .slice none 0 0, .slice none 0 0, .slice none 0 0, .slice none 0 0, iv 0]) (cs := [iv 0, iv 0, iv 0, iv 0, .slice none 0 0, .slice none 0 0, .slice none 0 0, .slice none 0 0, .slice none 0 0, iv 0]) gC rfl) ?_
          rintro _ _ ⟨b_29, rfl, rfl⟩
          refine jA (jG (v := nv j) rfl) ?_
          refine jH rfl (jd 0 (vs := [iv ((k.txs.getD j x0).t.id), iv ((k.txs.getD j x0).t.age), iv ((k.txs.getD j x0).t.proc), iv ((k.txs.getD j x0).t.began), .slice ((k.txs.getD j x0).x.a0) ((k.txs.getD j x0).t.calls.length) ((k.txs.getD j x0).x.c0), .slice ((k.txs.getD j x0).x.a1) ((k.txs.getD j x0).t.ans.length) ((k.txs.getD j x0).x.c1), .slice ((k.txs.getD j x0).x.a2) ((k.txs.getD j x0).t.rd.length) ((k.txs.getD j x0).x.c2), .slice ((k.txs.getD j x0).x.a3) ((k.txs.getD j x0).t.wr.length) ((k.txs.getD j x0).x.c3), .slice ((k.txs.getD j x0).x.a4) ((k.txs.getD j x0).t.marks.length) ((k.txs.getD j x0).x.c4), iv ((k.txs.getD j x0).t.state)]) (cs' := [iv ((k.txs.getD j x0).t.id), iv ((k.txs.getD j x0).t.age), iv ((k.txs.getD j x0).t.proc), iv ((k.txs.getD j x0).t.began), .slice ((k.txs.getD j x0).x.a0) ((k.txs.getD j x0).t.calls.length) ((k.txs.getD j x0).x.c0), .slice ((k.txs.getD j x0).x.a1) ((k.txs.getD j x0).t.ans.length) ((k.txs.getD j x0).x.c1), .slice ((k.txs.getD j x0).x.a2) ((k.txs.getD j x0).t.rd.length) ((k.txs.getD j x0).x.c2), .slice ((k.txs.getD j x0).x.a3) ((k.txs.getD j x0).t.wr.length) ((k.txs.getD j x0).x.c3), .slice ((k.txs.getD j x0).x.a4) ((k.txs.getD j x0).t.marks.length) ((k.txs.getD j x0).x.c4), iv ((k.txs.getD j x0).t.state)]) rfl rfl rfl rfl kS rfl rfl (lb rfl) rfl) ?_
          rintro _ _ rfl
          refine jD <| jB <| jC <| kG [bk b_29 61 [iv ((k.txs.getD j x0).t.id), iv ((k.txs.getD j x0).t.age), iv ((k.txs.getD j x0).t.proc), iv ((k.txs.getD j x0).t.began), .slice ((k.txs.getD j x0).x.a0) ((k.txs.getD j x0).t.calls.length) ((k.txs.getD j x0).x.c0), .slice ((k.txs.getD j x0).x.a1) ((k.txs.getD j x0).t.ans.length) ((k.txs.getD j x0).x.c1), .slice ((k.txs.getD j x0).x.a2) ((k.txs.getD j x0).t.rd.length) ((k.txs.getD j x0).x.c2), .slice ((k.txs.getD j x0).x.a3) ((k.txs.getD j x0).t.wr.length) ((k.txs.getD j x0).x.c3), .slice ((k.txs.getD j x0).x.a4) ((k.txs.getD j x0).t.marks.length) ((k.txs.getD j x0).x.c4), iv ((k.txs.getD j x0).t.state)], bk b_12 42 [.slice k.a0 k.store.length k.c0, .slice k.a1 k.txs.length k.c1, .slice k.dk.a k.dk.l.length k.dk.c, str k.dk.jt, iv k.dk.js, iv k.seq, iv k.next, iv k.time, .slice k.a2 k.hist.length k.c2, .slice k.a3 k.seen.length k.c3, .bool k.room]] 1000 mixed (by simp) <| jT 0 rfl (jI fo61_0 rfl) <| jw 1 rfl (jR 0 (v := iv ((k.txs.getD j x0).t.id)) rfl rfl kR rfl) <| jT 2 rfl (jI fo42_4 he_17) <| jw 3 rfl (jR 1 (v := iv k.next) rfl rfl kR rfl) <| jT 4 rfl (PO.geq rfl rfl) <| jT 5 rfl (jF (v := .bool (decide (k.next ≤ ((k.txs.getD j x0).t.id)))) rfl) ?_
          by_cases h_30 : k.next ≤ ((k.txs.getD j x0).t.id)
          · refine jj 6 (b := true) rfl (by kernel_rfl) (NP.th (NP.bl (NP.th (NP.th (NP.bl (NP.th NP.body)))))) (by kernel_rfl) (by kernel_rfl) rfl rfl rfl (cB (dT h_30)) <| jj 7 (b := true) rfl (by kernel_rfl) (NP.th (NP.bl (NP.th (NP.th (NP.bl (NP.th NP.body)))))) (by kernel_rfl) (by kernel_rfl) rfl rfl rfl (cB (dT h_30)) <| jj 8 (b := true) rfl (by kernel_rfl) (NP.th (NP.bl (NP.th (NP.th (NP.bl (NP.th NP.body)))))) (by kernel_rfl) (by kernel_rfl) rfl rfl rfl (cB (dT h_30)) <| jj 9 (b := true) rfl (by kernel_rfl) (NP.th (NP.bl (NP.th (NP.th (NP.bl (NP.th NP.body)))))) (by kernel_rfl) (by kernel_rfl) rfl rfl rfl (cB (dT h_30)) <| jj 10 (b := true) rfl (by kernel_rfl) (NP.th (NP.bl (NP.th (NP.th (NP.bl (NP.th NP.body)))))) (by kernel_rfl) (by kernel_rfl) rfl rfl rfl (cB (dT h_30)) <| jj 11 (b := true) rfl (by kernel_rfl) (NP.th (NP.bl (NP.th (NP.th (NP.bl (NP.th NP.body)))))) (by kernel_rfl) (by kernel_rfl) rfl rfl rfl (cB (dT h_30)) <| jj 12 (b := true) rfl (by kernel_rfl) (NP.th (NP.bl (NP.th (NP.th (NP.bl (NP.th NP.body)))))) (by kernel_rfl) (by kernel_rfl) rfl rfl rfl (cB (dT h_30)) <| jj 13 (b := true) rfl (by kernel_rfl) (NP.th (NP.bl (NP.th (NP.th (NP.bl (NP.th NP.body)))))) (by kernel_rfl) (by kernel_rfl) rfl rfl rfl (cB (dT h_30)) <| jT 14 rfl (jy (v := .bool true) (cB (dT h_30)) rfl) <| kH (by kernel_rfl) ?_
            refine jB <| jS (cB rfl) <| jC <| jE <| jA (jG (v := .bool false) rfl) <| jD <| jB <| jJ <| je <| jO ?_
            refine jO <| je <| jO <| jL (.inl rfl) rfl (jM (v := .bool false) rfl) (List.nil_sublist _) ?_
            refine ⟨cB ?_, rfl⟩
            exact (kernelOk_bad hlt (by have hfa := find_ahead (id := (k.txs.getD j x0).t.id) hlt rfl; simp only [txGX]; first | (rw [hfa]; simp_all [-List.getD_eq_getElem?_getD]; done) | (simp_all [-List.getD_eq_getElem?_getD]; done) | (simp_all [-List.getD_eq_getElem?_getD]; omega))).symm
          refine jr 6 rfl (by kernel_rfl) (NP.th (NP.bl (NP.th (NP.th (NP.bl (NP.th NP.body)))))) (by kernel_rfl) (by kernel_rfl) rfl rfl rfl (cB (dF h_30)) (jI fo42_1 he_17) <| JA.takeOn 7 rfl (by kernel_rfl) (NP.th (NP.bl (NP.th (NP.th (NP.bl (NP.th NP.body)))))) (by kernel_rfl) (by kernel_rfl) (by kernel_rfl) rfl rfl rfl (cB (dF h_30)) (jR 1 (v := .slice k.a1 k.txs.length k.c1) rfl rfl kw rfl) <| jr 8 rfl (by kernel_rfl) (NP.th (NP.bl (NP.th (NP.th (NP.bl (NP.th NP.body)))))) (by kernel_rfl) (by kernel_rfl) rfl rfl rfl (cB (dF h_30)) (jF (v := nv j) rfl) ?_
          obtain ⟨hf_31m, hf_31x, hf_31s, hf_31l⟩ := sees_fits hs_6
          refine jr 9 rfl (by kernel_rfl) (NP.th (NP.bl (NP.th (NP.th (NP.bl (NP.th NP.body)))))) (by kernel_rfl) (by kernel_rfl) rfl rfl rfl (cB (dF h_30)) (PO.sliceVh (j := j) kU kS hf_31s rfl rfl (by omega)) <| jr 10 rfl (by kernel_rfl) (NP.th (NP.bl (NP.th (NP.th (NP.bl (NP.th NP.body)))))) (by kernel_rfl) (by kernel_rfl) rfl rfl rfl (cB (dF h_30)) (jI fo61_0 rfl) <| JA.takeOn 11 rfl (by kernel_rfl) (NP.th (NP.bl (NP.th (NP.th (NP.bl (NP.th NP.body)))))) (by kernel_rfl) (by kernel_rfl) (by kernel_rfl) rfl rfl rfl (cB (dF h_30)) (jR 0 (v := iv ((k.txs.getD j x0).t.id)) rfl rfl kR rfl) <| jq (i := 12) ?_
          refine JX.opOnD rfl rfl rfl rfl (cB (dF h_30)) (jU [] Tryz.call64 rfl (N_iFindTxT k.a1 k.c1 k.txs (by omega) ((k.txs.getD j x0).t.id) j (by omega)) rfl (fun w hw => hiX (hw.seeOut_ hs_6 nM) j (by omega))) ?_
          rintro _ _ ⟨_, ⟨rfl, rfl⟩, rfl⟩
          refine ⟨by simp, ?_⟩
          refine jr 13 rfl (by kernel_rfl) (NP.th (NP.bl (NP.th (NP.th (NP.bl (NP.th NP.body)))))) (by kernel_rfl) (by kernel_rfl) rfl rfl rfl (cB (dF h_30)) (PO.geq rfl rfl) <| jT 14 rfl (jx (v := .bool (decide (0 ≤ (findT ((k.txs.take j).map TX.t) ((k.txs.getD j x0).t.id))))) (cB (dF h_30)) rfl) <| kH (by kernel_rfl) <| jB ?_
          by_cases h_32 : 0 ≤ (findT ((k.txs.take j).map TX.t) ((k.txs.getD j x0).t.id))
          · refine jS (cB (dT h_32)) <| jC <| jE <| jA (jG (v := .bool false) rfl) <| jD <| jB <| jJ <| je <| jO <| jO ?_
            refine je <| jO <| jL (.inl rfl) rfl (jM (v := .bool false) rfl) (List.nil_sublist _) ?_
            refine ⟨cB ?_, rfl⟩
            exact (kernelOk_bad hlt (by have hfa := find_ahead (id := (k.txs.getD j x0).t.id) hlt rfl; simp only [txGX]; first | (rw [hfa]; simp_all [-List.getD_eq_getElem?_getD]; done) | (simp_all [-List.getD_eq_getElem?_getD]; done) | (simp_all [-List.getD_eq_getElem?_getD]; omega))).symm
          refine jP (cB (dF h_32)) <| jQ <| jk <| jB <| jE <| jA (ja (c := ((j + 1 : Nat) : Int)) he_20 rfl (wr (by omega))) <| jA (jF (v := iv ((j + 1 : Nat) : Int)) rfl) <| jD <| kL [1] (A := [bk b_12 42 [.slice k.a0 k.store.length k.c0, .slice k.a1 k.txs.length k.c1, .slice k.dk.a k.dk.l.length k.dk.c, str k.dk.jt, iv k.dk.js, iv k.seq, iv k.next, iv k.time, .slice k.a2 k.hist.length k.c2, .slice k.a3 k.seen.length k.c3, .bool k.room]]) rfl ?_
          refine jl (k.txs.length - (j + 1)) (by omega) ⟨j + 1, by omega, (fun i hi => if h : i = j then h ▸ (by have hfa := find_ahead (id := (k.txs.getD j x0).t.id) hlt rfl; simp only [txGX]; first | (rw [hfa]; simp_all [-List.getD_eq_getElem?_getD]; done) | (simp_all [-List.getD_eq_getElem?_getD]; done) | (simp_all [-List.getD_eq_getElem?_getD]; omega)) else hN i (by omega)), he_17, he_18, he_19, rfl, rfl, rfl⟩
        refine jP (cB (dF h_21)) <| jn <| jb <| jb <| jo <| jB <| jC <| jE <| jA (jI fo42_1 he_17) <| jK (jR 0 (v := .slice k.a1 k.txs.length k.c1) rfl rfl kw rfl) ?_
        refine jH rfl (jU [] Tryz.call130 rfl (Y_implApart k.a1 k.c1 k.txs (by omega) (KX.okz_get hz)) rfl (fun w hw => SeesA.cons (hw.seeOut_ hs_6 nM) (hw.seeOutA hi_7 nMA))) ?_
        rintro _ _ ⟨_, ⟨rfl, rfl⟩, rfl⟩
        refine jA (jG (v := .bool (apartAll (k.txs.map TX.t))) rfl) <| jD <| jB <| jJ <| jL (.inl rfl) rfl (jM (v := .bool (apartAll (k.txs.map TX.t))) rfl) (List.nil_sublist _) ?_
        refine ⟨cB ?_, rfl⟩
        rw [kernelOk_end (by omega) hN]
        simp only [Bool.and_true, Bool.true_and, Bool.and_false, Bool.false_and, Bool.or_true, Bool.true_or, Bool.or_false, Bool.false_or, Bool.not_true, Bool.not_false, (h_13), (h_14), (h_15), ((dF h_21))]
      refine jS (cB (cN h_15)) <| jC <| jE <| jA (jG (v := .bool false) rfl) <| jD <| jB <| jJ <| jO <| jL (.inl rfl) rfl (jM (v := .bool false) rfl) (List.nil_sublist _) ?_
      refine ⟨cB ?_, rfl⟩
      rw [kernelOk_dat]
      simp only [Bool.and_true, Bool.true_and, Bool.and_false, Bool.false_and, Bool.or_true, Bool.true_or, Bool.or_false, Bool.false_or, Bool.not_true, Bool.not_false, (h_13), (h_14), (h_15)]
    refine jV (b := true) rfl rfl rfl (cB (cN h_14)) <| jV (b := true) rfl rfl rfl (cB (cN h_14)) <| jV (b := true) rfl rfl rfl (cB (cN h_14)) <| jV (b := true) rfl rfl rfl (cB (cN h_14)) <| jA (jy (v := .bool true) (cB (cN h_14)) rfl) <| jD <| jB <| jS (cB rfl) <| jC <| jE ?_
    refine jA (jG (v := .bool false) rfl) <| jD <| jB <| jJ <| jO <| jL (.inl rfl) rfl (jM (v := .bool false) rfl) (List.nil_sublist _) ?_
    refine ⟨cB ?_, rfl⟩
    rw [kernelOk_dat]
    simp only [Bool.and_true, Bool.true_and, Bool.and_false, Bool.false_and, Bool.or_true, Bool.true_or, Bool.or_false, Bool.false_or, Bool.not_true, Bool.not_false, (h_13), (h_14)]
  refine jV (b := true) rfl rfl rfl (cB (cN h_13)) <| jV (b := true) rfl rfl rfl (cB (cN h_13)) <| jV (b := true) rfl rfl rfl (cB (cN h_13)) <| jV (b := true) rfl rfl rfl (cB (cN h_13)) <| jA (jy (v := .bool true) (cB (cN h_13)) rfl) <| jA (jF (v := .bool true) rfl) <| jV (b := true) rfl rfl rfl (cB rfl) <| jV (b := true) rfl rfl rfl (cB rfl) <| jV (b := true) rfl rfl rfl (cB rfl) <| jV (b := true) rfl rfl rfl (cB rfl) ?_
  refine jA (jy (v := .bool true) (cB rfl) rfl) <| jD <| jB <| jS (cB rfl) <| jC <| jE <| jA (jG (v := .bool false) rfl) <| jD <| jB <| jJ ?_
  refine jO <| jL (.inl rfl) rfl (jM (v := .bool false) rfl) (List.nil_sublist _) ?_
  refine ⟨cB ?_, rfl⟩
  rw [kernelOk_dat]
  simp only [Bool.and_true, Bool.true_and, Bool.and_false, Bool.false_and, Bool.or_true, Bool.true_or, Bool.or_false, Bool.false_or, Bool.not_true, Bool.not_false, (h_13)]

set_option maxRecDepth 4000 in
set_option maxHeartbeats 1000000 in
theorem Y_specKernelOk (k : KX) (hz : k.dat.okz) (hl : k.dat.lim 1000000000) :
    Ct Tryz.prog 75 [.agg #[.slice k.a0 k.store.length k.c0, .slice k.a1 k.txs.length k.c1, .slice k.dk.a k.dk.l.length k.dk.c, str k.dk.jt, .int .i64 k.dk.js, .int .i64 k.seq, .int .i64 k.next, .int .i64 k.time, .slice k.a2 k.hist.length k.c2, .slice k.a3 k.seen.length k.c3, .bool k.room]] [] (fun w => SeesA w (rdsN k)) (fun v A' => v = .bool (kernelOk k.dat) ∧ A' = []) := by
  refine Ct.intro Tryz.func75 rfl Tryz.ntmps75 (lb rfl) fun w0 hpre => ?_
  obtain ⟨hs_1, hs_2, hs_3, hs_4, hs_5⟩ := seesN hpre
  have hs_6 : Sees w0 (.slice k.a1 k.txs.length k.c1) 10 k.txs.length (k.txs.flatMap encX) := (hs_3).head
  have hi_7 : SeesA w0 (k.txs.flatMap rdsX) := (hs_3).tail
  have hs_8 : Sees w0 (.slice k.dk.a k.dk.l.length k.dk.c) 3 k.dk.l.length (k.dk.l.flatMap encO) := (hs_4).head
  have hi_9 : SeesA w0 (k.dk.l.flatMap rdsO) := (hs_4).tail
  have hs_10 : Sees w0 (.slice k.a2 k.hist.length k.c2) 8 k.hist.length (k.hist.flatMap encE) := (hs_5).head
  have hi_11 : SeesA w0 (k.hist.flatMap rdsE) := (hs_5).tail
  have hm0 : k.store.length ≤ 1000000000 := hl.l0
  have hm6 : k.seen.length ≤ 1000000000 := hl.l6
  have hm1 : k.txs.length ≤ 1000000000 := by have := hl.l1; simpa only [KX.dat, List.length_map] using this
  have hm2 : ∀ q ∈ k.txs, q.t.lim 1000000000 := fun q hq => hl.l2 _ (List.mem_map_of_mem hq)
  have hm4 : k.hist.length ≤ 1000000000 := by have := hl.l4; simpa only [KX.dat, List.length_map] using this
  have hm5 : ∀ q ∈ k.hist, q.t.lim 1000000000 := fun q hq => hl.l5 _ (List.mem_map_of_mem hq)
  have hdl : k.dk.l.length ≤ 1000000000 := by have := hl.l3.l0; simpa only [KX.dat, DX.dat, List.length_map] using this
  refine jC <| jE ?_
  refine jH rfl (jm (cs := [.slice k.a0 k.store.length k.c0, .slice k.a1 k.txs.length k.c1, .slice k.dk.a k.dk.l.length k.dk.c, str k.dk.jt, iv k.dk.js, iv k.seq, iv k.next, iv k.time, .slice k.a2 k.hist.length k.c2, .slice k.a3 k.seen.length k.c3, .bool k.room]) rfl rfl) ?_
  rintro _ _ ⟨b_12, rfl, rfl⟩
  refine jA (jG (v := .bool false) rfl) <| jD <| jB <| jC <| jC <| jE <| jA (jG (v := iv 0) rfl) <| jD <| jB <| jZ ?_
  refine jp (fun k_ e_ L_ => ∃ j : Nat, (j ≤ k.txs.length) ∧ (∀ i, i < j → txGX k.txs k.next i = true) ∧ e_ 1 = .pointer (some ⟨b_12, 0, none⟩) ∧ e_ 3 = nv j ∧ L_ = [bk b_12 42 [.slice k.a0 k.store.length k.c0, .slice k.a1 k.txs.length k.c1, .slice k.dk.a k.dk.l.length k.dk.c, str k.dk.jt, iv k.dk.js, iv k.seq, iv k.next, iv k.time, .slice k.a2 k.hist.length k.c2, .slice k.a3 k.seen.length k.c3, .bool k.room]] ∧ k_ = k.txs.length - j) _ ⟨0, by omega, (fun i hi => absurd hi (Nat.not_lt_zero i)), rfl, rfl, rfl, rfl⟩ ?_
  rintro _ e_13 _ ⟨j, hj, hN, he_14, he_15, rfl, rfl⟩
  refine jC <| jC <| jE <| jA (jF (v := nv j) he_15) <| jA (jI fo42_1 he_14) <| jK (jR 0 (v := .slice k.a1 k.txs.length k.c1) rfl rfl kw rfl) <| jA (jf kU rfl) <| jA (jc rfl rfl) <| jD <| jB ?_
  by_cases h_16 : ((j : Nat) : Int) < ((k.txs.length : Nat) : Int)
  · have hlt : j < k.txs.length := by omega
    refine jS (cB (dT h_16)) <| jQ <| jB <| jC <| jZ <| jC <| kG [bk b_12 42 [.slice k.a0 k.store.length k.c0, .slice k.a1 k.txs.length k.c1, .slice k.dk.a k.dk.l.length k.dk.c, str k.dk.jt, iv k.dk.js, iv k.seq, iv k.next, iv k.time, .slice k.a2 k.hist.length k.c2, .slice k.a3 k.seen.length k.c3, .bool k.room]] 1000 mixed (by simp) <| jT 0 rfl (jI fo42_1 he_14) <| jw 1 rfl (jR 0 (v := .slice k.a1 k.txs.length k.c1) rfl rfl kw rfl) <| jT 2 rfl (jF (v := nv j) he_15) ?_
    obtain ⟨hr_17, hr_17b, -⟩ := sees_some hs_6 (by omega)
    refine jT 3 rfl (jX (i := j) kU kS hr_17 hr_17b rfl rfl (by omega)) <| jT 4 rfl (ji fo61_0 hr_17 rfl) ?_
    have hi_18 := SeesA.elem hi_7 x0 (show j < k.txs.length by omega)
    obtain ⟨hs_19, hs_20, hs_21, hs_22, hs_23⟩ := seesX hi_18
    refine jw 5 rfl (ju (v := iv ((k.txs.getD j x0).t.id)) hs_6 nM rfl kR (flat_at encX_len x0 k.txs j 0 (by omega) (by decide))) <| jT 6 rfl (jI fo42_4 he_14) <| jw 7 rfl (jR 0 (v := iv k.next) rfl rfl kR rfl) <| jT 8 rfl (PO.geq rfl rfl) <| jT 9 rfl (jF (v := .bool (decide (k.next ≤ ((k.txs.getD j x0).t.id)))) rfl) ?_
    by_cases h_24 : k.next ≤ ((k.txs.getD j x0).t.id)
    · refine jj 10 (b := true) rfl (by kernel_rfl) (NP.th (NP.bl (NP.th (NP.th (NP.bl (NP.th NP.body)))))) (by kernel_rfl) (by kernel_rfl) rfl rfl rfl (cB (dT h_24)) <| jj 11 (b := true) rfl (by kernel_rfl) (NP.th (NP.bl (NP.th (NP.th (NP.bl (NP.th NP.body)))))) (by kernel_rfl) (by kernel_rfl) rfl rfl rfl (cB (dT h_24)) <| jj 12 (b := true) rfl (by kernel_rfl) (NP.th (NP.bl (NP.th (NP.th (NP.bl (NP.th NP.body)))))) (by kernel_rfl) (by kernel_rfl) rfl rfl rfl (cB (dT h_24)) <| jj 13 (b := true) rfl (by kernel_rfl) (NP.th (NP.bl (NP.th (NP.th (NP.bl (NP.th NP.body)))))) (by kernel_rfl) (by kernel_rfl) rfl rfl rfl (cB (dT h_24)) <| jj 14 (b := true) rfl (by kernel_rfl) (NP.th (NP.bl (NP.th (NP.th (NP.bl (NP.th NP.body)))))) (by kernel_rfl) (by kernel_rfl) rfl rfl rfl (cB (dT h_24)) <| jj 15 (b := true) rfl (by kernel_rfl) (NP.th (NP.bl (NP.th (NP.th (NP.bl (NP.th NP.body)))))) (by kernel_rfl) (by kernel_rfl) rfl rfl rfl (cB (dT h_24)) <| jj 16 (b := true) rfl (by kernel_rfl) (NP.th (NP.bl (NP.th (NP.th (NP.bl (NP.th NP.body)))))) (by kernel_rfl) (by kernel_rfl) rfl rfl rfl (cB (dT h_24)) <| jj 17 (b := true) rfl (by kernel_rfl) (NP.th (NP.bl (NP.th (NP.th (NP.bl (NP.th NP.body)))))) (by kernel_rfl) (by kernel_rfl) rfl rfl rfl (cB (dT h_24)) <| jj 18 (b := true) rfl (by kernel_rfl) (NP.th (NP.bl (NP.th (NP.th (NP.bl (NP.th NP.body)))))) (by kernel_rfl) (by kernel_rfl) rfl rfl rfl (cB (dT h_24)) <| jj 19 (b := true) rfl (by kernel_rfl) (NP.th (NP.bl (NP.th (NP.th (NP.bl (NP.th NP.body)))))) (by kernel_rfl) (by kernel_rfl) rfl rfl rfl (cB (dT h_24)) ?_
      refine jj 20 (b := true) rfl (by kernel_rfl) (NP.th (NP.bl (NP.th (NP.th (NP.bl (NP.th NP.body)))))) (by kernel_rfl) (by kernel_rfl) rfl rfl rfl (cB (dT h_24)) <| jT 21 rfl (jy (v := .bool true) (cB (dT h_24)) rfl) <| kH (by kernel_rfl) <| jB <| jS (cB rfl) <| jC <| jE <| jA (jG (v := .bool false) rfl) <| jD <| jB ?_
      refine jJ <| je <| jO <| jO <| je <| jO <| jL (.inl rfl) rfl (jM (v := .bool false) rfl) (List.nil_sublist _) ?_
      refine ⟨cB ?_, rfl⟩
      exact (kernelOk_bad hlt (by have hfa := find_ahead (id := (k.txs.getD j x0).t.id) hlt rfl; simp only [txGX]; first | (rw [hfa]; simp_all [-List.getD_eq_getElem?_getD]; done) | (simp_all [-List.getD_eq_getElem?_getD]; done) | (simp_all [-List.getD_eq_getElem?_getD]; omega))).symm
    refine jr 10 rfl (by kernel_rfl) (NP.th (NP.bl (NP.th (NP.th (NP.bl (NP.th NP.body)))))) (by kernel_rfl) (by kernel_rfl) rfl rfl rfl (cB (dF h_24)) (jI fo42_1 he_14) <| JA.takeOn 11 rfl (by kernel_rfl) (NP.th (NP.bl (NP.th (NP.th (NP.bl (NP.th NP.body)))))) (by kernel_rfl) (by kernel_rfl) (by kernel_rfl) rfl rfl rfl (cB (dF h_24)) (jR 0 (v := .slice k.a1 k.txs.length k.c1) rfl rfl kw rfl) <| jr 12 rfl (by kernel_rfl) (NP.th (NP.bl (NP.th (NP.th (NP.bl (NP.th NP.body)))))) (by kernel_rfl) (by kernel_rfl) rfl rfl rfl (cB (dF h_24)) (jI fo42_1 he_14) <| JA.takeOn 13 rfl (by kernel_rfl) (NP.th (NP.bl (NP.th (NP.th (NP.bl (NP.th NP.body)))))) (by kernel_rfl) (by kernel_rfl) (by kernel_rfl) rfl rfl rfl (cB (dF h_24)) (jR 0 (v := .slice k.a1 k.txs.length k.c1) rfl rfl kw rfl) <| jr 14 rfl (by kernel_rfl) (NP.th (NP.bl (NP.th (NP.th (NP.bl (NP.th NP.body)))))) (by kernel_rfl) (by kernel_rfl) rfl rfl rfl (cB (dF h_24)) (jF (v := nv j) he_15) <| jr 15 rfl (by kernel_rfl) (NP.th (NP.bl (NP.th (NP.th (NP.bl (NP.th NP.body)))))) (by kernel_rfl) (by kernel_rfl) rfl rfl rfl (cB (dF h_24)) (jX (i := j) kU kS hr_17 hr_17b rfl rfl (by omega)) <| jr 16 rfl (by kernel_rfl) (NP.th (NP.bl (NP.th (NP.th (NP.bl (NP.th NP.body)))))) (by kernel_rfl) (by kernel_rfl) rfl rfl rfl (cB (dF h_24)) (ji fo61_0 hr_17 rfl) <| JA.takeOn 17 rfl (by kernel_rfl) (NP.th (NP.bl (NP.th (NP.th (NP.bl (NP.th NP.body)))))) (by kernel_rfl) (by kernel_rfl) (by kernel_rfl) rfl rfl rfl (cB (dF h_24)) (ju (v := iv ((k.txs.getD j x0).t.id)) hs_6 nM rfl kR (flat_at encX_len x0 k.txs j 0 (by omega) (by decide))) <| jr 19 rfl (by kernel_rfl) (NP.th (NP.bl (NP.th (NP.th (NP.bl (NP.th NP.body)))))) (by kernel_rfl) (by kernel_rfl) rfl rfl rfl (cB (dF h_24)) (jF (v := nv j) he_15) <| jq (i := 18) ?_
    refine JX.opOnD rfl rfl rfl rfl (cB (dF h_24)) (jU [] Tryz.call58 rfl (N_sFindTx k.a1 k.c1 k.txs (by (try simp only [List.length_take]); omega) ((k.txs.getD j x0).t.id)) rfl (fun w hw => hw.seeOut_ hs_6 nM)) ?_
    rintro _ _ ⟨_, ⟨rfl, rfl⟩, rfl⟩
    have hlo_27 := idxT_lo (fun t => t.id = (k.txs.getD j x0).t.id) (k.txs.map TX.t)
    refine ⟨by simp, ?_⟩
    refine jr 20 rfl (by kernel_rfl) (NP.th (NP.bl (NP.th (NP.th (NP.bl (NP.th NP.body)))))) (by kernel_rfl) (by kernel_rfl) rfl rfl rfl (cB (dF h_24)) (jz rfl rfl) <| jT 21 rfl (jx (v := .bool (!(decide ((findT (k.txs.map TX.t) ((k.txs.getD j x0).t.id)) = ((j : Nat) : Int))))) (cB (dF h_24)) rfl) <| kH (by kernel_rfl) <| jB ?_
    by_cases h_28 : (findT (k.txs.map TX.t) ((k.txs.getD j x0).t.id)) = ((j : Nat) : Int)
    · refine jP (cB (cN (dT h_28))) <| jQ <| jk <| jB <| jE <| jA (jF (v := nv j) he_15) <| jA (ja (c := ((j + 1 : Nat) : Int)) rfl rfl (wr (by omega))) <| jA (jG (v := iv ((j + 1 : Nat) : Int)) rfl) <| jD ?_
      refine jl (k.txs.length - (j + 1)) (by omega) ⟨j + 1, by omega, (fun i hi => if h : i = j then h ▸ (by have hfa := find_ahead (id := (k.txs.getD j x0).t.id) hlt rfl; simp only [txGX]; first | (rw [hfa]; simp_all [-List.getD_eq_getElem?_getD]; done) | (simp_all [-List.getD_eq_getElem?_getD]; done) | (simp_all [-List.getD_eq_getElem?_getD]; omega)) else hN i (by omega)), he_14, rfl, rfl, rfl⟩
    refine jS (cB (cN (dF h_28))) <| jC <| jE <| jA (jG (v := .bool false) rfl) <| jD <| jB <| jJ <| je <| jO <| jO ?_
    refine je <| jO <| jL (.inl rfl) rfl (jM (v := .bool false) rfl) (List.nil_sublist _) ?_
    refine ⟨cB ?_, rfl⟩
    exact (kernelOk_bad hlt (by have hfa := find_ahead (id := (k.txs.getD j x0).t.id) hlt rfl; simp only [txGX]; first | (rw [hfa]; simp_all [-List.getD_eq_getElem?_getD]; done) | (simp_all [-List.getD_eq_getElem?_getD]; done) | (simp_all [-List.getD_eq_getElem?_getD]; omega))).symm
  refine jP (cB (dF h_16)) <| jn <| jb <| jb <| jo <| jB <| jC <| jE <| jA (jI fo42_0 he_14) <| jK (jR 0 (v := .slice k.a0 k.store.length k.c0) rfl rfl kx rfl) ?_
  refine jH rfl (jU [] Tryz.call122 rfl (Y_specStoreOk k.a0 k.c0 k.store hz.k0) rfl (fun w hw => hw.seeOut_ hs_1 nM)) ?_
  rintro _ _ ⟨_, ⟨rfl, rfl⟩, rfl⟩
  refine jA (jF (v := .bool (storeOk k.store)) rfl) ?_
  rcases Bool.eq_false_or_eq_true (storeOk k.store) with h_29 | h_29
  · refine jW rfl rfl rfl (cB h_29) (jY (jh (jI fo42_2 he_14))) ?_
    rintro _ _ ⟨rfl, rfl⟩
    refine jW rfl rfl rfl (cB h_29) (jY (jg 0 (vs := [.slice k.dk.a k.dk.l.length k.dk.c, str k.dk.jt, iv k.dk.js]) rfl rfl kz kq rfl rfl)) ?_
    rintro _ _ ⟨rfl, rfl⟩
    refine jW rfl rfl rfl (cB h_29) (jU [] Tryz.call123 rfl (Y_specDiskOk k.dk hz.k3 (by omega)) rfl (fun w hw => hw.seeOutA hs_4 nMA)) ?_
    rintro _ _ ⟨_, ⟨rfl, rfl⟩, rfl⟩
    refine jA (jy (v := .bool (diskOk k.dk.dat)) (cB h_29) rfl) <| jA (jF (v := .bool (diskOk k.dk.dat)) rfl) ?_
    rcases Bool.eq_false_or_eq_true (diskOk k.dk.dat) with h_30 | h_30
    · refine jW rfl rfl rfl (cB h_30) (jY (jh (jI fo42_3 he_14))) ?_
      rintro _ _ ⟨rfl, rfl⟩
      refine jW rfl rfl rfl (cB h_30) (jY (jR 0 (v := iv k.seq) rfl rfl kR rfl)) ?_
      rintro _ _ ⟨rfl, rfl⟩
      refine jW rfl rfl rfl (cB h_30) (jU [] Tryz.call124 rfl (Y_l01In k.seq 0 99000) rfl (fun _ _ => trivial)) ?_
      rintro _ _ ⟨_, ⟨rfl, rfl⟩, rfl⟩
      refine jA (jy (v := .bool (within 0 k.seq 99000)) (cB h_30) rfl) <| jA (jF (v := .bool (within 0 k.seq 99000)) rfl) ?_
      rcases Bool.eq_false_or_eq_true (within 0 k.seq 99000) with h_31 | h_31
      · refine jW rfl rfl rfl (cB h_31) (jY (jh (jI fo42_1 he_14))) ?_
        rintro _ _ ⟨rfl, rfl⟩
        refine jW rfl rfl rfl (cB h_31) (jY (jR 0 (v := .slice k.a1 k.txs.length k.c1) rfl rfl kw rfl)) ?_
        rintro _ _ ⟨rfl, rfl⟩
        refine jW rfl rfl rfl (cB h_31) (jU [] Tryz.call125 rfl (Y_specApart k.a1 k.c1 k.txs (by omega) (KX.okz_get hz)) rfl (fun w hw => SeesA.cons (hw.seeOut_ hs_6 nM) (hw.seeOutA hi_7 nMA))) ?_
        rintro _ _ ⟨_, ⟨rfl, rfl⟩, rfl⟩
        refine jA (jy (v := .bool (apartAll (k.txs.map TX.t))) (cB h_31) rfl) <| jA (jG (v := .bool (apartAll (k.txs.map TX.t))) rfl) <| jD <| jB <| jJ <| jL (.inl rfl) rfl (jM (v := .bool (apartAll (k.txs.map TX.t))) rfl) (List.nil_sublist _) ?_
        refine ⟨cB ?_, rfl⟩
        rw [kernelOk_end (by omega) hN]
        simp only [Bool.and_true, Bool.true_and, Bool.and_false, Bool.false_and, Bool.or_true, Bool.true_or, Bool.or_false, Bool.false_or, Bool.not_true, Bool.not_false, ((dF h_16)), (h_29), (h_30), (h_31)]
      refine jV (b := false) rfl rfl rfl (cB h_31) <| jV (b := false) rfl rfl rfl (cB h_31) <| jV (b := false) rfl rfl rfl (cB h_31) <| jA (jx (v := .bool false) (cB h_31) rfl) <| jA (jG (v := .bool false) rfl) <| jD <| jB <| jJ <| jL (.inl rfl) rfl (jM (v := .bool false) rfl) (List.nil_sublist _) ?_
      refine ⟨cB ?_, rfl⟩
      rw [kernelOk_end (by omega) hN]
      simp only [Bool.and_true, Bool.true_and, Bool.and_false, Bool.false_and, Bool.or_true, Bool.true_or, Bool.or_false, Bool.false_or, Bool.not_true, Bool.not_false, ((dF h_16)), (h_29), (h_30), (h_31)]
    refine jV (b := false) rfl rfl rfl (cB h_30) <| jV (b := false) rfl rfl rfl (cB h_30) <| jV (b := false) rfl rfl rfl (cB h_30) <| jA (jx (v := .bool false) (cB h_30) rfl) <| jA (jF (v := .bool false) rfl) <| jV (b := false) rfl rfl rfl (cB rfl) <| jV (b := false) rfl rfl rfl (cB rfl) <| jV (b := false) rfl rfl rfl (cB rfl) <| jA (jx (v := .bool false) (cB rfl) rfl) <| jA (jG (v := .bool false) rfl) ?_
    refine jD <| jB <| jJ <| jL (.inl rfl) rfl (jM (v := .bool false) rfl) (List.nil_sublist _) ?_
    refine ⟨cB ?_, rfl⟩
    rw [kernelOk_end (by omega) hN]
    simp only [Bool.and_true, Bool.true_and, Bool.and_false, Bool.false_and, Bool.or_true, Bool.true_or, Bool.or_false, Bool.false_or, Bool.not_true, Bool.not_false, ((dF h_16)), (h_29), (h_30)]
  refine jV (b := false) rfl rfl rfl (cB h_29) <| jV (b := false) rfl rfl rfl (cB h_29) <| jV (b := false) rfl rfl rfl (cB h_29) <| jA (jx (v := .bool false) (cB h_29) rfl) <| jA (jF (v := .bool false) rfl) <| jV (b := false) rfl rfl rfl (cB rfl) <| jV (b := false) rfl rfl rfl (cB rfl) <| jV (b := false) rfl rfl rfl (cB rfl) <| jA (jx (v := .bool false) (cB rfl) rfl) <| jA (jF (v := .bool false) rfl) ?_
  refine jV (b := false) rfl rfl rfl (cB rfl) <| jV (b := false) rfl rfl rfl (cB rfl) <| jV (b := false) rfl rfl rfl (cB rfl) <| jA (jx (v := .bool false) (cB rfl) rfl) <| jA (jG (v := .bool false) rfl) <| jD <| jB <| jJ <| jL (.inl rfl) rfl (jM (v := .bool false) rfl) (List.nil_sublist _) ?_
  refine ⟨cB ?_, rfl⟩
  rw [kernelOk_end (by omega) hN]
  simp only [Bool.and_true, Bool.true_and, Bool.and_false, Bool.false_and, Bool.or_true, Bool.true_or, Bool.or_false, Bool.false_or, Bool.not_true, Bool.not_false, ((dF h_16)), (h_29)]

end Go.Proofs.YtkmpmjficoohkaaGreat

set_option linter.unusedSimpArgs false
set_option linter.unusedVariables false
set_option linter.unnecessarySimpa false
namespace Go.Proofs.YtkmpmjficoohkaaGreat
open Go Go.RowKit
/-- The kernel k with F done to the transaction at ix, if k is in order and there is one. -/
def KD.act {α : Type} (ix : List TD → Int → Int) (F : TD → TD × α) (z : α) (k : KD) (id : Int) : KD × α :=
  if kernelOk k = true ∧ 0 ≤ ix k.txs id then (k.setTx (ix k.txs id).toNat (F (k.txs.getD (ix k.txs id).toNat x0.t)).1, (F (k.txs.getD (ix k.txs id).toNat x0.t)).2) else (k, z)
section
variable {α : Type} {ix : List TD → Int → Int} {F : TD → TD × α} {z : α} {k : KD} {id : Int}
theorem KD.act_pos {n : Nat} (ho : kernelOk k = true) (h : ix k.txs id = ((n : Nat) : Int)) : k.act ix F z id = (k.setTx n (F (k.txs.getD n x0.t)).1, (F (k.txs.getD n x0.t)).2) := by
  unfold KD.act
  rw [h, if_pos ⟨ho, by omega⟩, Int.toNat_natCast]
theorem KD.act_off (h : kernelOk k = false) : k.act ix F z id = (k, z) := if_neg (fun hh => by rw [h] at hh; exact Bool.noConfusion hh.1)
theorem KD.act_neg (h : ix k.txs id < 0) : k.act ix F z id = (k, z) := if_neg (fun hh => by omega)
theorem getD_or {β : Type} (l : List β) (n : Nat) (d : β) : l.getD n d ∈ l ∨ l.getD n d = d := by
  by_cases h : n < l.length
  · exact .inl (getD_mem h)
  · refine .inr ?_
    rw [List.getD_eq_getElem?_getD, List.getElem?_eq_none (by omega)]
    rfl
theorem KD.act_lim {m : Nat} (h : k.lim m) (hF : ∀ t : TD, t.lim m → (F t).1.lim m) : (k.act ix F z id).1.lim m := by
  unfold KD.act
  split
  · refine KD.setTx_lim h (hF _ ?_)
    rcases getD_or k.txs (ix k.txs id).toNat x0.t with hm | hm
    · exact h.l2 _ hm
    · rw [hm]; exact ⟨Nat.zero_le _, Nat.zero_le _, Nat.zero_le _, Nat.zero_le _, Nat.zero_le _⟩
  · exact h
theorem cntV_mem {β : Type} {ct : β → Nat} : ∀ {l : List β} {x : β}, x ∈ l → ct x ≤ cntV ct l
  | y :: l, x, h => by
    rcases List.mem_cons.1 h with rfl | h
    · simp only [cntV]; omega
    · have := cntV_mem (ct := ct) h
      simp only [cntV]; omega
theorem KD.act_cnt (hF : ∀ t : TD, cntXd (F t).1 ≤ cntXd t + 1) : (k.act ix F z id).1.cnt ≤ k.cnt + (k.cnt + 10) := by
  unfold KD.act
  split
  · refine Nat.le_trans (KD.setTx_cnt _ _ _) (Nat.add_le_add (Nat.le_refl _) (Nat.le_trans (hF _) ?_))
    rcases getD_or k.txs (ix k.txs id).toNat x0.t with hm | hm
    · have := cntV_mem (ct := cntXd) hm
      simp only [KD.cnt]
      omega
    · rw [hm]
      have : cntXd x0.t = 5 := rfl
      omega
  · simp only; omega
end
theorem within_true {lo n hi : Int} (h : within lo n hi = true) : lo ≤ n ∧ n ≤ hi := by simpa only [within, Bool.and_eq_true, decide_eq_true_eq] using h
theorem within_false {lo n hi : Int} (h : within lo n hi = false) : ¬ (lo ≤ n ∧ n ≤ hi) := fun hh => by rw [within, decide_eq_true hh.1, decide_eq_true hh.2] at h; cases h
theorem len_front {α : Type} {l : List α} {n : Nat} (h : n ≤ l.length) : (l.take n).length = n := by rw [List.length_take]; omega
theorem front_flat {α : Type} {enc : α → List Value} {k : Nat} (hk : ∀ x, (enc x).length = k) {l : List α} {n : Nat} (h : n ≤ l.length) : (l.flatMap enc).take ((l.take n).length * k) = (l.take n).flatMap enc := by rw [len_front h, flat_takeN hk]
theorem front_map {α : Type} {f : α → Value} {l : List α} {n : Nat} (h : n ≤ l.length) : (l.map f).take ((l.take n).length * 1) = (l.take n).map f := by rw [len_front h, Nat.mul_one, List.map_take]
section
variable {P : Program} {n : Nat} {e : Env} {d : Option Tmp} {ty : TypeId} {pos : String} {aft : Array Edge} {gd : Option (Nat × Bool)}
theorem PO.sliceVmD {x hi mx : Operand} {a : Option Addr} {m c j z k : Nat} {q q' : IntKind} {t el : TypeId} (ht : P.underlying t = some (.slice el)) (hs : ∀ w, (sizeOf el).run P w = .ok k w) (ha : a.bind (·.spot) = none)
    (hx : rd n e x = .slice a m c) (hh : rd n e hi = .int q j) (hm : rd n e mx = .int q' z) (h1 : j ≤ z) (h2 : z ≤ c) : PO P n e ⟨d, .slice t x none (some hi) (some mx), ty, pos, aft, gd⟩ (.slice a j z) := fun w => by
  have hsub := sub_add (k := k) (c := z) (lo := 0) ha
  rw [sub_zero ha] at hsub
  have hsub' : (if z = 0 then a else a.map (·.add 0)) = a := by rw [Nat.zero_mul] at hsub; exact hsub
  simp [execOp, run_sliceAt_slice _ _ _ _ _ _ (elem_of ht), Instr.slice, run_underlying ht, hx, hh, hm, Instr.sliceBounds, Instr.sliceBound, asIntOf, hs, h1, h2, hsub']
theorem PO.min2D {x y : Operand} {a b c : Int} {ts : Array TypeId} (hx : rd n e x = .int .i64 a) (hy : rd n e y = .int .i64 b) (hc : min a b = c) : PO P n e ⟨d, .call ⟨.builtin .min, #[x, y], ts⟩, ty, pos, aft, gd⟩ (.int .i64 c) := fun w => by
  subst hc
  simp [execOp, resolve, invoke, builtin, hx, hy, Lib.run_min_ints]
theorem PO.max2D {x y : Operand} {a b c : Int} {ts : Array TypeId} (hx : rd n e x = .int .i64 a) (hy : rd n e y = .int .i64 b) (hc : max a b = c) : PO P n e ⟨d, .call ⟨.builtin .max, #[x, y], ts⟩, ty, pos, aft, gd⟩ (.int .i64 c) := fun w => by
  subst hc
  simp [execOp, resolve, invoke, builtin, hx, hy, Lib.run_max_ints]
theorem PO.castVD {o : Oper} {v v' : Value} (h : PO P n e o v) (hv : v = v') : PO P n e o v' := hv ▸ h
end
def TD.drop (t : TD) : TD × Bool := ({ t with state := 3 }, true)
theorem TD.drop_lim {t : TD} {m : Nat} (h : t.lim m) : t.drop.1.lim m := ⟨h.l0, h.l1, h.l2, h.l3, h.l4⟩
theorem TD.drop_cnt (t : TD) : cntXd t.drop.1 ≤ cntXd t + 1 := Nat.le_succ _
theorem TD.mark_lim {t : TD} {m : Nat} (h4 : 4 ≤ m) (h : t.lim m) : t.mark.1.lim m := by
  unfold TD.mark
  split
  · refine ⟨h.l0, h.l1, h.l2, h.l3, ?_⟩
    simp only [List.length_append, List.length_cons, List.length_nil]
    omega
  · exact h
theorem TD.mark_cnt (t : TD) : cntXd t.mark.1 ≤ cntXd t + 1 := by
  unfold TD.mark
  split
  · simp only [cntXd, List.length_append, List.length_cons, List.length_nil]
    omega
  · exact Nat.le_succ _
theorem TD.back_lim {t : TD} {m : Nat} {q : Int} (h : t.lim m) : (t.back q).1.lim m := by
  unfold TD.back
  split
  · refine ⟨?_, ?_, h.l2, h.l3, ?_⟩ <;> simp only [List.length_take]
    · exact Nat.le_trans (Nat.min_le_right ..) h.l0
    · exact Nat.le_trans (Nat.min_le_right ..) h.l1
    · exact Nat.le_trans (Nat.min_le_right ..) h.l4
  · exact h
theorem TD.back_cnt (q : Int) (t : TD) : cntXd (t.back q).1 ≤ cntXd t + 1 := by
  unfold TD.back
  split
  · simp only [cntXd, List.length_take]
    omega
  · exact Nat.le_succ _
abbrev KD.dropK (k : KD) (id : Int) : KD × Bool := k.act liveT TD.drop false id
abbrev KD.markK (k : KD) (id : Int) : KD × Int := k.act findT TD.mark 0 id
abbrev KD.backK (k : KD) (id q : Int) : KD × Bool := k.act findT (fun t => t.back q) false id
theorem flatMap_same {α β : Type} {f : α → List β} {l : List α} {n : Nat} {y : α} (d : α) (hj : n < l.length) (h : f (l.getD n d) = f y) : l.flatMap f = (l.set n y).flatMap f := by
  rw [flatMap_at d hj, flatMap_setAt hj, h]
theorem KX.txs_dat {y : KX} {k : KD} (h : y.dat = k) : y.txs.map TX.t = k.txs := by rw [← h]; rfl
theorem KX.okz_eq {y : KX} {k : KD} (h : y.dat = k) (hz : k.okz) : y.dat.okz := by rw [h]; exact hz
theorem mapT_getD {l : List TX} {n : Nat} : (l.map TX.t).getD n x0.t = (l.getD n x0).t := getD_map'
end Go.Proofs.YtkmpmjficoohkaaGreat
