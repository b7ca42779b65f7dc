/-
  Texts of the walk, joined: what each one proves stands at its theorems.
-/
import Derived.Test.YtjncpgcccgdeiaaGreatDoorDatM
import Derived.Lib.Strings
import Derived.Lib.HexFns2
import Derived.Test.YtjncpgcccgdeiaaGreatDoorDatA
import Derived.Lib.ConvBytes
import Derived.Lib.SmallJoins
set_option linter.unusedSimpArgs false
set_option linter.unusedVariables false
set_option linter.unnecessarySimpa false
namespace Go.Proofs.YtjncpgcccgdeiaaGreatDoor
open Go Go.RowKit
attribute [local irreducible] JL JC JQ JO LO PO JA JX Ct

theorem Y_within (n lo hi : Int) :
    Ct Tryz.prog 76 [.int .i64 n, .int .i64 lo, .int .i64 hi] [] (fun _ => True) (fun v A' => v = .bool (within lo n hi) ∧ A' = []) := by
  refine Ct.intro Tryz.func76 rfl Tryz.ntmps76 (lb rfl) fun w0 hpre => ?_
  refine jC <| jF <| jA (jG (v := .bool false) rfl) <| jE <| jB <| jC <| jF <| jA (jD (v := iv n) rfl) <| jA (jD (v := iv lo) rfl) <| jA (PO.geq rfl rfl) ?_
  refine jA (jD (v := .bool (decide (lo ≤ n))) rfl) ?_
  by_cases h_1 : lo ≤ n
  · refine jM rfl rfl rfl (cB (dT h_1)) (jP (jU (jD (v := iv n) rfl))) ?_
    rintro _ _ ⟨rfl, rfl⟩
    refine jM rfl rfl rfl (cB (dT h_1)) (jP (jU (jD (v := iv hi) rfl))) ?_
    rintro _ _ ⟨rfl, rfl⟩
    refine jM rfl rfl rfl (cB (dT h_1)) (jP (jU (PO.leq rfl rfl))) ?_
    rintro _ _ ⟨rfl, rfl⟩
    refine jA (jh (v := .bool (decide (n ≤ hi))) (cB (dT h_1)) rfl) <| jA (jG (v := .bool (decide (n ≤ hi))) rfl) <| jE <| jB <| jN <| jV (.inl rfl) rfl (jJ (v := .bool (decide (n ≤ hi))) rfl) (List.nil_sublist _) ?_
    refine ⟨?_, rfl⟩
    unfold within
    simp_all <;> omega
  refine jS (b := false) rfl rfl rfl (cB (dF h_1)) <| jS (b := false) rfl rfl rfl (cB (dF h_1)) <| jS (b := false) rfl rfl rfl (cB (dF h_1)) <| jA (ji (v := .bool false) (cB (dF h_1)) rfl) <| jA (jG (v := .bool false) rfl) <| jE <| jB <| jN <| jV (.inl rfl) rfl (jJ (v := .bool false) rfl) (List.nil_sublist _) ?_
  refine ⟨?_, rfl⟩
  unfold within
  simp_all <;> omega

theorem Y_l01In (n lo hi : Int) :
    Ct Tryz.prog 89 [.int .i64 n, .int .i64 lo, .int .i64 hi] [] (fun _ => True) (fun v A' => v = .bool (within lo n hi) ∧ A' = []) := by
  refine Ct.intro Tryz.func89 rfl Tryz.ntmps89 (lb rfl) fun w0 hpre => ?_
  refine jC <| jF <| jA (jG (v := .bool false) rfl) <| jE <| jB <| jC <| jF <| jA (jD (v := iv n) rfl) <| jA (jD (v := iv lo) rfl) <| jA (PO.geq rfl rfl) ?_
  refine jA (jD (v := .bool (decide (lo ≤ n))) rfl) ?_
  by_cases h_1 : lo ≤ n
  · refine jM rfl rfl rfl (cB (dT h_1)) (jP (jU (jD (v := iv n) rfl))) ?_
    rintro _ _ ⟨rfl, rfl⟩
    refine jM rfl rfl rfl (cB (dT h_1)) (jP (jU (jD (v := iv hi) rfl))) ?_
    rintro _ _ ⟨rfl, rfl⟩
    refine jM rfl rfl rfl (cB (dT h_1)) (jP (jU (PO.leq rfl rfl))) ?_
    rintro _ _ ⟨rfl, rfl⟩
    refine jA (jh (v := .bool (decide (n ≤ hi))) (cB (dT h_1)) rfl) <| jA (jG (v := .bool (decide (n ≤ hi))) rfl) <| jE <| jB <| jN <| jV (.inl rfl) rfl (jJ (v := .bool (decide (n ≤ hi))) rfl) (List.nil_sublist _) ?_
    refine ⟨?_, rfl⟩
    unfold within
    simp_all <;> omega
  refine jS (b := false) rfl rfl rfl (cB (dF h_1)) <| jS (b := false) rfl rfl rfl (cB (dF h_1)) <| jS (b := false) rfl rfl rfl (cB (dF h_1)) <| jA (ji (v := .bool false) (cB (dF h_1)) rfl) <| jA (jG (v := .bool false) rfl) <| jE <| jB <| jN <| jV (.inl rfl) rfl (jJ (v := .bool false) rfl) (List.nil_sublist _) ?_
  refine ⟨?_, rfl⟩
  unfold within
  simp_all <;> omega

theorem Y_implKeyOk (key : Str) (hk : key.length ≤ 9223372036854775807) :
    Ct Tryz.prog 78 [str key] [] (fun _ => True) (fun v A' => v = .bool (keyOk key) ∧ A' = []) := by
  refine Ct.intro Tryz.func78 rfl Tryz.ntmps78 (lb rfl) fun w0 hpre => ?_
  refine jC <| jF <| jA (jG (v := .bool false) rfl) <| jE <| jB <| jC <| jC <| jF <| jA (jD (v := str key) rfl) <| jA (kF kg rfl) ?_
  refine jA (jD (v := iv 0) rfl) <| jE <| jB <| jf <| kD (fun k_ e_ L_ => ∃ j : Nat, (j ≤ key.length) ∧ (∀ i, i < j → i < key.length → keyByte (key.getD i 0) = true) ∧ e_ 0 = str key ∧ e_ 5 = iv (key.length : Int) ∧ e_ 6 = nv j ∧ L_ = [] ∧ k_ = key.length - j) _ ⟨0, by omega, (fun i hi => absurd hi (Nat.not_lt_zero i)), rfl, rfl, rfl, rfl, rfl⟩ ?_
  rintro _ e_1 _ ⟨j, hj, hN, he_2, he_3, he_4, rfl, rfl⟩
  refine jC <| jF <| jA (jl he_4 he_3) <| jE <| jB <| jC ?_
  by_cases h_5 : ((j : Nat) : Int) < (key.length : Int)
  · have hlt : j < key.length := by omega
    refine jW (cB (dT h_5)) <| jT <| jB <| jC <| jf <| jC <| jF <| jA (jD (v := nv j) he_4) <| jA (jG (v := nv j) rfl) <| jE ?_
    refine jB <| jC <| jF <| jA (jD (v := str key) he_2) <| jA (jD (v := nv j) rfl) <| jA (PO.indexS (i := j) (c := key.getD j 0) kg rfl rfl (getD_some (by omega))) ?_
    have hu_6 := UInt8.toNat_lt (key.getD j 0)
    refine jA (jl rfl rfl) <| jA (jD (v := .bool (decide (((key.getD j 0).toNat : Int) < 33))) rfl) ?_
    by_cases h_7 : ((key.getD j 0).toNat : Int) < 33
    · refine jS (b := true) rfl rfl rfl (cB (dT h_7)) <| jS (b := true) rfl rfl rfl (cB (dT h_7)) <| jS (b := true) rfl rfl rfl (cB (dT h_7)) <| jS (b := true) rfl rfl rfl (cB (dT h_7)) <| jA (jh (v := .bool true) (cB (dT h_7)) rfl) <| jA (jD (v := .bool true) rfl) <| jS (b := true) rfl rfl rfl (cB rfl) <| jS (b := true) rfl rfl rfl (cB rfl) <| jS (b := true) rfl rfl rfl (cB rfl) <| jS (b := true) rfl rfl rfl (cB rfl) ?_
      refine jA (jh (v := .bool true) (cB rfl) rfl) <| jE <| jB <| jW (cB rfl) <| jC <| jF <| jA (jG (v := .bool false) rfl) <| jE <| jB <| jN ?_
      refine jv <| jX <| jX <| jv <| jX <| jV (.inl rfl) rfl (jJ (v := .bool false) rfl) (List.nil_sublist _) ?_
      refine ⟨?_, rfl⟩
      rw [keyOk_bad (j := j) (by omega) (by clear hN; simp only [keyByte, within, Bool.and_eq_true, Bool.and_eq_false_iff, decide_eq_true_eq, decide_eq_false_iff_not, Bool.not_eq_true', Bool.not_eq_false'] at *; omega)]
    refine jM rfl rfl rfl (cB (dF h_7)) (jP (jU (jD (v := str key) he_2))) ?_
    rintro _ _ ⟨rfl, rfl⟩
    refine jM rfl rfl rfl (cB (dF h_7)) (jP (jU (jD (v := nv j) rfl))) ?_
    rintro _ _ ⟨rfl, rfl⟩
    refine jM rfl rfl rfl (cB (dF h_7)) (jP (jU (PO.indexS (i := j) (c := key.getD j 0) kg rfl rfl (getD_some (by omega))))) ?_
    rintro _ _ ⟨rfl, rfl⟩
    have hu_8 := UInt8.toNat_lt (key.getD j 0)
    refine jM rfl rfl rfl (cB (dF h_7)) (jP (jU (kR rfl rfl))) ?_
    rintro _ _ ⟨rfl, rfl⟩
    refine jA (ji (v := .bool (decide (126 < ((key.getD j 0).toNat : Int)))) (cB (dF h_7)) rfl) <| jA (jD (v := .bool (decide (126 < ((key.getD j 0).toNat : Int)))) rfl) ?_
    by_cases h_9 : 126 < ((key.getD j 0).toNat : Int)
    · refine jS (b := true) rfl rfl rfl (cB (dT h_9)) <| jS (b := true) rfl rfl rfl (cB (dT h_9)) <| jS (b := true) rfl rfl rfl (cB (dT h_9)) <| jS (b := true) rfl rfl rfl (cB (dT h_9)) <| jA (jh (v := .bool true) (cB (dT h_9)) rfl) <| jE <| jB <| jW (cB rfl) <| jC <| jF ?_
      refine jA (jG (v := .bool false) rfl) <| jE <| jB <| jN <| jv <| jX <| jX <| jv <| jX <| jV (.inl rfl) rfl (jJ (v := .bool false) rfl) (List.nil_sublist _) ?_
      refine ⟨?_, rfl⟩
      rw [keyOk_bad (j := j) (by omega) (by clear hN; simp only [keyByte, within, Bool.and_eq_true, Bool.and_eq_false_iff, decide_eq_true_eq, decide_eq_false_iff_not, Bool.not_eq_true', Bool.not_eq_false'] at *; omega)]
    refine jM rfl rfl rfl (cB (dF h_9)) (jP (jU (jD (v := str key) he_2))) ?_
    rintro _ _ ⟨rfl, rfl⟩
    refine jM rfl rfl rfl (cB (dF h_9)) (jP (jU (jD (v := nv j) rfl))) ?_
    rintro _ _ ⟨rfl, rfl⟩
    refine jM rfl rfl rfl (cB (dF h_9)) (jP (jU (PO.indexS (i := j) (c := key.getD j 0) kg rfl rfl (getD_some (by omega))))) ?_
    rintro _ _ ⟨rfl, rfl⟩
    have hu_10 := UInt8.toNat_lt (key.getD j 0)
    refine jM rfl rfl rfl (cB (dF h_9)) (jP (jU (kO rfl rfl))) ?_
    rintro _ _ ⟨rfl, rfl⟩
    refine jA (ji (v := .bool (decide (((key.getD j 0).toNat : Int) = 42))) (cB (dF h_9)) rfl) <| jE <| jB ?_
    by_cases h_11 : ((key.getD j 0).toNat : Int) = 42
    · refine jW (cB (dT h_11)) <| jC <| jF <| jA (jG (v := .bool false) rfl) <| jE <| jB <| jN <| jv <| jX <| jX ?_
      refine jv <| jX <| jV (.inl rfl) rfl (jJ (v := .bool false) rfl) (List.nil_sublist _) ?_
      refine ⟨?_, rfl⟩
      rw [keyOk_bad (j := j) (by omega) (by clear hN; simp only [keyByte, within, Bool.and_eq_true, Bool.and_eq_false_iff, decide_eq_true_eq, decide_eq_false_iff_not, Bool.not_eq_true', Bool.not_eq_false'] at *; omega)]
    refine jR (cB (dF h_11)) <| jT <| jm <| jB <| jF <| jA (jc (c := ((j + 1 : Nat) : Int)) he_4 rfl (wr (by omega))) <| jA (jD (v := iv ((j + 1 : Nat) : Int)) rfl) <| jE ?_
    refine jq (key.length - (j + 1)) (by omega) ⟨j + 1, by omega, (fun i hi hl => if h : i = j then h ▸ (by clear hN; simp only [keyByte, within, Bool.and_eq_true, Bool.and_eq_false_iff, decide_eq_true_eq, decide_eq_false_iff_not, Bool.not_eq_true', Bool.not_eq_false'] at *; omega : keyByte (key.getD j 0) = true) else hN i (by omega) hl), he_2, he_3, rfl, rfl, rfl⟩
  refine jR (cB (dF h_5)) <| jx <| jb <| jb <| jy <| jB <| jC <| jF <| jA (jD (v := str key) he_2) <| jA (kF kg rfl) ?_
  refine jH rfl (jI [] Tryz.call76 rfl (Y_within (key.length : Int) 1 40) rfl (fun _ _ => trivial)) ?_
  rintro _ _ ⟨_, ⟨rfl, rfl⟩, rfl⟩
  refine jA (jG (v := .bool (within 1 (key.length : Int) 40)) rfl) <| jE <| jB <| jN <| jV (.inl rfl) rfl (jJ (v := .bool (within 1 (key.length : Int) 40)) rfl) (List.nil_sublist _) ?_
  refine ⟨?_, rfl⟩
  rw [keyOk_good (j := j) (by omega) hN]
  exact cB (by unfold within; congr 1 <;> exact decide_eq_decide.2 (by omega))

theorem Y_specKeyOk (key : Str) (hk : key.length ≤ 9223372036854775807) :
    Ct Tryz.prog 92 [str key] [] (fun _ => True) (fun v A' => v = .bool (keyOk key) ∧ A' = []) := by
  refine Ct.intro Tryz.func92 rfl Tryz.ntmps92 (lb rfl) fun w0 hpre => ?_
  refine jC <| jF <| jA (jG (v := .bool false) rfl) <| jE <| jB <| jC <| jC <| jF <| jA (jG (v := iv 0) rfl) <| jE ?_
  refine jB <| jf <| kD (fun k_ e_ L_ => ∃ j : Nat, (j ≤ key.length) ∧ (∀ i, i < j → i < key.length → keyByte (key.getD i 0) = true) ∧ e_ 0 = str key ∧ e_ 3 = nv j ∧ L_ = [] ∧ k_ = key.length - j) _ ⟨0, by omega, (fun i hi => absurd hi (Nat.not_lt_zero i)), rfl, rfl, rfl, rfl⟩ ?_
  rintro _ e_1 _ ⟨j, hj, hN, he_2, he_3, rfl, rfl⟩
  refine jC <| jC <| jF <| jA (jD (v := nv j) he_3) <| jA (jD (v := str key) he_2) <| jA (kF kg rfl) <| jA (jl rfl rfl) <| jE <| jB ?_
  by_cases h_4 : ((j : Nat) : Int) < (key.length : Int)
  · have hlt : j < key.length := by omega
    refine jW (cB (dT h_4)) <| jT <| jB <| jC <| jf <| jC <| jF <| jA (jD (v := str key) he_2) <| jA (jD (v := nv j) he_3) <| jA (PO.indexS (i := j) (c := key.getD j 0) kg rfl rfl (getD_some (by omega))) ?_
    have hu_5 := UInt8.toNat_lt (key.getD j 0)
    refine jA (PO.convI (c := ((key.getD j 0).toNat : Int)) kv gC rfl (wr (by omega))) ?_
    refine jH rfl (jI [] Tryz.call89 rfl (Y_l01In ((key.getD j 0).toNat : Int) 33 126) rfl (fun _ _ => trivial)) ?_
    rintro _ _ ⟨_, ⟨rfl, rfl⟩, rfl⟩
    refine jA (jp rfl) <| jA (jD (v := .bool (!(within 33 ((key.getD j 0).toNat : Int) 126))) rfl) ?_
    rcases Bool.eq_false_or_eq_true (within 33 ((key.getD j 0).toNat : Int) 126) with h_6 | h_6
    · refine jM rfl rfl rfl (cB (cN h_6)) (jP (jU (jD (v := str key) he_2))) ?_
      rintro _ _ ⟨rfl, rfl⟩
      refine jM rfl rfl rfl (cB (cN h_6)) (jP (jU (jD (v := nv j) he_3))) ?_
      rintro _ _ ⟨rfl, rfl⟩
      refine jM rfl rfl rfl (cB (cN h_6)) (jP (jU (PO.indexS (i := j) (c := key.getD j 0) kg rfl rfl (getD_some (by omega))))) ?_
      rintro _ _ ⟨rfl, rfl⟩
      have hu_7 := UInt8.toNat_lt (key.getD j 0)
      refine jM rfl rfl rfl (cB (cN h_6)) (jP (jU (kO rfl rfl))) ?_
      rintro _ _ ⟨rfl, rfl⟩
      refine jA (ji (v := .bool (decide (((key.getD j 0).toNat : Int) = 42))) (cB (cN h_6)) rfl) <| jE <| jB ?_
      by_cases h_8 : ((key.getD j 0).toNat : Int) = 42
      · refine jW (cB (dT h_8)) <| jC <| jF <| jA (jG (v := .bool false) rfl) <| jE <| jB <| jN <| jv <| jX <| jX ?_
        refine jv <| jX <| jV (.inl rfl) rfl (jJ (v := .bool false) rfl) (List.nil_sublist _) ?_
        refine ⟨?_, rfl⟩
        rw [keyOk_bad (j := j) (by omega) (by clear hN; simp only [keyByte, within, Bool.and_eq_true, Bool.and_eq_false_iff, decide_eq_true_eq, decide_eq_false_iff_not, Bool.not_eq_true', Bool.not_eq_false'] at *; omega)]
      refine jR (cB (dF h_8)) <| jT <| jm <| jB <| jF <| jA (jD (v := nv j) he_3) <| jA (jc (c := ((j + 1 : Nat) : Int)) rfl rfl (wr (by omega))) <| jA (jG (v := iv ((j + 1 : Nat) : Int)) rfl) <| jE ?_
      refine jq (key.length - (j + 1)) (by omega) ⟨j + 1, by omega, (fun i hi hl => if h : i = j then h ▸ (by clear hN; simp only [keyByte, within, Bool.and_eq_true, Bool.and_eq_false_iff, decide_eq_true_eq, decide_eq_false_iff_not, Bool.not_eq_true', Bool.not_eq_false'] at *; omega : keyByte (key.getD j 0) = true) else hN i (by omega) hl), he_2, rfl, rfl, rfl⟩
    refine jS (b := true) rfl rfl rfl (cB (cN h_6)) <| jS (b := true) rfl rfl rfl (cB (cN h_6)) <| jS (b := true) rfl rfl rfl (cB (cN h_6)) <| jS (b := true) rfl rfl rfl (cB (cN h_6)) <| jA (jh (v := .bool true) (cB (cN h_6)) rfl) <| jE <| jB <| jW (cB rfl) <| jC <| jF ?_
    refine jA (jG (v := .bool false) rfl) <| jE <| jB <| jN <| jv <| jX <| jX <| jv <| jX <| jV (.inl rfl) rfl (jJ (v := .bool false) rfl) (List.nil_sublist _) ?_
    refine ⟨?_, rfl⟩
    rw [keyOk_bad (j := j) (by omega) (by clear hN; simp only [keyByte, within, Bool.and_eq_true, Bool.and_eq_false_iff, decide_eq_true_eq, decide_eq_false_iff_not, Bool.not_eq_true', Bool.not_eq_false'] at *; omega)]
  refine jR (cB (dF h_4)) <| jx <| jb <| jb <| jy <| jB <| jC <| jF <| jA (jD (v := str key) he_2) <| jA (kF kg rfl) ?_
  refine jH rfl (jI [] Tryz.call89 rfl (Y_l01In (key.length : Int) 1 40) rfl (fun _ _ => trivial)) ?_
  rintro _ _ ⟨_, ⟨rfl, rfl⟩, rfl⟩
  refine jA (jG (v := .bool (within 1 (key.length : Int) 40)) rfl) <| jE <| jB <| jN <| jV (.inl rfl) rfl (jJ (v := .bool (within 1 (key.length : Int) 40)) rfl) (List.nil_sublist _) ?_
  refine ⟨?_, rfl⟩
  rw [keyOk_good (j := j) (by omega) hN]
  exact cB (by unfold within; congr 1 <;> exact decide_eq_decide.2 (by omega))

theorem Y_specbro (x : Int) (y : Nat) :
    Ct Tryz.prog 59 [.int .i64 x, .int .i64 0, .int .i64 ((y : Nat) : Int)] [] (fun _ => True) (fun v A' => v = .int .i64 ((bro x y : Nat) : Int) ∧ A' = []) := by
  refine Ct.intro Tryz.func59 rfl Tryz.ntmps59 (lb rfl) fun w0 hpre => ?_
  refine jC <| jF <| jA (jG (v := iv 0) rfl) <| jE <| jB <| jC <| jC <| jF <| jA (jD (v := nv y) rfl) <| jA (jD (v := iv 0) rfl) ?_
  refine jA (jl rfl rfl) <| jA (jD (v := .bool (decide (((y : Nat) : Int) < 0))) rfl) ?_
  by_cases h_1 : ((y : Nat) : Int) < 0
  · refine jS (b := true) rfl rfl rfl (cB (dT h_1)) <| jS (b := true) rfl rfl rfl (cB (dT h_1)) <| jS (b := true) rfl rfl rfl (cB (dT h_1)) <| jA (jh (v := .bool true) (cB (dT h_1)) rfl) <| jE <| jB <| jW (cB rfl) <| jC <| jF <| jA (jD (v := iv 0) rfl) ?_
    refine jA (jG (v := iv 0) rfl) <| jE <| jB <| jN <| jX <| jV (.inl rfl) rfl (jJ (v := iv 0) rfl) (List.nil_sublist _) ?_
    refine ⟨?_, rfl⟩
    exact congrArg (Value.int .i64) (by unfold bro; first | omega | (simp only [Int.min_def, Int.max_def]; omega) | grind)
  refine jM rfl rfl rfl (cB (dF h_1)) (jP (jU (jD (v := iv x) rfl))) ?_
  rintro _ _ ⟨rfl, rfl⟩
  refine jM rfl rfl rfl (cB (dF h_1)) (jP (jU (jD (v := iv 0) rfl))) ?_
  rintro _ _ ⟨rfl, rfl⟩
  refine jM rfl rfl rfl (cB (dF h_1)) (jP (jU (jl rfl rfl))) ?_
  rintro _ _ ⟨rfl, rfl⟩
  refine jA (ji (v := .bool (decide (x < 0))) (cB (dF h_1)) rfl) <| jE <| jB ?_
  by_cases h_2 : x < 0
  · refine jW (cB (dT h_2)) <| jC <| jF <| jA (jD (v := iv 0) rfl) <| jA (jG (v := iv 0) rfl) <| jE <| jB <| jN <| jX <| jV (.inl rfl) rfl (jJ (v := iv 0) rfl) (List.nil_sublist _) ?_
    refine ⟨?_, rfl⟩
    exact congrArg (Value.int .i64) (by unfold bro; first | omega | (simp only [Int.min_def, Int.max_def]; omega) | grind)
  refine jR (cB (dF h_2)) <| jT <| jB <| jC <| jC <| jF <| jA (jD (v := iv x) rfl) <| jA (jD (v := nv y) rfl) <| jA (kR rfl rfl) <| jE ?_
  refine jB ?_
  by_cases h_3 : ((y : Nat) : Int) < x
  · refine jW (cB (dT h_3)) <| jC <| jF <| jA (jD (v := nv y) rfl) <| jA (jG (v := nv y) rfl) <| jE <| jB <| jN <| jX <| jV (.inl rfl) rfl (jJ (v := nv y) rfl) (List.nil_sublist _) ?_
    refine ⟨?_, rfl⟩
    exact congrArg (Value.int .i64) (by unfold bro; first | omega | (simp only [Int.min_def, Int.max_def]; omega) | grind)
  refine jR (cB (dF h_3)) <| jT <| jB <| jC <| jF <| jA (jD (v := iv x) rfl) <| jA (jG (v := iv x) rfl) <| jE <| jB <| jN ?_
  refine jV (.inl rfl) rfl (jJ (v := iv x) rfl) (List.nil_sublist _) ?_
  refine ⟨?_, rfl⟩
  exact congrArg (Value.int .i64) (by unfold bro; first | omega | (simp only [Int.min_def, Int.max_def]; omega) | grind)

set_option maxRecDepth 4000 in
set_option maxHeartbeats 1000000 in
theorem Y_implStoreOk (a : Option Addr) (c : Nat) (s : List Cell) (hs : okC s) :
    Ct Tryz.prog 85 [.slice a s.length c] [] (fun w_ => Sees w_ (.slice a s.length c) 2 s.length (s.flatMap encC)) (fun v A' => v = .bool (storeOk s) ∧ A' = []) := by
  refine Ct.intro Tryz.func85 rfl Tryz.ntmps85 (lb rfl) fun w0 hpre => ?_
  have hs_a : Sees w0 _ _ _ _ := hpre
  have hsl := hs.1
  refine jC <| jF <| jA (jG (v := .bool false) rfl) <| jE <| jB <| jC <| jC <| jF <| jA (jD (v := .slice a s.length c) rfl) <| jA (jr kf rfl) ?_
  refine jA (jD (v := iv 0) rfl) <| jE <| jB <| jf <| kD (fun k_ e_ L_ => ∃ j : Nat, (j ≤ s.length) ∧ (∀ i, i < j → storeG s i = true) ∧ e_ 0 = .slice a s.length c ∧ e_ 5 = .slice a s.length c ∧ e_ 6 = nv s.length ∧ e_ 7 = nv j ∧ L_ = [] ∧ k_ = s.length - j) _ ⟨0, by omega, (fun i hi => absurd hi (Nat.not_lt_zero i)), rfl, rfl, rfl, rfl, rfl, rfl⟩ ?_
  rintro _ e_1 _ ⟨j, hj, hN, he_2, he_3, he_4, he_5, rfl, rfl⟩
  refine jC <| jF <| jA (jl he_5 he_4) <| jE <| jB <| jC ?_
  by_cases h_6 : ((j : Nat) : Int) < ((s.length : Nat) : Int)
  · have hlt : j < s.length := by omega
    refine jW (cB (dT h_6)) <| jT <| jB <| jC <| jf <| jC <| jF <| jA (jD (v := nv j) he_5) ?_
    obtain ⟨hr_7, hr_7b, -⟩ := sees_some hs_a (by omega)
    refine jA (jk (i := j) kf kh hr_7 hr_7b he_3 he_5 (by omega)) <| jK (kX (vs := [str ((s.getD j c0).1), str ((s.getD j c0).2)]) hs_a nM rfl gG kh (atC (by omega)) rfl (by decide)) ?_
    refine jH rfl (jo (z := .agg #[str [], str []]) (cs := [str [], str []]) kw rfl) ?_
    rintro _ _ ⟨b_8, rfl, rfl⟩
    refine jA (jG (v := nv j) rfl) ?_
    refine jH rfl (ja 0 (vs := [str ((s.getD j c0).1), str ((s.getD j c0).2)]) (cs' := [str ((s.getD j c0).1), str ((s.getD j c0).2)]) rfl rfl rfl rfl kh rfl rfl (lb rfl) rfl) ?_
    rintro _ _ rfl
    refine jE <| jB <| jC <| kJ [bk b_8 48 [str ((s.getD j c0).1), str ((s.getD j c0).2)]] 1000 mixed (by simp) <| jL 0 rfl (jQ fo48_0 rfl) <| jw 1 rfl (jZ 0 (v := str ((s.getD j c0).1)) rfl rfl ki rfl) <| jj (i := 2) ?_
    refine jz rfl rfl (jI [] Tryz.call78 rfl (Y_implKeyOk ((s.getD j c0).1) (hs.2 j hlt).1) rfl (fun _ _ => trivial)) ?_
    rintro _ _ ⟨_, ⟨rfl, rfl⟩, rfl⟩
    refine ⟨by simp, ?_⟩
    refine jL 3 rfl (jp rfl) <| jL 4 rfl (jD (v := .bool (!(keyOk ((s.getD j c0).1)))) rfl) ?_
    rcases Bool.eq_false_or_eq_true (keyOk ((s.getD j c0).1)) with h_9 | h_9
    · refine jg 5 rfl (by kernel_rfl) (NP.th (NP.bl (NP.th (NP.th (NP.bl (NP.th NP.body)))))) (by kernel_rfl) (by kernel_rfl) rfl rfl rfl (cB (cN h_9)) (jQ fo48_1 rfl) <| kK 6 rfl (by kernel_rfl) (NP.th (NP.bl (NP.th (NP.th (NP.bl (NP.th NP.body)))))) (by kernel_rfl) (by kernel_rfl) (by kernel_rfl) rfl rfl rfl (cB (cN h_9)) (jZ 0 (v := str ((s.getD j c0).2)) rfl rfl ki rfl) <| jg 7 rfl (by kernel_rfl) (NP.th (NP.bl (NP.th (NP.th (NP.bl (NP.th NP.body)))))) (by kernel_rfl) (by kernel_rfl) rfl rfl rfl (cB (cN h_9)) (kF kg rfl) <| jj (i := 8) ?_
      refine kQ rfl rfl rfl rfl (cB (cN h_9)) (jI [] Tryz.call76 rfl (Y_within (((s.getD j c0).2).length : Int) 1 60) rfl (fun _ _ => trivial)) ?_
      rintro _ _ ⟨_, ⟨rfl, rfl⟩, rfl⟩
      refine ⟨by simp, ?_⟩
      refine jg 9 rfl (by kernel_rfl) (NP.th (NP.bl (NP.th (NP.th (NP.bl (NP.th NP.body)))))) (by kernel_rfl) (by kernel_rfl) rfl rfl rfl (cB (cN h_9)) (jp rfl) <| jL 10 rfl (ji (v := .bool (!(within 1 (((s.getD j c0).2).length : Int) 60))) (cB (cN h_9)) rfl) <| jL 11 rfl (jD (v := .bool (!(within 1 (((s.getD j c0).2).length : Int) 60))) rfl) ?_
      rcases Bool.eq_false_or_eq_true (within 1 (((s.getD j c0).2).length : Int) 60) with h_10 | h_10
      · refine jg 12 rfl (by kernel_rfl) (NP.th (NP.bl (NP.th (NP.th (NP.bl (NP.th NP.body)))))) (by kernel_rfl) (by kernel_rfl) rfl rfl rfl (cB (cN h_10)) (jD (v := nv j) rfl) <| jg 13 rfl (by kernel_rfl) (NP.th (NP.bl (NP.th (NP.th (NP.bl (NP.th NP.body)))))) (by kernel_rfl) (by kernel_rfl) rfl rfl rfl (cB (cN h_10)) (kR rfl rfl) <| jg 14 rfl (by kernel_rfl) (NP.th (NP.bl (NP.th (NP.th (NP.bl (NP.th NP.body)))))) (by kernel_rfl) (by kernel_rfl) rfl rfl rfl (cB (cN h_10)) (jD (v := .bool (decide (0 < ((j : Nat) : Int)))) rfl) ?_
        by_cases h_11 : 0 < ((j : Nat) : Int)
        · refine jg 15 rfl (by kernel_rfl) (NP.th (NP.bl (NP.th (NP.th (NP.bl (NP.th NP.body)))))) (by kernel_rfl) (by kernel_rfl) rfl rfl rfl (cB (dT h_11)) (jQ fo48_0 rfl) <| kK 16 rfl (by kernel_rfl) (NP.th (NP.bl (NP.th (NP.th (NP.bl (NP.th NP.body)))))) (by kernel_rfl) (by kernel_rfl) (by kernel_rfl) rfl rfl rfl (cB (dT h_11)) (jZ 0 (v := str ((s.getD j c0).1)) rfl rfl ki rfl) <| jg 17 rfl (by kernel_rfl) (NP.th (NP.bl (NP.th (NP.th (NP.bl (NP.th NP.body)))))) (by kernel_rfl) (by kernel_rfl) rfl rfl rfl (cB (dT h_11)) (jD (v := .slice a s.length c) he_2) <| jg 18 rfl (by kernel_rfl) (NP.th (NP.bl (NP.th (NP.th (NP.bl (NP.th NP.body)))))) (by kernel_rfl) (by kernel_rfl) rfl rfl rfl (cB (dT h_11)) (jD (v := nv j) rfl) <| jg 19 rfl (by kernel_rfl) (NP.th (NP.bl (NP.th (NP.th (NP.bl (NP.th NP.body)))))) (by kernel_rfl) (by kernel_rfl) rfl rfl rfl (cB (dT h_11)) (kZ (c := ((j - 1 : Nat) : Int)) rfl rfl (wr (by omega))) <| jg 20 rfl (by kernel_rfl) (NP.th (NP.bl (NP.th (NP.th (NP.bl (NP.th NP.body)))))) (by kernel_rfl) (by kernel_rfl) rfl rfl rfl (cB (dT h_11)) (jk (i := (j - 1)) kf kh hr_7 hr_7b rfl rfl (by omega)) <| jg 21 rfl (by kernel_rfl) (NP.th (NP.bl (NP.th (NP.th (NP.bl (NP.th NP.body)))))) (by kernel_rfl) (by kernel_rfl) rfl rfl rfl (cB (dT h_11)) (kL fo48_0 hr_7 rfl) <| kK 22 rfl (by kernel_rfl) (NP.th (NP.bl (NP.th (NP.th (NP.bl (NP.th NP.body)))))) (by kernel_rfl) (by kernel_rfl) (by kernel_rfl) rfl rfl rfl (cB (dT h_11)) (kY (v := str ((s.getD (j - 1) c0).1)) hs_a nM rfl ki (atC1 (by omega))) <| jg 23 rfl (by kernel_rfl) (NP.th (NP.bl (NP.th (NP.th (NP.bl (NP.th NP.body)))))) (by kernel_rfl) (by kernel_rfl) rfl rfl rfl (cB (dT h_11)) (PO.leqS rfl rfl) <| jg 24 rfl (by kernel_rfl) (NP.th (NP.bl (NP.th (NP.th (NP.bl (NP.th NP.body)))))) (by kernel_rfl) (by kernel_rfl) rfl rfl rfl (cB (cN h_10)) (jh (v := .bool (!(Op.bytesLess ((s.getD (j - 1) c0).1) ((s.getD j c0).1)))) (cB (dT h_11)) rfl) ?_
          refine jL 25 rfl (ji (v := .bool (!(Op.bytesLess ((s.getD (j - 1) c0).1) ((s.getD j c0).1)))) (cB (cN h_10)) rfl) <| kI (by kernel_rfl) <| jB ?_
          rcases Bool.eq_false_or_eq_true (Op.bytesLess ((s.getD (j - 1) c0).1) ((s.getD j c0).1)) with h_12 | h_12
          · refine jR (cB (cN h_12)) <| jT <| jm <| jB <| jF <| jA (jc (c := ((j + 1 : Nat) : Int)) he_5 rfl (wr (by omega))) <| jA (jD (v := iv ((j + 1 : Nat) : Int)) rfl) <| jE <| kB [] (A := []) rfl ?_
            refine jq (s.length - (j + 1)) (by omega) ⟨j + 1, by omega, (fun i hi => if h : i = j then h ▸ (by simp only [storeG, Bool.and_true, Bool.true_and, Bool.and_false, Bool.false_and, Bool.or_true, Bool.true_or, Bool.or_false, Bool.false_or, Bool.not_true, Bool.not_false, ((dT h_6)), (h_9), (h_10), ((dT h_11)), (h_12)]) else hN i (by omega)), he_2, he_3, he_4, rfl, rfl, rfl⟩
          refine jW (cB (cN h_12)) <| jC <| jF <| jA (jG (v := .bool false) rfl) <| jE <| jB <| jN <| jv <| jX <| jX ?_
          refine jv <| jX <| jV (.inl rfl) rfl (jJ (v := .bool false) rfl) (List.nil_sublist _) ?_
          exact ⟨cB (storeOk_bad hlt (by simp only [storeG, Bool.and_true, Bool.true_and, Bool.and_false, Bool.false_and, Bool.or_true, Bool.true_or, Bool.or_false, Bool.false_or, Bool.not_true, Bool.not_false, ((dT h_6)), (h_9), (h_10), ((dT h_11)), (h_12)])).symm, rfl⟩
        refine jd 15 (b := false) rfl (by kernel_rfl) (NP.th (NP.bl (NP.th (NP.th (NP.bl (NP.th NP.body)))))) (by kernel_rfl) (by kernel_rfl) rfl rfl rfl (cB (dF h_11)) <| jd 16 (b := false) rfl (by kernel_rfl) (NP.th (NP.bl (NP.th (NP.th (NP.bl (NP.th NP.body)))))) (by kernel_rfl) (by kernel_rfl) rfl rfl rfl (cB (dF h_11)) <| jd 17 (b := false) rfl (by kernel_rfl) (NP.th (NP.bl (NP.th (NP.th (NP.bl (NP.th NP.body)))))) (by kernel_rfl) (by kernel_rfl) rfl rfl rfl (cB (dF h_11)) <| jd 18 (b := false) rfl (by kernel_rfl) (NP.th (NP.bl (NP.th (NP.th (NP.bl (NP.th NP.body)))))) (by kernel_rfl) (by kernel_rfl) rfl rfl rfl (cB (dF h_11)) <| jd 19 (b := false) rfl (by kernel_rfl) (NP.th (NP.bl (NP.th (NP.th (NP.bl (NP.th NP.body)))))) (by kernel_rfl) (by kernel_rfl) rfl rfl rfl (cB (dF h_11)) <| jd 20 (b := false) rfl (by kernel_rfl) (NP.th (NP.bl (NP.th (NP.th (NP.bl (NP.th NP.body)))))) (by kernel_rfl) (by kernel_rfl) rfl rfl rfl (cB (dF h_11)) <| jd 21 (b := false) rfl (by kernel_rfl) (NP.th (NP.bl (NP.th (NP.th (NP.bl (NP.th NP.body)))))) (by kernel_rfl) (by kernel_rfl) rfl rfl rfl (cB (dF h_11)) <| jd 22 (b := false) rfl (by kernel_rfl) (NP.th (NP.bl (NP.th (NP.th (NP.bl (NP.th NP.body)))))) (by kernel_rfl) (by kernel_rfl) rfl rfl rfl (cB (dF h_11)) <| jd 23 (b := false) rfl (by kernel_rfl) (NP.th (NP.bl (NP.th (NP.th (NP.bl (NP.th NP.body)))))) (by kernel_rfl) (by kernel_rfl) rfl rfl rfl (cB (dF h_11)) <| jg 24 rfl (by kernel_rfl) (NP.th (NP.bl (NP.th (NP.th (NP.bl (NP.th NP.body)))))) (by kernel_rfl) (by kernel_rfl) rfl rfl rfl (cB (cN h_10)) (ji (v := .bool false) (cB (dF h_11)) rfl) ?_
        refine jL 25 rfl (ji (v := .bool false) (cB (cN h_10)) rfl) <| kI (by kernel_rfl) <| jB <| jR (cB rfl) <| jT <| jm <| jB <| jF <| jA (jc (c := ((j + 1 : Nat) : Int)) he_5 rfl (wr (by omega))) <| jA (jD (v := iv ((j + 1 : Nat) : Int)) rfl) ?_
        refine jE <| kB [] (A := []) rfl ?_
        refine jq (s.length - (j + 1)) (by omega) ⟨j + 1, by omega, (fun i hi => if h : i = j then h ▸ (by simp only [storeG, Bool.and_true, Bool.true_and, Bool.and_false, Bool.false_and, Bool.or_true, Bool.true_or, Bool.or_false, Bool.false_or, Bool.not_true, Bool.not_false, ((dT h_6)), (h_9), (h_10), ((dF h_11))]) else hN i (by omega)), he_2, he_3, he_4, rfl, rfl, rfl⟩
      refine jd 12 (b := true) rfl (by kernel_rfl) (NP.th (NP.bl (NP.th (NP.th (NP.bl (NP.th NP.body)))))) (by kernel_rfl) (by kernel_rfl) rfl rfl rfl (cB (cN h_10)) <| jd 13 (b := true) rfl (by kernel_rfl) (NP.th (NP.bl (NP.th (NP.th (NP.bl (NP.th NP.body)))))) (by kernel_rfl) (by kernel_rfl) rfl rfl rfl (cB (cN h_10)) <| jd 14 (b := true) rfl (by kernel_rfl) (NP.th (NP.bl (NP.th (NP.th (NP.bl (NP.th NP.body)))))) (by kernel_rfl) (by kernel_rfl) rfl rfl rfl (cB (cN h_10)) <| kE 15 rfl (by kernel_rfl) (NP.th (NP.bl (NP.th (NP.th (NP.bl (NP.th NP.body)))))) (by kernel_rfl) (by kernel_rfl) rfl rfl rfl rfl <| kE 16 rfl (by kernel_rfl) (NP.th (NP.bl (NP.th (NP.th (NP.bl (NP.th NP.body)))))) (by kernel_rfl) (by kernel_rfl) rfl rfl rfl rfl <| kE 17 rfl (by kernel_rfl) (NP.th (NP.bl (NP.th (NP.th (NP.bl (NP.th NP.body)))))) (by kernel_rfl) (by kernel_rfl) rfl rfl rfl rfl <| kE 18 rfl (by kernel_rfl) (NP.th (NP.bl (NP.th (NP.th (NP.bl (NP.th NP.body)))))) (by kernel_rfl) (by kernel_rfl) rfl rfl rfl rfl <| kE 19 rfl (by kernel_rfl) (NP.th (NP.bl (NP.th (NP.th (NP.bl (NP.th NP.body)))))) (by kernel_rfl) (by kernel_rfl) rfl rfl rfl rfl <| kE 20 rfl (by kernel_rfl) (NP.th (NP.bl (NP.th (NP.th (NP.bl (NP.th NP.body)))))) (by kernel_rfl) (by kernel_rfl) rfl rfl rfl rfl <| kE 21 rfl (by kernel_rfl) (NP.th (NP.bl (NP.th (NP.th (NP.bl (NP.th NP.body)))))) (by kernel_rfl) (by kernel_rfl) rfl rfl rfl rfl ?_
      refine kE 22 rfl (by kernel_rfl) (NP.th (NP.bl (NP.th (NP.th (NP.bl (NP.th NP.body)))))) (by kernel_rfl) (by kernel_rfl) rfl rfl rfl rfl <| kE 23 rfl (by kernel_rfl) (NP.th (NP.bl (NP.th (NP.th (NP.bl (NP.th NP.body)))))) (by kernel_rfl) (by kernel_rfl) rfl rfl rfl rfl <| jd 24 (b := true) rfl (by kernel_rfl) (NP.th (NP.bl (NP.th (NP.th (NP.bl (NP.th NP.body)))))) (by kernel_rfl) (by kernel_rfl) rfl rfl rfl (cB (cN h_10)) <| jL 25 rfl (jh (v := .bool true) (cB (cN h_10)) rfl) <| kI (by kernel_rfl) <| jB <| jW (cB rfl) <| jC <| jF <| jA (jG (v := .bool false) rfl) ?_
      refine jE <| jB <| jN <| jv <| jX <| jX <| jv <| jX <| jV (.inl rfl) rfl (jJ (v := .bool false) rfl) (List.nil_sublist _) ?_
      exact ⟨cB (storeOk_bad hlt (by simp only [storeG, Bool.and_true, Bool.true_and, Bool.and_false, Bool.false_and, Bool.or_true, Bool.true_or, Bool.or_false, Bool.false_or, Bool.not_true, Bool.not_false, ((dT h_6)), (h_9), (h_10)])).symm, rfl⟩
    refine jd 5 (b := true) rfl (by kernel_rfl) (NP.th (NP.bl (NP.th (NP.th (NP.bl (NP.th NP.body)))))) (by kernel_rfl) (by kernel_rfl) rfl rfl rfl (cB (cN h_9)) <| jd 6 (b := true) rfl (by kernel_rfl) (NP.th (NP.bl (NP.th (NP.th (NP.bl (NP.th NP.body)))))) (by kernel_rfl) (by kernel_rfl) rfl rfl rfl (cB (cN h_9)) <| jd 7 (b := true) rfl (by kernel_rfl) (NP.th (NP.bl (NP.th (NP.th (NP.bl (NP.th NP.body)))))) (by kernel_rfl) (by kernel_rfl) rfl rfl rfl (cB (cN h_9)) <| jd 8 (b := true) rfl (by kernel_rfl) (NP.th (NP.bl (NP.th (NP.th (NP.bl (NP.th NP.body)))))) (by kernel_rfl) (by kernel_rfl) rfl rfl rfl (cB (cN h_9)) <| jd 9 (b := true) rfl (by kernel_rfl) (NP.th (NP.bl (NP.th (NP.th (NP.bl (NP.th NP.body)))))) (by kernel_rfl) (by kernel_rfl) rfl rfl rfl (cB (cN h_9)) <| jL 10 rfl (jh (v := .bool true) (cB (cN h_9)) rfl) <| jL 11 rfl (jD (v := .bool true) rfl) <| jd 12 (b := true) rfl (by kernel_rfl) (NP.th (NP.bl (NP.th (NP.th (NP.bl (NP.th NP.body)))))) (by kernel_rfl) (by kernel_rfl) rfl rfl rfl (cB rfl) <| jd 13 (b := true) rfl (by kernel_rfl) (NP.th (NP.bl (NP.th (NP.th (NP.bl (NP.th NP.body)))))) (by kernel_rfl) (by kernel_rfl) rfl rfl rfl (cB rfl) <| jd 14 (b := true) rfl (by kernel_rfl) (NP.th (NP.bl (NP.th (NP.th (NP.bl (NP.th NP.body)))))) (by kernel_rfl) (by kernel_rfl) rfl rfl rfl (cB rfl) ?_
    refine kE 15 rfl (by kernel_rfl) (NP.th (NP.bl (NP.th (NP.th (NP.bl (NP.th NP.body)))))) (by kernel_rfl) (by kernel_rfl) rfl rfl rfl rfl <| kE 16 rfl (by kernel_rfl) (NP.th (NP.bl (NP.th (NP.th (NP.bl (NP.th NP.body)))))) (by kernel_rfl) (by kernel_rfl) rfl rfl rfl rfl <| kE 17 rfl (by kernel_rfl) (NP.th (NP.bl (NP.th (NP.th (NP.bl (NP.th NP.body)))))) (by kernel_rfl) (by kernel_rfl) rfl rfl rfl rfl <| kE 18 rfl (by kernel_rfl) (NP.th (NP.bl (NP.th (NP.th (NP.bl (NP.th NP.body)))))) (by kernel_rfl) (by kernel_rfl) rfl rfl rfl rfl <| kE 19 rfl (by kernel_rfl) (NP.th (NP.bl (NP.th (NP.th (NP.bl (NP.th NP.body)))))) (by kernel_rfl) (by kernel_rfl) rfl rfl rfl rfl <| kE 20 rfl (by kernel_rfl) (NP.th (NP.bl (NP.th (NP.th (NP.bl (NP.th NP.body)))))) (by kernel_rfl) (by kernel_rfl) rfl rfl rfl rfl <| kE 21 rfl (by kernel_rfl) (NP.th (NP.bl (NP.th (NP.th (NP.bl (NP.th NP.body)))))) (by kernel_rfl) (by kernel_rfl) rfl rfl rfl rfl <| kE 22 rfl (by kernel_rfl) (NP.th (NP.bl (NP.th (NP.th (NP.bl (NP.th NP.body)))))) (by kernel_rfl) (by kernel_rfl) rfl rfl rfl rfl <| kE 23 rfl (by kernel_rfl) (NP.th (NP.bl (NP.th (NP.th (NP.bl (NP.th NP.body)))))) (by kernel_rfl) (by kernel_rfl) rfl rfl rfl rfl <| jd 24 (b := true) rfl (by kernel_rfl) (NP.th (NP.bl (NP.th (NP.th (NP.bl (NP.th NP.body)))))) (by kernel_rfl) (by kernel_rfl) rfl rfl rfl (cB rfl) ?_
    refine jL 25 rfl (jh (v := .bool true) (cB rfl) rfl) <| kI (by kernel_rfl) <| jB <| jW (cB rfl) <| jC <| jF <| jA (jG (v := .bool false) rfl) <| jE <| jB <| jN ?_
    refine jv <| jX <| jX <| jv <| jX <| jV (.inl rfl) rfl (jJ (v := .bool false) rfl) (List.nil_sublist _) ?_
    exact ⟨cB (storeOk_bad hlt (by simp only [storeG, Bool.and_true, Bool.true_and, Bool.and_false, Bool.false_and, Bool.or_true, Bool.true_or, Bool.or_false, Bool.false_or, Bool.not_true, Bool.not_false, ((dT h_6)), (h_9)])).symm, rfl⟩
  refine jR (cB (dF h_6)) <| jx <| jb <| jb <| jy <| jB <| jC <| jF <| jA (jD (v := .slice a s.length c) he_2) <| jA (jr kf rfl) ?_
  refine jA (PO.leq rfl rfl) <| jA (jG (v := .bool (decide (((s.length : Nat) : Int) ≤ 900))) rfl) <| jE <| jB <| jN <| jV (.inl rfl) rfl (jJ (v := .bool (decide (((s.length : Nat) : Int) ≤ 900))) rfl) (List.nil_sublist _) ?_
  exact ⟨cB (storeOk_end (by omega) hN).symm, rfl⟩

set_option maxRecDepth 4000 in
set_option maxHeartbeats 1000000 in
theorem Y_specStoreOk (a : Option Addr) (c : Nat) (s : List Cell) (hs : okC s) :
    Ct Tryz.prog 53 [.slice a s.length c] [] (fun w_ => Sees w_ (.slice a s.length c) 2 s.length (s.flatMap encC)) (fun v A' => v = .bool (storeOk s) ∧ A' = []) := by
  refine Ct.intro Tryz.func53 rfl Tryz.ntmps53 (lb rfl) fun w0 hpre => ?_
  have hs_a : Sees w0 _ _ _ _ := hpre
  have hsl := hs.1
  refine jC <| jF <| jA (jG (v := .bool false) rfl) <| jE <| jB <| jC <| jC <| jF <| jA (jG (v := iv 0) rfl) <| jE ?_
  refine jB <| jf <| kD (fun k_ e_ L_ => ∃ j : Nat, (j ≤ s.length) ∧ (∀ i, i < j → storeG s i = true) ∧ e_ 0 = .slice a s.length c ∧ e_ 3 = nv j ∧ L_ = [] ∧ k_ = s.length - j) _ ⟨0, by omega, (fun i hi => absurd hi (Nat.not_lt_zero i)), rfl, rfl, rfl, rfl⟩ ?_
  rintro _ e_1 _ ⟨j, hj, hN, he_2, he_3, rfl, rfl⟩
  refine jC <| jC <| jF <| jA (jD (v := nv j) he_3) <| jA (jD (v := .slice a s.length c) he_2) <| jA (jr kf rfl) <| jA (jl rfl rfl) <| jE <| jB ?_
  by_cases h_4 : ((j : Nat) : Int) < ((s.length : Nat) : Int)
  · have hlt : j < s.length := by omega
    refine jW (cB (dT h_4)) <| jT <| jB <| jC <| jf <| jC <| kJ [] 1000 mixed (by simp) <| jL 0 rfl (jD (v := .slice a s.length c) he_2) <| jL 1 rfl (jD (v := nv j) he_3) ?_
    obtain ⟨hr_5, hr_5b, -⟩ := sees_some hs_a (by omega)
    refine jL 2 rfl (jk (i := j) kf kh hr_5 hr_5b rfl rfl (by omega)) <| jL 3 rfl (kL fo48_0 hr_5 rfl) <| jw 4 rfl (kY (v := str ((s.getD j c0).1)) hs_a nM rfl ki (atC1 (by omega))) <| jj (i := 5) ?_
    refine jz rfl rfl (jI [] Tryz.call92 rfl (Y_specKeyOk ((s.getD j c0).1) (hs.2 j hlt).1) rfl (fun _ _ => trivial)) ?_
    rintro _ _ ⟨_, ⟨rfl, rfl⟩, rfl⟩
    refine ⟨(fun _ h => by cases h), ?_⟩
    refine jL 6 rfl (jp rfl) <| jL 7 rfl (jD (v := .bool (!(keyOk ((s.getD j c0).1)))) rfl) ?_
    rcases Bool.eq_false_or_eq_true (keyOk ((s.getD j c0).1)) with h_6 | h_6
    · refine jg 8 rfl (by kernel_rfl) (NP.th (NP.bl (NP.th (NP.th (NP.bl (NP.th NP.body)))))) (by kernel_rfl) (by kernel_rfl) rfl rfl rfl (cB (cN h_6)) (jD (v := .slice a s.length c) he_2) <| jg 9 rfl (by kernel_rfl) (NP.th (NP.bl (NP.th (NP.th (NP.bl (NP.th NP.body)))))) (by kernel_rfl) (by kernel_rfl) rfl rfl rfl (cB (cN h_6)) (jD (v := nv j) he_3) <| jg 10 rfl (by kernel_rfl) (NP.th (NP.bl (NP.th (NP.th (NP.bl (NP.th NP.body)))))) (by kernel_rfl) (by kernel_rfl) rfl rfl rfl (cB (cN h_6)) (jk (i := j) kf kh hr_5 hr_5b rfl rfl (by omega)) <| jg 11 rfl (by kernel_rfl) (NP.th (NP.bl (NP.th (NP.th (NP.bl (NP.th NP.body)))))) (by kernel_rfl) (by kernel_rfl) rfl rfl rfl (cB (cN h_6)) (kL fo48_1 hr_5 rfl) <| kK 12 rfl (by kernel_rfl) (NP.th (NP.bl (NP.th (NP.th (NP.bl (NP.th NP.body)))))) (by kernel_rfl) (by kernel_rfl) (by kernel_rfl) rfl rfl rfl (cB (cN h_6)) (kY (v := str ((s.getD j c0).2)) hs_a nM rfl ki (atC2 (by omega))) <| jg 13 rfl (by kernel_rfl) (NP.th (NP.bl (NP.th (NP.th (NP.bl (NP.th NP.body)))))) (by kernel_rfl) (by kernel_rfl) rfl rfl rfl (cB (cN h_6)) (kF kg rfl) <| jj (i := 14) ?_
      refine kQ rfl rfl rfl rfl (cB (cN h_6)) (jI [] Tryz.call89 rfl (Y_l01In (((s.getD j c0).2).length : Int) 1 60) rfl (fun _ _ => trivial)) ?_
      rintro _ _ ⟨_, ⟨rfl, rfl⟩, rfl⟩
      refine ⟨(fun _ h => by cases h), ?_⟩
      refine jg 15 rfl (by kernel_rfl) (NP.th (NP.bl (NP.th (NP.th (NP.bl (NP.th NP.body)))))) (by kernel_rfl) (by kernel_rfl) rfl rfl rfl (cB (cN h_6)) (jp rfl) <| jL 16 rfl (ji (v := .bool (!(within 1 (((s.getD j c0).2).length : Int) 60))) (cB (cN h_6)) rfl) <| jL 17 rfl (jD (v := .bool (!(within 1 (((s.getD j c0).2).length : Int) 60))) rfl) ?_
      rcases Bool.eq_false_or_eq_true (within 1 (((s.getD j c0).2).length : Int) 60) with h_7 | h_7
      · refine jg 18 rfl (by kernel_rfl) (NP.th (NP.bl (NP.th (NP.th (NP.bl (NP.th NP.body)))))) (by kernel_rfl) (by kernel_rfl) rfl rfl rfl (cB (cN h_7)) (jD (v := nv j) he_3) <| jg 19 rfl (by kernel_rfl) (NP.th (NP.bl (NP.th (NP.th (NP.bl (NP.th NP.body)))))) (by kernel_rfl) (by kernel_rfl) rfl rfl rfl (cB (cN h_7)) (kR rfl rfl) <| jg 20 rfl (by kernel_rfl) (NP.th (NP.bl (NP.th (NP.th (NP.bl (NP.th NP.body)))))) (by kernel_rfl) (by kernel_rfl) rfl rfl rfl (cB (cN h_7)) (jD (v := .bool (decide (0 < ((j : Nat) : Int)))) rfl) ?_
        by_cases h_8 : 0 < ((j : Nat) : Int)
        · refine jg 21 rfl (by kernel_rfl) (NP.th (NP.bl (NP.th (NP.th (NP.bl (NP.th NP.body)))))) (by kernel_rfl) (by kernel_rfl) rfl rfl rfl (cB (dT h_8)) (jD (v := .slice a s.length c) he_2) <| jg 22 rfl (by kernel_rfl) (NP.th (NP.bl (NP.th (NP.th (NP.bl (NP.th NP.body)))))) (by kernel_rfl) (by kernel_rfl) rfl rfl rfl (cB (dT h_8)) (jD (v := nv j) he_3) <| jg 23 rfl (by kernel_rfl) (NP.th (NP.bl (NP.th (NP.th (NP.bl (NP.th NP.body)))))) (by kernel_rfl) (by kernel_rfl) rfl rfl rfl (cB (dT h_8)) (kZ (c := ((j - 1 : Nat) : Int)) rfl rfl (wr (by omega))) <| jg 24 rfl (by kernel_rfl) (NP.th (NP.bl (NP.th (NP.th (NP.bl (NP.th NP.body)))))) (by kernel_rfl) (by kernel_rfl) rfl rfl rfl (cB (dT h_8)) (jk (i := (j - 1)) kf kh hr_5 hr_5b rfl rfl (by omega)) <| jg 25 rfl (by kernel_rfl) (NP.th (NP.bl (NP.th (NP.th (NP.bl (NP.th NP.body)))))) (by kernel_rfl) (by kernel_rfl) rfl rfl rfl (cB (dT h_8)) (kL fo48_0 hr_5 rfl) <| kK 26 rfl (by kernel_rfl) (NP.th (NP.bl (NP.th (NP.th (NP.bl (NP.th NP.body)))))) (by kernel_rfl) (by kernel_rfl) (by kernel_rfl) rfl rfl rfl (cB (dT h_8)) (kY (v := str ((s.getD (j - 1) c0).1)) hs_a nM rfl ki (atC1 (by omega))) <| jg 27 rfl (by kernel_rfl) (NP.th (NP.bl (NP.th (NP.th (NP.bl (NP.th NP.body)))))) (by kernel_rfl) (by kernel_rfl) rfl rfl rfl (cB (dT h_8)) (jD (v := .slice a s.length c) he_2) <| jg 28 rfl (by kernel_rfl) (NP.th (NP.bl (NP.th (NP.th (NP.bl (NP.th NP.body)))))) (by kernel_rfl) (by kernel_rfl) rfl rfl rfl (cB (dT h_8)) (jD (v := nv j) he_3) <| jg 29 rfl (by kernel_rfl) (NP.th (NP.bl (NP.th (NP.th (NP.bl (NP.th NP.body)))))) (by kernel_rfl) (by kernel_rfl) rfl rfl rfl (cB (dT h_8)) (jk (i := j) kf kh hr_5 hr_5b rfl rfl (by omega)) <| jg 30 rfl (by kernel_rfl) (NP.th (NP.bl (NP.th (NP.th (NP.bl (NP.th NP.body)))))) (by kernel_rfl) (by kernel_rfl) rfl rfl rfl (cB (dT h_8)) (kL fo48_0 hr_5 rfl) ?_
          refine kK 31 rfl (by kernel_rfl) (NP.th (NP.bl (NP.th (NP.th (NP.bl (NP.th NP.body)))))) (by kernel_rfl) (by kernel_rfl) (by kernel_rfl) rfl rfl rfl (cB (dT h_8)) (kY (v := str ((s.getD j c0).1)) hs_a nM rfl ki (atC1 (by omega))) <| jg 32 rfl (by kernel_rfl) (NP.th (NP.bl (NP.th (NP.th (NP.bl (NP.th NP.body)))))) (by kernel_rfl) (by kernel_rfl) rfl rfl rfl (cB (dT h_8)) (PO.geqS rfl rfl) <| jg 33 rfl (by kernel_rfl) (NP.th (NP.bl (NP.th (NP.th (NP.bl (NP.th NP.body)))))) (by kernel_rfl) (by kernel_rfl) rfl rfl rfl (cB (cN h_7)) (jh (v := .bool (!(Op.bytesLess ((s.getD (j - 1) c0).1) ((s.getD j c0).1)))) (cB (dT h_8)) rfl) <| jL 34 rfl (ji (v := .bool (!(Op.bytesLess ((s.getD (j - 1) c0).1) ((s.getD j c0).1)))) (cB (cN h_7)) rfl) <| kI (by kernel_rfl) <| jB ?_
          rcases Bool.eq_false_or_eq_true (Op.bytesLess ((s.getD (j - 1) c0).1) ((s.getD j c0).1)) with h_9 | h_9
          · refine jR (cB (cN h_9)) <| jT <| jm <| jB <| jF <| jA (jD (v := nv j) he_3) <| jA (jc (c := ((j + 1 : Nat) : Int)) rfl rfl (wr (by omega))) <| jA (jG (v := iv ((j + 1 : Nat) : Int)) rfl) <| jE ?_
            refine jq (s.length - (j + 1)) (by omega) ⟨j + 1, by omega, (fun i hi => if h : i = j then h ▸ (by simp only [storeG, Bool.and_true, Bool.true_and, Bool.and_false, Bool.false_and, Bool.or_true, Bool.true_or, Bool.or_false, Bool.false_or, Bool.not_true, Bool.not_false, ((dT h_4)), (h_6), (h_7), ((dT h_8)), (h_9)]) else hN i (by omega)), he_2, rfl, rfl, rfl⟩
          refine jW (cB (cN h_9)) <| jC <| jF <| jA (jG (v := .bool false) rfl) <| jE <| jB <| jN <| jv <| jX <| jX ?_
          refine jv <| jX <| jV (.inl rfl) rfl (jJ (v := .bool false) rfl) (List.nil_sublist _) ?_
          exact ⟨cB (storeOk_bad hlt (by simp only [storeG, Bool.and_true, Bool.true_and, Bool.and_false, Bool.false_and, Bool.or_true, Bool.true_or, Bool.or_false, Bool.false_or, Bool.not_true, Bool.not_false, ((dT h_4)), (h_6), (h_7), ((dT h_8)), (h_9)])).symm, rfl⟩
        refine jd 21 (b := false) rfl (by kernel_rfl) (NP.th (NP.bl (NP.th (NP.th (NP.bl (NP.th NP.body)))))) (by kernel_rfl) (by kernel_rfl) rfl rfl rfl (cB (dF h_8)) <| jd 22 (b := false) rfl (by kernel_rfl) (NP.th (NP.bl (NP.th (NP.th (NP.bl (NP.th NP.body)))))) (by kernel_rfl) (by kernel_rfl) rfl rfl rfl (cB (dF h_8)) <| jd 23 (b := false) rfl (by kernel_rfl) (NP.th (NP.bl (NP.th (NP.th (NP.bl (NP.th NP.body)))))) (by kernel_rfl) (by kernel_rfl) rfl rfl rfl (cB (dF h_8)) <| jd 24 (b := false) rfl (by kernel_rfl) (NP.th (NP.bl (NP.th (NP.th (NP.bl (NP.th NP.body)))))) (by kernel_rfl) (by kernel_rfl) rfl rfl rfl (cB (dF h_8)) <| jd 25 (b := false) rfl (by kernel_rfl) (NP.th (NP.bl (NP.th (NP.th (NP.bl (NP.th NP.body)))))) (by kernel_rfl) (by kernel_rfl) rfl rfl rfl (cB (dF h_8)) <| jd 26 (b := false) rfl (by kernel_rfl) (NP.th (NP.bl (NP.th (NP.th (NP.bl (NP.th NP.body)))))) (by kernel_rfl) (by kernel_rfl) rfl rfl rfl (cB (dF h_8)) <| jd 27 (b := false) rfl (by kernel_rfl) (NP.th (NP.bl (NP.th (NP.th (NP.bl (NP.th NP.body)))))) (by kernel_rfl) (by kernel_rfl) rfl rfl rfl (cB (dF h_8)) <| jd 28 (b := false) rfl (by kernel_rfl) (NP.th (NP.bl (NP.th (NP.th (NP.bl (NP.th NP.body)))))) (by kernel_rfl) (by kernel_rfl) rfl rfl rfl (cB (dF h_8)) <| jd 29 (b := false) rfl (by kernel_rfl) (NP.th (NP.bl (NP.th (NP.th (NP.bl (NP.th NP.body)))))) (by kernel_rfl) (by kernel_rfl) rfl rfl rfl (cB (dF h_8)) <| jd 30 (b := false) rfl (by kernel_rfl) (NP.th (NP.bl (NP.th (NP.th (NP.bl (NP.th NP.body)))))) (by kernel_rfl) (by kernel_rfl) rfl rfl rfl (cB (dF h_8)) ?_
        refine jd 31 (b := false) rfl (by kernel_rfl) (NP.th (NP.bl (NP.th (NP.th (NP.bl (NP.th NP.body)))))) (by kernel_rfl) (by kernel_rfl) rfl rfl rfl (cB (dF h_8)) <| jd 32 (b := false) rfl (by kernel_rfl) (NP.th (NP.bl (NP.th (NP.th (NP.bl (NP.th NP.body)))))) (by kernel_rfl) (by kernel_rfl) rfl rfl rfl (cB (dF h_8)) <| jg 33 rfl (by kernel_rfl) (NP.th (NP.bl (NP.th (NP.th (NP.bl (NP.th NP.body)))))) (by kernel_rfl) (by kernel_rfl) rfl rfl rfl (cB (cN h_7)) (ji (v := .bool false) (cB (dF h_8)) rfl) <| jL 34 rfl (ji (v := .bool false) (cB (cN h_7)) rfl) <| kI (by kernel_rfl) <| jB <| jR (cB rfl) <| jT <| jm <| jB ?_
        refine jF <| jA (jD (v := nv j) he_3) <| jA (jc (c := ((j + 1 : Nat) : Int)) rfl rfl (wr (by omega))) <| jA (jG (v := iv ((j + 1 : Nat) : Int)) rfl) <| jE ?_
        refine jq (s.length - (j + 1)) (by omega) ⟨j + 1, by omega, (fun i hi => if h : i = j then h ▸ (by simp only [storeG, Bool.and_true, Bool.true_and, Bool.and_false, Bool.false_and, Bool.or_true, Bool.true_or, Bool.or_false, Bool.false_or, Bool.not_true, Bool.not_false, ((dT h_4)), (h_6), (h_7), ((dF h_8))]) else hN i (by omega)), he_2, rfl, rfl, rfl⟩
      refine jd 18 (b := true) rfl (by kernel_rfl) (NP.th (NP.bl (NP.th (NP.th (NP.bl (NP.th NP.body)))))) (by kernel_rfl) (by kernel_rfl) rfl rfl rfl (cB (cN h_7)) <| jd 19 (b := true) rfl (by kernel_rfl) (NP.th (NP.bl (NP.th (NP.th (NP.bl (NP.th NP.body)))))) (by kernel_rfl) (by kernel_rfl) rfl rfl rfl (cB (cN h_7)) <| jd 20 (b := true) rfl (by kernel_rfl) (NP.th (NP.bl (NP.th (NP.th (NP.bl (NP.th NP.body)))))) (by kernel_rfl) (by kernel_rfl) rfl rfl rfl (cB (cN h_7)) <| kE 21 rfl (by kernel_rfl) (NP.th (NP.bl (NP.th (NP.th (NP.bl (NP.th NP.body)))))) (by kernel_rfl) (by kernel_rfl) rfl rfl rfl rfl <| kE 22 rfl (by kernel_rfl) (NP.th (NP.bl (NP.th (NP.th (NP.bl (NP.th NP.body)))))) (by kernel_rfl) (by kernel_rfl) rfl rfl rfl rfl <| kE 23 rfl (by kernel_rfl) (NP.th (NP.bl (NP.th (NP.th (NP.bl (NP.th NP.body)))))) (by kernel_rfl) (by kernel_rfl) rfl rfl rfl rfl <| kE 24 rfl (by kernel_rfl) (NP.th (NP.bl (NP.th (NP.th (NP.bl (NP.th NP.body)))))) (by kernel_rfl) (by kernel_rfl) rfl rfl rfl rfl <| kE 25 rfl (by kernel_rfl) (NP.th (NP.bl (NP.th (NP.th (NP.bl (NP.th NP.body)))))) (by kernel_rfl) (by kernel_rfl) rfl rfl rfl rfl <| kE 26 rfl (by kernel_rfl) (NP.th (NP.bl (NP.th (NP.th (NP.bl (NP.th NP.body)))))) (by kernel_rfl) (by kernel_rfl) rfl rfl rfl rfl <| kE 27 rfl (by kernel_rfl) (NP.th (NP.bl (NP.th (NP.th (NP.bl (NP.th NP.body)))))) (by kernel_rfl) (by kernel_rfl) rfl rfl rfl rfl ?_
      refine kE 28 rfl (by kernel_rfl) (NP.th (NP.bl (NP.th (NP.th (NP.bl (NP.th NP.body)))))) (by kernel_rfl) (by kernel_rfl) rfl rfl rfl rfl <| kE 29 rfl (by kernel_rfl) (NP.th (NP.bl (NP.th (NP.th (NP.bl (NP.th NP.body)))))) (by kernel_rfl) (by kernel_rfl) rfl rfl rfl rfl <| kE 30 rfl (by kernel_rfl) (NP.th (NP.bl (NP.th (NP.th (NP.bl (NP.th NP.body)))))) (by kernel_rfl) (by kernel_rfl) rfl rfl rfl rfl <| kE 31 rfl (by kernel_rfl) (NP.th (NP.bl (NP.th (NP.th (NP.bl (NP.th NP.body)))))) (by kernel_rfl) (by kernel_rfl) rfl rfl rfl rfl <| kE 32 rfl (by kernel_rfl) (NP.th (NP.bl (NP.th (NP.th (NP.bl (NP.th NP.body)))))) (by kernel_rfl) (by kernel_rfl) rfl rfl rfl rfl <| jd 33 (b := true) rfl (by kernel_rfl) (NP.th (NP.bl (NP.th (NP.th (NP.bl (NP.th NP.body)))))) (by kernel_rfl) (by kernel_rfl) rfl rfl rfl (cB (cN h_7)) <| jL 34 rfl (jh (v := .bool true) (cB (cN h_7)) rfl) <| kI (by kernel_rfl) <| jB <| jW (cB rfl) ?_
      refine jC <| jF <| jA (jG (v := .bool false) rfl) <| jE <| jB <| jN <| jv <| jX <| jX <| jv ?_
      refine jX <| jV (.inl rfl) rfl (jJ (v := .bool false) rfl) (List.nil_sublist _) ?_
      exact ⟨cB (storeOk_bad hlt (by simp only [storeG, Bool.and_true, Bool.true_and, Bool.and_false, Bool.false_and, Bool.or_true, Bool.true_or, Bool.or_false, Bool.false_or, Bool.not_true, Bool.not_false, ((dT h_4)), (h_6), (h_7)])).symm, rfl⟩
    refine jd 8 (b := true) rfl (by kernel_rfl) (NP.th (NP.bl (NP.th (NP.th (NP.bl (NP.th NP.body)))))) (by kernel_rfl) (by kernel_rfl) rfl rfl rfl (cB (cN h_6)) <| jd 9 (b := true) rfl (by kernel_rfl) (NP.th (NP.bl (NP.th (NP.th (NP.bl (NP.th NP.body)))))) (by kernel_rfl) (by kernel_rfl) rfl rfl rfl (cB (cN h_6)) <| jd 10 (b := true) rfl (by kernel_rfl) (NP.th (NP.bl (NP.th (NP.th (NP.bl (NP.th NP.body)))))) (by kernel_rfl) (by kernel_rfl) rfl rfl rfl (cB (cN h_6)) <| jd 11 (b := true) rfl (by kernel_rfl) (NP.th (NP.bl (NP.th (NP.th (NP.bl (NP.th NP.body)))))) (by kernel_rfl) (by kernel_rfl) rfl rfl rfl (cB (cN h_6)) <| jd 12 (b := true) rfl (by kernel_rfl) (NP.th (NP.bl (NP.th (NP.th (NP.bl (NP.th NP.body)))))) (by kernel_rfl) (by kernel_rfl) rfl rfl rfl (cB (cN h_6)) <| jd 13 (b := true) rfl (by kernel_rfl) (NP.th (NP.bl (NP.th (NP.th (NP.bl (NP.th NP.body)))))) (by kernel_rfl) (by kernel_rfl) rfl rfl rfl (cB (cN h_6)) <| jd 14 (b := true) rfl (by kernel_rfl) (NP.th (NP.bl (NP.th (NP.th (NP.bl (NP.th NP.body)))))) (by kernel_rfl) (by kernel_rfl) rfl rfl rfl (cB (cN h_6)) <| jd 15 (b := true) rfl (by kernel_rfl) (NP.th (NP.bl (NP.th (NP.th (NP.bl (NP.th NP.body)))))) (by kernel_rfl) (by kernel_rfl) rfl rfl rfl (cB (cN h_6)) <| jL 16 rfl (jh (v := .bool true) (cB (cN h_6)) rfl) <| jL 17 rfl (jD (v := .bool true) rfl) ?_
    refine jd 18 (b := true) rfl (by kernel_rfl) (NP.th (NP.bl (NP.th (NP.th (NP.bl (NP.th NP.body)))))) (by kernel_rfl) (by kernel_rfl) rfl rfl rfl (cB rfl) <| jd 19 (b := true) rfl (by kernel_rfl) (NP.th (NP.bl (NP.th (NP.th (NP.bl (NP.th NP.body)))))) (by kernel_rfl) (by kernel_rfl) rfl rfl rfl (cB rfl) <| jd 20 (b := true) rfl (by kernel_rfl) (NP.th (NP.bl (NP.th (NP.th (NP.bl (NP.th NP.body)))))) (by kernel_rfl) (by kernel_rfl) rfl rfl rfl (cB rfl) <| kE 21 rfl (by kernel_rfl) (NP.th (NP.bl (NP.th (NP.th (NP.bl (NP.th NP.body)))))) (by kernel_rfl) (by kernel_rfl) rfl rfl rfl rfl <| kE 22 rfl (by kernel_rfl) (NP.th (NP.bl (NP.th (NP.th (NP.bl (NP.th NP.body)))))) (by kernel_rfl) (by kernel_rfl) rfl rfl rfl rfl <| kE 23 rfl (by kernel_rfl) (NP.th (NP.bl (NP.th (NP.th (NP.bl (NP.th NP.body)))))) (by kernel_rfl) (by kernel_rfl) rfl rfl rfl rfl <| kE 24 rfl (by kernel_rfl) (NP.th (NP.bl (NP.th (NP.th (NP.bl (NP.th NP.body)))))) (by kernel_rfl) (by kernel_rfl) rfl rfl rfl rfl <| kE 25 rfl (by kernel_rfl) (NP.th (NP.bl (NP.th (NP.th (NP.bl (NP.th NP.body)))))) (by kernel_rfl) (by kernel_rfl) rfl rfl rfl rfl <| kE 26 rfl (by kernel_rfl) (NP.th (NP.bl (NP.th (NP.th (NP.bl (NP.th NP.body)))))) (by kernel_rfl) (by kernel_rfl) rfl rfl rfl rfl <| kE 27 rfl (by kernel_rfl) (NP.th (NP.bl (NP.th (NP.th (NP.bl (NP.th NP.body)))))) (by kernel_rfl) (by kernel_rfl) rfl rfl rfl rfl ?_
    refine kE 28 rfl (by kernel_rfl) (NP.th (NP.bl (NP.th (NP.th (NP.bl (NP.th NP.body)))))) (by kernel_rfl) (by kernel_rfl) rfl rfl rfl rfl <| kE 29 rfl (by kernel_rfl) (NP.th (NP.bl (NP.th (NP.th (NP.bl (NP.th NP.body)))))) (by kernel_rfl) (by kernel_rfl) rfl rfl rfl rfl <| kE 30 rfl (by kernel_rfl) (NP.th (NP.bl (NP.th (NP.th (NP.bl (NP.th NP.body)))))) (by kernel_rfl) (by kernel_rfl) rfl rfl rfl rfl <| kE 31 rfl (by kernel_rfl) (NP.th (NP.bl (NP.th (NP.th (NP.bl (NP.th NP.body)))))) (by kernel_rfl) (by kernel_rfl) rfl rfl rfl rfl <| kE 32 rfl (by kernel_rfl) (NP.th (NP.bl (NP.th (NP.th (NP.bl (NP.th NP.body)))))) (by kernel_rfl) (by kernel_rfl) rfl rfl rfl rfl <| jd 33 (b := true) rfl (by kernel_rfl) (NP.th (NP.bl (NP.th (NP.th (NP.bl (NP.th NP.body)))))) (by kernel_rfl) (by kernel_rfl) rfl rfl rfl (cB rfl) <| jL 34 rfl (jh (v := .bool true) (cB rfl) rfl) <| kI (by kernel_rfl) <| jB <| jW (cB rfl) ?_
    refine jC <| jF <| jA (jG (v := .bool false) rfl) <| jE <| jB <| jN <| jv <| jX <| jX <| jv ?_
    refine jX <| jV (.inl rfl) rfl (jJ (v := .bool false) rfl) (List.nil_sublist _) ?_
    exact ⟨cB (storeOk_bad hlt (by simp only [storeG, Bool.and_true, Bool.true_and, Bool.and_false, Bool.false_and, Bool.or_true, Bool.true_or, Bool.or_false, Bool.false_or, Bool.not_true, Bool.not_false, ((dT h_4)), (h_6)])).symm, rfl⟩
  refine jR (cB (dF h_4)) <| jx <| jb <| jb <| jy <| jB <| jC <| jF <| jA (jD (v := .slice a s.length c) he_2) <| jA (jr kf rfl) ?_
  refine jA (PO.leq rfl rfl) <| jA (jG (v := .bool (decide (((s.length : Nat) : Int) ≤ 900))) rfl) <| jE <| jB <| jN <| jV (.inl rfl) rfl (jJ (v := .bool (decide (((s.length : Nat) : Int) ≤ 900))) rfl) (List.nil_sublist _) ?_
  exact ⟨cB (storeOk_end (by omega) hN).symm, rfl⟩

theorem Y_implJournalOk (t : Str) (js : Int) (hl : t.length ≤ 9223372036854775807) :
    Ct Tryz.prog 75 [.agg #[str t, .int .i64 js]] [] (fun _ => True) (fun v A' => v = .bool (jourOk t js) ∧ A' = []) := by
  refine Ct.intro Tryz.func75 rfl Tryz.ntmps75 (lb rfl) fun w0 hpre => ?_
  refine jC <| jF ?_
  refine jH rfl (kG (cs := [str t, iv js]) rfl rfl) ?_
  rintro _ _ ⟨b_1, rfl, rfl⟩
  refine jA (jG (v := .bool false) rfl) <| jE <| jB <| jC <| jF <| jA (jQ fo29_0 rfl) <| jK (jZ 0 (v := str t) rfl rfl ki rfl) <| jA (kF kg rfl) <| jA (PO.leq rfl rfl) <| jA (jD (v := .bool (decide ((t.length : Int) ≤ 20000))) rfl) ?_
  by_cases h_2 : (t.length : Int) ≤ 20000
  · refine jM rfl rfl rfl (cB (dT h_2)) (jP (jU (jQ fo29_1 rfl))) ?_
    rintro _ _ ⟨rfl, rfl⟩
    refine jM rfl rfl rfl (cB (dT h_2)) (jP (jZ 0 (v := iv js) rfl rfl kq rfl)) ?_
    rintro _ _ ⟨rfl, rfl⟩
    refine jM rfl rfl rfl (cB (dT h_2)) (jP (jU (jQ fo29_0 rfl))) ?_
    rintro _ _ ⟨rfl, rfl⟩
    refine jM rfl rfl rfl (cB (dT h_2)) (jP (jZ 0 (v := str t) rfl rfl ki rfl)) ?_
    rintro _ _ ⟨rfl, rfl⟩
    refine jM rfl rfl rfl (cB (dT h_2)) (jP (jU (kF kg rfl))) ?_
    rintro _ _ ⟨rfl, rfl⟩
    refine jM rfl rfl rfl (cB (dT h_2)) (jI [] Tryz.call76 rfl (Y_within js 0 (t.length : Int)) rfl (fun _ _ => trivial)) ?_
    rintro _ _ ⟨_, ⟨rfl, rfl⟩, rfl⟩
    refine jA (jh (v := .bool (within 0 js (t.length : Int))) (cB (dT h_2)) rfl) <| jA (jG (v := .bool (within 0 js (t.length : Int))) rfl) <| jE <| jB <| jN <| jV (.inl rfl) rfl (jJ (v := .bool (within 0 js (t.length : Int))) rfl) (List.nil_sublist _) ?_
    exact ⟨cB (by simp only [jourOk, Bool.and_true, Bool.true_and, Bool.and_false, Bool.false_and, Bool.or_true, Bool.true_or, Bool.or_false, Bool.false_or, Bool.not_true, Bool.not_false, ((dT h_2))]), rfl⟩
  refine jS (b := false) rfl rfl rfl (cB (dF h_2)) <| jS (b := false) rfl rfl rfl (cB (dF h_2)) <| jS (b := false) rfl rfl rfl (cB (dF h_2)) <| jS (b := false) rfl rfl rfl (cB (dF h_2)) <| jS (b := false) rfl rfl rfl (cB (dF h_2)) <| jS (b := false) rfl rfl rfl (cB (dF h_2)) <| jA (ji (v := .bool false) (cB (dF h_2)) rfl) <| jA (jG (v := .bool false) rfl) <| jE <| jB ?_
  refine jN <| jV (.inl rfl) rfl (jJ (v := .bool false) rfl) (List.nil_sublist _) ?_
  exact ⟨cB (by simp only [jourOk, Bool.and_true, Bool.true_and, Bool.and_false, Bool.false_and, Bool.or_true, Bool.true_or, Bool.or_false, Bool.false_or, Bool.not_true, Bool.not_false, ((dF h_2))]), rfl⟩

set_option maxRecDepth 4000 in
set_option maxHeartbeats 1000000 in
theorem Y_implDiskOk (d : DX) (hz : d.dat.okz) (hl : d.l.length ≤ 1000000000) :
    Ct Tryz.prog 47 [.agg #[.slice d.a d.l.length d.c, str d.jt, .int .i64 d.js]] [] (fun w => SeesA w (rdsD d)) (fun v A' => v = .bool (diskOk d.dat) ∧ A' = []) := by
  refine Ct.intro Tryz.func47 rfl Tryz.ntmps47 (lb rfl) fun w0 hpre => ?_
  have hjl := hz.k2
  have hs_1 : Sees w0 (.slice d.a d.l.length d.c) 3 d.l.length (d.l.flatMap encO) := (hpre).head
  have hi_2 : SeesA w0 (d.l.flatMap rdsO) := (hpre).tail
  refine jC <| jF ?_
  refine jH rfl (kG (cs := [.slice d.a d.l.length d.c, str d.jt, iv d.js]) rfl rfl) ?_
  rintro _ _ ⟨b_3, rfl, rfl⟩
  refine jA (jG (v := .bool false) rfl) <| jE <| jB <| jC <| jC <| jF <| jA (jQ fo31_0 rfl) <| jK (jZ 0 (v := .slice d.a d.l.length d.c) rfl rfl ks rfl) <| jA (jr km rfl) <| jA (kS rfl rfl) ?_
  refine jA (jD (v := .bool (!(decide (((d.l.length : Nat) : Int) = 2)))) rfl) ?_
  by_cases h_4 : ((d.l.length : Nat) : Int) = 2
  · refine jM rfl rfl rfl (cB (cN (dT h_4))) (jP (jU (jQ fo31_0 rfl))) ?_
    rintro _ _ ⟨rfl, rfl⟩
    refine jM rfl rfl rfl (cB (cN (dT h_4))) (jP (jZ 0 (v := .slice d.a d.l.length d.c) rfl rfl ks rfl)) ?_
    rintro _ _ ⟨rfl, rfl⟩
    obtain ⟨hr_5, hr_5b, -⟩ := sees_some hs_1 (by omega)
    refine jM rfl rfl rfl (cB (cN (dT h_4))) (jP (jU (jk (i := 0) km kj hr_5 hr_5b rfl rfl (by omega)))) ?_
    rintro _ _ ⟨rfl, rfl⟩
    refine jM rfl rfl rfl (cB (cN (dT h_4))) (jP (jU (kL fo60_2 hr_5 rfl))) ?_
    rintro _ _ ⟨rfl, rfl⟩
    have hi_6 := SeesA.elem hi_2 o0 (show 0 < d.l.length by omega)
    have hs_7 := seesO hi_6
    refine jM rfl rfl rfl (cB (cN (dT h_4))) (jP (kY (v := .bool ((d.l.getD 0 o0).t.whole)) hs_1 nM rfl gI (flat_at encO_len o0 d.l 0 2 (by omega) (by decide)))) ?_
    rintro _ _ ⟨rfl, rfl⟩
    refine jM rfl rfl rfl (cB (cN (dT h_4))) (jP (jU (jp rfl))) ?_
    rintro _ _ ⟨rfl, rfl⟩
    refine jM rfl rfl rfl (cB (cN (dT h_4))) (jP (jU (jD (v := .bool (!((d.l.getD 0 o0).t.whole))) rfl))) ?_
    rintro _ _ ⟨rfl, rfl⟩
    rcases Bool.eq_false_or_eq_true ((d.l.getD 0 o0).t.whole) with h_8 | h_8
    · refine jS (b := false) rfl rfl rfl (cB (cN h_8)) <| jS (b := false) rfl rfl rfl (cB (cN h_8)) <| jS (b := false) rfl rfl rfl (cB (cN h_8)) <| jS (b := false) rfl rfl rfl (cB (cN h_8)) <| jS (b := false) rfl rfl rfl (cB (cN h_8)) <| jS (b := false) rfl rfl rfl (cB (cN h_8)) <| jM rfl rfl rfl (cB (cN (dT h_4))) (jP (jU (ji (v := .bool false) (cB (cN h_8)) rfl))) ?_
      rintro _ _ ⟨rfl, rfl⟩
      refine jA (ji (v := .bool false) (cB (cN (dT h_4))) rfl) <| jE <| jB <| jR (cB rfl) <| jT <| jB <| jC <| jC <| jF <| jA (jQ fo31_0 rfl) ?_
      refine jK (jZ 0 (v := .slice d.a d.l.length d.c) rfl rfl ks rfl) <| jA (jr km rfl) <| jA (jD (v := iv 0) rfl) <| jE <| jB <| jf <| kD (fun k_ e_ L_ => ∃ j : Nat, (j ≤ d.l.length) ∧ (∀ i, i < j → slotG (d.l.getD i o0).t = true) ∧ e_ 1 = .pointer (some ⟨b_3, 0, none⟩) ∧ e_ 26 = .slice d.a d.l.length d.c ∧ e_ 27 = nv d.l.length ∧ e_ 28 = nv j ∧ L_ = [bk b_3 31 [.slice d.a d.l.length d.c, str d.jt, iv d.js]] ∧ k_ = d.l.length - j) _ ⟨0, by omega, (fun i hi => absurd hi (Nat.not_lt_zero i)), rfl, rfl, rfl, rfl, rfl, rfl⟩ ?_
      rintro _ e_9 _ ⟨j, hj, hN, he_10, he_11, he_12, he_13, rfl, rfl⟩
      refine jC <| jF <| jA (jl he_13 he_12) <| jE <| jB <| jC ?_
      by_cases h_14 : ((j : Nat) : Int) < ((d.l.length : Nat) : Int)
      · have hlt : j < d.l.length := by omega
        refine jW (cB (dT h_14)) <| jT <| jB <| jC <| jf <| jC <| jF <| jA (jk (i := j) km kj hr_5 hr_5b he_11 he_13 (by omega)) ?_
        have hi_15 := SeesA.elem hi_2 o0 (show j < d.l.length by omega)
        have hs_16 := seesO hi_15
        refine jK (kX (vs := [iv ((d.l.getD j o0).t.seq), .slice ((d.l.getD j o0).x.a0) ((d.l.getD j o0).t.cells.length) ((d.l.getD j o0).x.c0), .bool ((d.l.getD j o0).t.whole)]) hs_1 nM rfl gB kj (flat_take encO_len o0 d.l j (by omega)) rfl (by decide)) ?_
        refine jH rfl (jo (z := .agg #[iv 0, .slice none 0 0, .bool false]) (cs := [iv 0, .slice none 0 0, .bool false]) gD rfl) ?_
        rintro _ _ ⟨b_17, rfl, rfl⟩
        refine jH rfl (ja 0 (vs := [iv ((d.l.getD j o0).t.seq), .slice ((d.l.getD j o0).x.a0) ((d.l.getD j o0).t.cells.length) ((d.l.getD j o0).x.c0), .bool ((d.l.getD j o0).t.whole)]) (cs' := [iv ((d.l.getD j o0).t.seq), .slice ((d.l.getD j o0).x.a0) ((d.l.getD j o0).t.cells.length) ((d.l.getD j o0).x.c0), .bool ((d.l.getD j o0).t.whole)]) rfl rfl rfl rfl kj rfl rfl (lb rfl) rfl) ?_
        rintro _ _ rfl
        refine jE <| jB <| jC <| jF <| jA (jQ fo60_2 rfl) <| jK (jZ 0 (v := .bool ((d.l.getD j o0).t.whole)) rfl rfl gI rfl) <| jA (jD (v := .bool ((d.l.getD j o0).t.whole)) rfl) ?_
        rcases Bool.eq_false_or_eq_true ((d.l.getD j o0).t.whole) with h_18 | h_18
        · refine jM rfl rfl rfl (cB h_18) (jP (jU (jQ fo60_0 rfl))) ?_
          rintro _ _ ⟨rfl, rfl⟩
          refine jM rfl rfl rfl (cB h_18) (jP (jZ 0 (v := iv ((d.l.getD j o0).t.seq)) rfl rfl kq rfl)) ?_
          rintro _ _ ⟨rfl, rfl⟩
          refine jM rfl rfl rfl (cB h_18) (jI [] Tryz.call76 rfl (Y_within ((d.l.getD j o0).t.seq) 0 99999) rfl (fun _ _ => trivial)) ?_
          rintro _ _ ⟨_, ⟨rfl, rfl⟩, rfl⟩
          refine jM rfl rfl rfl (cB h_18) (jP (jU (jp rfl))) ?_
          rintro _ _ ⟨rfl, rfl⟩
          refine jM rfl rfl rfl (cB h_18) (jP (jU (jD (v := .bool (!(within 0 ((d.l.getD j o0).t.seq) 99999))) rfl))) ?_
          rintro _ _ ⟨rfl, rfl⟩
          rcases Bool.eq_false_or_eq_true (within 0 ((d.l.getD j o0).t.seq) 99999) with h_19 | h_19
          · refine jM rfl rfl rfl (cB (cN h_19)) (jP (jU (jQ fo60_1 rfl))) ?_
            rintro _ _ ⟨rfl, rfl⟩
            refine jM rfl rfl rfl (cB (cN h_19)) (jP (jZ 0 (v := .slice ((d.l.getD j o0).x.a0) ((d.l.getD j o0).t.cells.length) ((d.l.getD j o0).x.c0)) rfl rfl kz rfl)) ?_
            rintro _ _ ⟨rfl, rfl⟩
            refine jM rfl rfl rfl (cB (cN h_19)) (jI [] Tryz.call85 rfl (Y_implStoreOk (d.l.getD j o0).x.a0 ((d.l.getD j o0).x.c0) ((d.l.getD j o0).t.cells) (DX.okz_get hz j (by omega)).k0) rfl (fun w hw => hw.seeOut_ hs_16 nM)) ?_
            rintro _ _ ⟨_, ⟨rfl, rfl⟩, rfl⟩
            refine jM rfl rfl rfl (cB (cN h_19)) (jP (jU (jp rfl))) ?_
            rintro _ _ ⟨rfl, rfl⟩
            refine jM rfl rfl rfl (cB h_18) (jP (jU (ji (v := .bool (!(storeOk ((d.l.getD j o0).t.cells)))) (cB (cN h_19)) rfl))) ?_
            rintro _ _ ⟨rfl, rfl⟩
            refine jA (jh (v := .bool (!(storeOk ((d.l.getD j o0).t.cells)))) (cB h_18) rfl) <| jE <| jB ?_
            rcases Bool.eq_false_or_eq_true (storeOk ((d.l.getD j o0).t.cells)) with h_20 | h_20
            · refine jR (cB (cN h_20)) <| jT <| jm <| jB <| jF <| jA (jc (c := ((j + 1 : Nat) : Int)) he_13 rfl (wr (by omega))) <| jA (jD (v := iv ((j + 1 : Nat) : Int)) rfl) <| jE <| kB [1] (A := [bk b_3 31 [.slice d.a d.l.length d.c, str d.jt, iv d.js]]) rfl ?_
              refine jq (d.l.length - (j + 1)) (by omega) ⟨j + 1, by omega, (fun i hi => if h : i = j then h ▸ (by simp only [slotG, Bool.and_true, Bool.true_and, Bool.and_false, Bool.false_and, Bool.or_true, Bool.true_or, Bool.or_false, Bool.false_or, Bool.not_true, Bool.not_false, ((dT h_4)), (h_8), ((dT h_14)), (h_18), (h_19), (h_20)]) else hN i (by omega)), he_10, he_11, he_12, rfl, rfl, rfl⟩
            refine jW (cB (cN h_20)) <| jC <| jF <| jA (jG (v := .bool false) rfl) <| jE <| jB <| jN <| jv <| jX <| jX ?_
            refine jv <| jX <| jV (.inl rfl) rfl (jJ (v := .bool false) rfl) (List.nil_sublist _) ?_
            refine ⟨cB ?_, rfl⟩
            rw [diskOk_dat]
            exact (diskOkF_slot (f := (fun i => (d.l.getD i o0).t)) hlt (by simp only [slotG, Bool.and_true, Bool.true_and, Bool.and_false, Bool.false_and, Bool.or_true, Bool.true_or, Bool.or_false, Bool.false_or, Bool.not_true, Bool.not_false, ((dT h_4)), (h_8), ((dT h_14)), (h_18), (h_19), (h_20)])).symm
          refine jS (b := true) rfl rfl rfl (cB (cN h_19)) <| jS (b := true) rfl rfl rfl (cB (cN h_19)) <| jS (b := true) rfl rfl rfl (cB (cN h_19)) <| jS (b := true) rfl rfl rfl (cB (cN h_19)) <| jM rfl rfl rfl (cB h_18) (jP (jU (jh (v := .bool true) (cB (cN h_19)) rfl))) ?_
          rintro _ _ ⟨rfl, rfl⟩
          refine jA (jh (v := .bool true) (cB h_18) rfl) <| jE <| jB <| jW (cB rfl) <| jC <| jF <| jA (jG (v := .bool false) rfl) <| jE <| jB <| jN ?_
          refine jv <| jX <| jX <| jv <| jX <| jV (.inl rfl) rfl (jJ (v := .bool false) rfl) (List.nil_sublist _) ?_
          refine ⟨cB ?_, rfl⟩
          rw [diskOk_dat]
          exact (diskOkF_slot (f := (fun i => (d.l.getD i o0).t)) hlt (by simp only [slotG, Bool.and_true, Bool.true_and, Bool.and_false, Bool.false_and, Bool.or_true, Bool.true_or, Bool.or_false, Bool.false_or, Bool.not_true, Bool.not_false, ((dT h_4)), (h_8), ((dT h_14)), (h_18), (h_19)])).symm
        refine jS (b := false) rfl rfl rfl (cB h_18) <| jS (b := false) rfl rfl rfl (cB h_18) <| jS (b := false) rfl rfl rfl (cB h_18) <| jS (b := false) rfl rfl rfl (cB h_18) <| jS (b := false) rfl rfl rfl (cB h_18) <| kP rfl rfl rfl rfl <| kP rfl rfl rfl rfl <| kP rfl rfl rfl rfl <| kP rfl rfl rfl rfl <| jS (b := false) rfl rfl rfl (cB h_18) ?_
        refine jA (ji (v := .bool false) (cB h_18) rfl) <| jE <| jB <| jR (cB rfl) <| jT <| jm <| jB <| jF <| jA (jc (c := ((j + 1 : Nat) : Int)) he_13 rfl (wr (by omega))) <| jA (jD (v := iv ((j + 1 : Nat) : Int)) rfl) ?_
        refine jE <| kB [1] (A := [bk b_3 31 [.slice d.a d.l.length d.c, str d.jt, iv d.js]]) rfl ?_
        refine jq (d.l.length - (j + 1)) (by omega) ⟨j + 1, by omega, (fun i hi => if h : i = j then h ▸ (by simp only [slotG, Bool.and_true, Bool.true_and, Bool.and_false, Bool.false_and, Bool.or_true, Bool.true_or, Bool.or_false, Bool.false_or, Bool.not_true, Bool.not_false, ((dT h_4)), (h_8), ((dT h_14)), (h_18)]) else hN i (by omega)), he_10, he_11, he_12, rfl, rfl, rfl⟩
      refine jR (cB (dF h_14)) <| jx <| jb <| jb <| jy <| jB <| jC <| jF <| jA (jQ fo31_1 he_10) <| jK (jO 0 (vs := [str d.jt, iv d.js]) rfl rfl kp kl rfl rfl) ?_
      refine jH rfl (jI [] Tryz.call75 rfl (Y_implJournalOk d.jt d.js hjl) rfl (fun _ _ => trivial)) ?_
      rintro _ _ ⟨_, ⟨rfl, rfl⟩, rfl⟩
      refine jA (jG (v := .bool (jourOk d.jt d.js)) rfl) <| jE <| jB <| jN <| jV (.inl rfl) rfl (jJ (v := .bool (jourOk d.jt d.js)) rfl) (List.nil_sublist _) ?_
      refine ⟨cB ?_, rfl⟩
      rw [diskOk_dat]
      first | (refine (diskOkF_end (f := (fun i => (d.l.getD i o0).t)) (i := 0) (by omega) (by omega) ?_ (by omega) hN).symm; assumption) | (refine (diskOkF_end (f := (fun i => (d.l.getD i o0).t)) (i := 1) (by omega) (by omega) ?_ (by omega) hN).symm; assumption)
    refine jM rfl rfl rfl (cB (cN h_8)) (jP (jU (jQ fo31_0 rfl))) ?_
    rintro _ _ ⟨rfl, rfl⟩
    refine jM rfl rfl rfl (cB (cN h_8)) (jP (jZ 0 (v := .slice d.a d.l.length d.c) rfl rfl ks rfl)) ?_
    rintro _ _ ⟨rfl, rfl⟩
    refine jM rfl rfl rfl (cB (cN h_8)) (jP (jU (jk (i := 1) km kj hr_5 hr_5b rfl rfl (by omega)))) ?_
    rintro _ _ ⟨rfl, rfl⟩
    refine jM rfl rfl rfl (cB (cN h_8)) (jP (jU (kL fo60_2 hr_5 rfl))) ?_
    rintro _ _ ⟨rfl, rfl⟩
    have hi_21 := SeesA.elem hi_2 o0 (show 1 < d.l.length by omega)
    have hs_22 := seesO hi_21
    refine jM rfl rfl rfl (cB (cN h_8)) (jP (kY (v := .bool ((d.l.getD 1 o0).t.whole)) hs_1 nM rfl gI (flat_at encO_len o0 d.l 1 2 (by omega) (by decide)))) ?_
    rintro _ _ ⟨rfl, rfl⟩
    refine jM rfl rfl rfl (cB (cN h_8)) (jP (jU (jp rfl))) ?_
    rintro _ _ ⟨rfl, rfl⟩
    refine jM rfl rfl rfl (cB (cN (dT h_4))) (jP (jU (jh (v := .bool (!((d.l.getD 1 o0).t.whole))) (cB (cN h_8)) rfl))) ?_
    rintro _ _ ⟨rfl, rfl⟩
    refine jA (ji (v := .bool (!((d.l.getD 1 o0).t.whole))) (cB (cN (dT h_4))) rfl) <| jE <| jB ?_
    rcases Bool.eq_false_or_eq_true ((d.l.getD 1 o0).t.whole) with h_23 | h_23
    · refine jR (cB (cN h_23)) <| jT <| jB <| jC <| jC <| jF <| jA (jQ fo31_0 rfl) <| jK (jZ 0 (v := .slice d.a d.l.length d.c) rfl rfl ks rfl) <| jA (jr km rfl) <| jA (jD (v := iv 0) rfl) ?_
      refine jE <| jB <| jf <| kD (fun k_ e_ L_ => ∃ j : Nat, (j ≤ d.l.length) ∧ (∀ i, i < j → slotG (d.l.getD i o0).t = true) ∧ e_ 1 = .pointer (some ⟨b_3, 0, none⟩) ∧ e_ 26 = .slice d.a d.l.length d.c ∧ e_ 27 = nv d.l.length ∧ e_ 28 = nv j ∧ L_ = [bk b_3 31 [.slice d.a d.l.length d.c, str d.jt, iv d.js]] ∧ k_ = d.l.length - j) _ ⟨0, by omega, (fun i hi => absurd hi (Nat.not_lt_zero i)), rfl, rfl, rfl, rfl, rfl, rfl⟩ ?_
      rintro _ e_24 _ ⟨j, hj, hN, he_25, he_26, he_27, he_28, rfl, rfl⟩
      refine jC <| jF <| jA (jl he_28 he_27) <| jE <| jB <| jC ?_
      by_cases h_29 : ((j : Nat) : Int) < ((d.l.length : Nat) : Int)
      · have hlt : j < d.l.length := by omega
        refine jW (cB (dT h_29)) <| jT <| jB <| jC <| jf <| jC <| jF <| jA (jk (i := j) km kj hr_5 hr_5b he_26 he_28 (by omega)) ?_
        have hi_30 := SeesA.elem hi_2 o0 (show j < d.l.length by omega)
        have hs_31 := seesO hi_30
        refine jK (kX (vs := [iv ((d.l.getD j o0).t.seq), .slice ((d.l.getD j o0).x.a0) ((d.l.getD j o0).t.cells.length) ((d.l.getD j o0).x.c0), .bool ((d.l.getD j o0).t.whole)]) hs_1 nM rfl gB kj (flat_take encO_len o0 d.l j (by omega)) rfl (by decide)) ?_
        refine jH rfl (jo (z := .agg #[iv 0, .slice none 0 0, .bool false]) (cs := [iv 0, .slice none 0 0, .bool false]) gD rfl) ?_
        rintro _ _ ⟨b_32, rfl, rfl⟩
        refine jH rfl (ja 0 (vs := [iv ((d.l.getD j o0).t.seq), .slice ((d.l.getD j o0).x.a0) ((d.l.getD j o0).t.cells.length) ((d.l.getD j o0).x.c0), .bool ((d.l.getD j o0).t.whole)]) (cs' := [iv ((d.l.getD j o0).t.seq), .slice ((d.l.getD j o0).x.a0) ((d.l.getD j o0).t.cells.length) ((d.l.getD j o0).x.c0), .bool ((d.l.getD j o0).t.whole)]) rfl rfl rfl rfl kj rfl rfl (lb rfl) rfl) ?_
        rintro _ _ rfl
        refine jE <| jB <| jC <| jF <| jA (jQ fo60_2 rfl) <| jK (jZ 0 (v := .bool ((d.l.getD j o0).t.whole)) rfl rfl gI rfl) <| jA (jD (v := .bool ((d.l.getD j o0).t.whole)) rfl) ?_
        rcases Bool.eq_false_or_eq_true ((d.l.getD j o0).t.whole) with h_33 | h_33
        · refine jM rfl rfl rfl (cB h_33) (jP (jU (jQ fo60_0 rfl))) ?_
          rintro _ _ ⟨rfl, rfl⟩
          refine jM rfl rfl rfl (cB h_33) (jP (jZ 0 (v := iv ((d.l.getD j o0).t.seq)) rfl rfl kq rfl)) ?_
          rintro _ _ ⟨rfl, rfl⟩
          refine jM rfl rfl rfl (cB h_33) (jI [] Tryz.call76 rfl (Y_within ((d.l.getD j o0).t.seq) 0 99999) rfl (fun _ _ => trivial)) ?_
          rintro _ _ ⟨_, ⟨rfl, rfl⟩, rfl⟩
          refine jM rfl rfl rfl (cB h_33) (jP (jU (jp rfl))) ?_
          rintro _ _ ⟨rfl, rfl⟩
          refine jM rfl rfl rfl (cB h_33) (jP (jU (jD (v := .bool (!(within 0 ((d.l.getD j o0).t.seq) 99999))) rfl))) ?_
          rintro _ _ ⟨rfl, rfl⟩
          rcases Bool.eq_false_or_eq_true (within 0 ((d.l.getD j o0).t.seq) 99999) with h_34 | h_34
          · refine jM rfl rfl rfl (cB (cN h_34)) (jP (jU (jQ fo60_1 rfl))) ?_
            rintro _ _ ⟨rfl, rfl⟩
            refine jM rfl rfl rfl (cB (cN h_34)) (jP (jZ 0 (v := .slice ((d.l.getD j o0).x.a0) ((d.l.getD j o0).t.cells.length) ((d.l.getD j o0).x.c0)) rfl rfl kz rfl)) ?_
            rintro _ _ ⟨rfl, rfl⟩
            refine jM rfl rfl rfl (cB (cN h_34)) (jI [] Tryz.call85 rfl (Y_implStoreOk (d.l.getD j o0).x.a0 ((d.l.getD j o0).x.c0) ((d.l.getD j o0).t.cells) (DX.okz_get hz j (by omega)).k0) rfl (fun w hw => hw.seeOut_ hs_31 nM)) ?_
            rintro _ _ ⟨_, ⟨rfl, rfl⟩, rfl⟩
            refine jM rfl rfl rfl (cB (cN h_34)) (jP (jU (jp rfl))) ?_
            rintro _ _ ⟨rfl, rfl⟩
            refine jM rfl rfl rfl (cB h_33) (jP (jU (ji (v := .bool (!(storeOk ((d.l.getD j o0).t.cells)))) (cB (cN h_34)) rfl))) ?_
            rintro _ _ ⟨rfl, rfl⟩
            refine jA (jh (v := .bool (!(storeOk ((d.l.getD j o0).t.cells)))) (cB h_33) rfl) <| jE <| jB ?_
            rcases Bool.eq_false_or_eq_true (storeOk ((d.l.getD j o0).t.cells)) with h_35 | h_35
            · refine jR (cB (cN h_35)) <| jT <| jm <| jB <| jF <| jA (jc (c := ((j + 1 : Nat) : Int)) he_28 rfl (wr (by omega))) <| jA (jD (v := iv ((j + 1 : Nat) : Int)) rfl) <| jE <| kB [1] (A := [bk b_3 31 [.slice d.a d.l.length d.c, str d.jt, iv d.js]]) rfl ?_
              refine jq (d.l.length - (j + 1)) (by omega) ⟨j + 1, by omega, (fun i hi => if h : i = j then h ▸ (by simp only [slotG, Bool.and_true, Bool.true_and, Bool.and_false, Bool.false_and, Bool.or_true, Bool.true_or, Bool.or_false, Bool.false_or, Bool.not_true, Bool.not_false, ((dT h_4)), (h_8), (h_23), ((dT h_29)), (h_33), (h_34), (h_35)]) else hN i (by omega)), he_25, he_26, he_27, rfl, rfl, rfl⟩
            refine jW (cB (cN h_35)) <| jC <| jF <| jA (jG (v := .bool false) rfl) <| jE <| jB <| jN <| jv <| jX <| jX ?_
            refine jv <| jX <| jV (.inl rfl) rfl (jJ (v := .bool false) rfl) (List.nil_sublist _) ?_
            refine ⟨cB ?_, rfl⟩
            rw [diskOk_dat]
            exact (diskOkF_slot (f := (fun i => (d.l.getD i o0).t)) hlt (by simp only [slotG, Bool.and_true, Bool.true_and, Bool.and_false, Bool.false_and, Bool.or_true, Bool.true_or, Bool.or_false, Bool.false_or, Bool.not_true, Bool.not_false, ((dT h_4)), (h_8), (h_23), ((dT h_29)), (h_33), (h_34), (h_35)])).symm
          refine jS (b := true) rfl rfl rfl (cB (cN h_34)) <| jS (b := true) rfl rfl rfl (cB (cN h_34)) <| jS (b := true) rfl rfl rfl (cB (cN h_34)) <| jS (b := true) rfl rfl rfl (cB (cN h_34)) <| jM rfl rfl rfl (cB h_33) (jP (jU (jh (v := .bool true) (cB (cN h_34)) rfl))) ?_
          rintro _ _ ⟨rfl, rfl⟩
          refine jA (jh (v := .bool true) (cB h_33) rfl) <| jE <| jB <| jW (cB rfl) <| jC <| jF <| jA (jG (v := .bool false) rfl) <| jE <| jB <| jN ?_
          refine jv <| jX <| jX <| jv <| jX <| jV (.inl rfl) rfl (jJ (v := .bool false) rfl) (List.nil_sublist _) ?_
          refine ⟨cB ?_, rfl⟩
          rw [diskOk_dat]
          exact (diskOkF_slot (f := (fun i => (d.l.getD i o0).t)) hlt (by simp only [slotG, Bool.and_true, Bool.true_and, Bool.and_false, Bool.false_and, Bool.or_true, Bool.true_or, Bool.or_false, Bool.false_or, Bool.not_true, Bool.not_false, ((dT h_4)), (h_8), (h_23), ((dT h_29)), (h_33), (h_34)])).symm
        refine jS (b := false) rfl rfl rfl (cB h_33) <| jS (b := false) rfl rfl rfl (cB h_33) <| jS (b := false) rfl rfl rfl (cB h_33) <| jS (b := false) rfl rfl rfl (cB h_33) <| jS (b := false) rfl rfl rfl (cB h_33) <| kP rfl rfl rfl rfl <| kP rfl rfl rfl rfl <| kP rfl rfl rfl rfl <| kP rfl rfl rfl rfl <| jS (b := false) rfl rfl rfl (cB h_33) ?_
        refine jA (ji (v := .bool false) (cB h_33) rfl) <| jE <| jB <| jR (cB rfl) <| jT <| jm <| jB <| jF <| jA (jc (c := ((j + 1 : Nat) : Int)) he_28 rfl (wr (by omega))) <| jA (jD (v := iv ((j + 1 : Nat) : Int)) rfl) ?_
        refine jE <| kB [1] (A := [bk b_3 31 [.slice d.a d.l.length d.c, str d.jt, iv d.js]]) rfl ?_
        refine jq (d.l.length - (j + 1)) (by omega) ⟨j + 1, by omega, (fun i hi => if h : i = j then h ▸ (by simp only [slotG, Bool.and_true, Bool.true_and, Bool.and_false, Bool.false_and, Bool.or_true, Bool.true_or, Bool.or_false, Bool.false_or, Bool.not_true, Bool.not_false, ((dT h_4)), (h_8), (h_23), ((dT h_29)), (h_33)]) else hN i (by omega)), he_25, he_26, he_27, rfl, rfl, rfl⟩
      refine jR (cB (dF h_29)) <| jx <| jb <| jb <| jy <| jB <| jC <| jF <| jA (jQ fo31_1 he_25) <| jK (jO 0 (vs := [str d.jt, iv d.js]) rfl rfl kp kl rfl rfl) ?_
      refine jH rfl (jI [] Tryz.call75 rfl (Y_implJournalOk d.jt d.js hjl) rfl (fun _ _ => trivial)) ?_
      rintro _ _ ⟨_, ⟨rfl, rfl⟩, rfl⟩
      refine jA (jG (v := .bool (jourOk d.jt d.js)) rfl) <| jE <| jB <| jN <| jV (.inl rfl) rfl (jJ (v := .bool (jourOk d.jt d.js)) rfl) (List.nil_sublist _) ?_
      refine ⟨cB ?_, rfl⟩
      rw [diskOk_dat]
      first | (refine (diskOkF_end (f := (fun i => (d.l.getD i o0).t)) (i := 0) (by omega) (by omega) ?_ (by omega) hN).symm; assumption) | (refine (diskOkF_end (f := (fun i => (d.l.getD i o0).t)) (i := 1) (by omega) (by omega) ?_ (by omega) hN).symm; assumption)
    refine jW (cB (cN h_23)) <| jC <| jF <| jA (jG (v := .bool false) rfl) <| jE <| jB <| jN <| jX <| jV (.inl rfl) rfl (jJ (v := .bool false) rfl) (List.nil_sublist _) ?_
    refine ⟨cB ?_, rfl⟩
    rw [diskOk_dat]
    first | exact (diskOkF_len (by omega)).symm | (refine (diskOkF_none (f := (fun i => (d.l.getD i o0).t)) (by omega) ?_ ?_).symm <;> assumption)
  refine jS (b := true) rfl rfl rfl (cB (cN (dF h_4))) <| jS (b := true) rfl rfl rfl (cB (cN (dF h_4))) <| jS (b := true) rfl rfl rfl (cB (cN (dF h_4))) <| jS (b := true) rfl rfl rfl (cB (cN (dF h_4))) <| jS (b := true) rfl rfl rfl (cB (cN (dF h_4))) <| jS (b := true) rfl rfl rfl (cB (cN (dF h_4))) <| jS (b := true) rfl rfl rfl (cB (cN (dF h_4))) <| kP rfl rfl rfl rfl <| kP rfl rfl rfl rfl <| kP rfl rfl rfl rfl ?_
  refine kP rfl rfl rfl rfl <| kP rfl rfl rfl rfl <| kP rfl rfl rfl rfl <| jS (b := true) rfl rfl rfl (cB (cN (dF h_4))) <| jA (jh (v := .bool true) (cB (cN (dF h_4))) rfl) <| jE <| jB <| jW (cB rfl) <| jC <| jF ?_
  refine jA (jG (v := .bool false) rfl) <| jE <| jB <| jN <| jX <| jV (.inl rfl) rfl (jJ (v := .bool false) rfl) (List.nil_sublist _) ?_
  refine ⟨cB ?_, rfl⟩
  rw [diskOk_dat]
  first | exact (diskOkF_len (by omega)).symm | (refine (diskOkF_none (f := (fun i => (d.l.getD i o0).t)) (by omega) ?_ ?_).symm <;> assumption)

theorem Y_specJournalOk (t : Str) (js : Int) (hl : t.length ≤ 9223372036854775807) :
    Ct Tryz.prog 95 [.agg #[str t, .int .i64 js]] [] (fun _ => True) (fun v A' => v = .bool (jourOk t js) ∧ A' = []) := by
  refine Ct.intro Tryz.func95 rfl Tryz.ntmps95 (lb rfl) fun w0 hpre => ?_
  refine jC <| jF ?_
  refine jH rfl (kG (cs := [str t, iv js]) rfl rfl) ?_
  rintro _ _ ⟨b_1, rfl, rfl⟩
  refine jA (jG (v := .bool false) rfl) <| jE <| jB <| jC <| jF <| jA (jQ fo29_0 rfl) <| jK (jZ 0 (v := str t) rfl rfl ki rfl) <| jA (kF kg rfl) <| jA (PO.leq rfl rfl) <| jA (jD (v := .bool (decide ((t.length : Int) ≤ 20000))) rfl) ?_
  by_cases h_2 : (t.length : Int) ≤ 20000
  · refine jM rfl rfl rfl (cB (dT h_2)) (jP (jU (jQ fo29_1 rfl))) ?_
    rintro _ _ ⟨rfl, rfl⟩
    refine jM rfl rfl rfl (cB (dT h_2)) (jP (jZ 0 (v := iv js) rfl rfl kq rfl)) ?_
    rintro _ _ ⟨rfl, rfl⟩
    refine jM rfl rfl rfl (cB (dT h_2)) (jP (jU (jQ fo29_0 rfl))) ?_
    rintro _ _ ⟨rfl, rfl⟩
    refine jM rfl rfl rfl (cB (dT h_2)) (jP (jZ 0 (v := str t) rfl rfl ki rfl)) ?_
    rintro _ _ ⟨rfl, rfl⟩
    refine jM rfl rfl rfl (cB (dT h_2)) (jP (jU (kF kg rfl))) ?_
    rintro _ _ ⟨rfl, rfl⟩
    refine jM rfl rfl rfl (cB (dT h_2)) (jI [] Tryz.call89 rfl (Y_l01In js 0 (t.length : Int)) rfl (fun _ _ => trivial)) ?_
    rintro _ _ ⟨_, ⟨rfl, rfl⟩, rfl⟩
    refine jA (jh (v := .bool (within 0 js (t.length : Int))) (cB (dT h_2)) rfl) <| jA (jG (v := .bool (within 0 js (t.length : Int))) rfl) <| jE <| jB <| jN <| jV (.inl rfl) rfl (jJ (v := .bool (within 0 js (t.length : Int))) rfl) (List.nil_sublist _) ?_
    exact ⟨cB (by simp only [jourOk, Bool.and_true, Bool.true_and, Bool.and_false, Bool.false_and, Bool.or_true, Bool.true_or, Bool.or_false, Bool.false_or, Bool.not_true, Bool.not_false, ((dT h_2))]), rfl⟩
  refine jS (b := false) rfl rfl rfl (cB (dF h_2)) <| jS (b := false) rfl rfl rfl (cB (dF h_2)) <| jS (b := false) rfl rfl rfl (cB (dF h_2)) <| jS (b := false) rfl rfl rfl (cB (dF h_2)) <| jS (b := false) rfl rfl rfl (cB (dF h_2)) <| jS (b := false) rfl rfl rfl (cB (dF h_2)) <| jA (ji (v := .bool false) (cB (dF h_2)) rfl) <| jA (jG (v := .bool false) rfl) <| jE <| jB ?_
  refine jN <| jV (.inl rfl) rfl (jJ (v := .bool false) rfl) (List.nil_sublist _) ?_
  exact ⟨cB (by simp only [jourOk, Bool.and_true, Bool.true_and, Bool.and_false, Bool.false_and, Bool.or_true, Bool.true_or, Bool.or_false, Bool.false_or, Bool.not_true, Bool.not_false, ((dF h_2))]), rfl⟩

set_option maxRecDepth 4000 in
set_option maxHeartbeats 1000000 in
theorem Y_sBest (d : DX) (hz : d.dat.okz) (hl : d.l.length ≤ 1000000000) :
    Ct Tryz.prog 49 [.agg #[.slice d.a d.l.length d.c, str d.jt, .int .i64 d.js]] [] (fun w => SeesA w (rdsD d)) (fun v A' => v = .int .i64 (bestD d.dat) ∧ A' = []) := by
  refine Ct.intro Tryz.func49 rfl Tryz.ntmps49 (lb rfl) fun w0 hpre => ?_
  have hs_1 : Sees w0 (.slice d.a d.l.length d.c) 3 d.l.length (d.l.flatMap encO) := (hpre).head
  have hi_2 : SeesA w0 (d.l.flatMap rdsO) := (hpre).tail
  refine jC <| jF ?_
  refine jH rfl (kG (cs := [.slice d.a d.l.length d.c, str d.jt, iv d.js]) rfl rfl) ?_
  rintro _ _ ⟨b_3, rfl, rfl⟩
  refine jA (jG (v := iv 0) rfl) <| jE <| jB <| jC <| jF <| jA (jG (v := iv (-1)) rfl) <| jE <| jB <| jC <| jC ?_
  refine jF <| jA (jG (v := iv 0) rfl) <| jE <| jB <| jf <| kD (fun k_ e_ L_ => ∃ j : Nat, (j ≤ d.l.length) ∧ e_ 1 = .pointer (some ⟨b_3, 0, none⟩) ∧ e_ 2 = iv 0 ∧ e_ 3 = iv (bestF (fun i => (d.l.getD i o0).t) j) ∧ e_ 4 = nv j ∧ L_ = [bk b_3 31 [.slice d.a d.l.length d.c, str d.jt, iv d.js]] ∧ k_ = d.l.length - j) _ ⟨0, by omega, rfl, rfl, rfl, rfl, rfl, rfl⟩ ?_
  rintro _ e_4 _ ⟨j, hj, he_5, he_6, he_7, he_8, rfl, rfl⟩
  refine jC <| jC <| jF <| jA (jD (v := nv j) he_8) <| jA (jQ fo31_0 he_5) <| jK (jZ 0 (v := .slice d.a d.l.length d.c) rfl rfl ks rfl) <| jA (jr km rfl) <| jA (jl rfl rfl) <| jE <| jB ?_
  by_cases h_9 : ((j : Nat) : Int) < ((d.l.length : Nat) : Int)
  · have hlt : j < d.l.length := by omega
    refine jW (cB (dT h_9)) <| jT <| jB <| jC <| jf <| jC <| kJ [bk b_3 31 [.slice d.a d.l.length d.c, str d.jt, iv d.js]] 1000 mixed (by simp) <| jL 0 rfl (jQ fo31_0 he_5) <| jw 1 rfl (jZ 0 (v := .slice d.a d.l.length d.c) rfl rfl ks rfl) <| jL 2 rfl (jD (v := nv j) he_8) ?_
    obtain ⟨hr_10, hr_10b, -⟩ := sees_some hs_1 (by omega)
    refine jL 3 rfl (jk (i := j) km kj hr_10 hr_10b rfl rfl (by omega)) <| jL 4 rfl (kL fo60_2 hr_10 rfl) ?_
    have hi_11 := SeesA.elem hi_2 o0 (show j < d.l.length by omega)
    have hs_12 := seesO hi_11
    refine jw 5 rfl (kY (v := .bool ((d.l.getD j o0).t.whole)) hs_1 nM rfl gI (flat_at encO_len o0 d.l j 2 (by omega) (by decide))) <| jL 6 rfl (jD (v := .bool ((d.l.getD j o0).t.whole)) rfl) ?_
    rcases Bool.eq_false_or_eq_true ((d.l.getD j o0).t.whole) with h_13 | h_13
    · refine jg 7 rfl (by kernel_rfl) (NP.th (NP.bl (NP.th (NP.th (NP.bl (NP.th NP.body)))))) (by kernel_rfl) (by kernel_rfl) rfl rfl rfl (cB h_13) (jD (v := iv (bestF (fun i => (d.l.getD i o0).t) j)) he_7) <| jg 8 rfl (by kernel_rfl) (NP.th (NP.bl (NP.th (NP.th (NP.bl (NP.th NP.body)))))) (by kernel_rfl) (by kernel_rfl) rfl rfl rfl (cB h_13) (jl rfl rfl) <| jg 9 rfl (by kernel_rfl) (NP.th (NP.bl (NP.th (NP.th (NP.bl (NP.th NP.body)))))) (by kernel_rfl) (by kernel_rfl) rfl rfl rfl (cB h_13) (jD (v := .bool (decide ((bestF (fun i => (d.l.getD i o0).t) j) < 0))) rfl) ?_
      by_cases h_14 : (bestF (fun i => (d.l.getD i o0).t) j) < 0
      · refine jd 10 (b := true) rfl (by kernel_rfl) (NP.th (NP.bl (NP.th (NP.th (NP.bl (NP.th NP.body)))))) (by kernel_rfl) (by kernel_rfl) rfl rfl rfl (cB (dT h_14)) <| jd 11 (b := true) rfl (by kernel_rfl) (NP.th (NP.bl (NP.th (NP.th (NP.bl (NP.th NP.body)))))) (by kernel_rfl) (by kernel_rfl) rfl rfl rfl (cB (dT h_14)) <| jd 12 (b := true) rfl (by kernel_rfl) (NP.th (NP.bl (NP.th (NP.th (NP.bl (NP.th NP.body)))))) (by kernel_rfl) (by kernel_rfl) rfl rfl rfl (cB (dT h_14)) <| jd 13 (b := true) rfl (by kernel_rfl) (NP.th (NP.bl (NP.th (NP.th (NP.bl (NP.th NP.body)))))) (by kernel_rfl) (by kernel_rfl) rfl rfl rfl (cB (dT h_14)) <| jd 14 (b := true) rfl (by kernel_rfl) (NP.th (NP.bl (NP.th (NP.th (NP.bl (NP.th NP.body)))))) (by kernel_rfl) (by kernel_rfl) rfl rfl rfl (cB (dT h_14)) <| jd 15 (b := true) rfl (by kernel_rfl) (NP.th (NP.bl (NP.th (NP.th (NP.bl (NP.th NP.body)))))) (by kernel_rfl) (by kernel_rfl) rfl rfl rfl (cB (dT h_14)) <| jd 16 (b := true) rfl (by kernel_rfl) (NP.th (NP.bl (NP.th (NP.th (NP.bl (NP.th NP.body)))))) (by kernel_rfl) (by kernel_rfl) rfl rfl rfl (cB (dT h_14)) <| jd 17 (b := true) rfl (by kernel_rfl) (NP.th (NP.bl (NP.th (NP.th (NP.bl (NP.th NP.body)))))) (by kernel_rfl) (by kernel_rfl) rfl rfl rfl (cB (dT h_14)) <| jd 18 (b := true) rfl (by kernel_rfl) (NP.th (NP.bl (NP.th (NP.th (NP.bl (NP.th NP.body)))))) (by kernel_rfl) (by kernel_rfl) rfl rfl rfl (cB (dT h_14)) <| jd 19 (b := true) rfl (by kernel_rfl) (NP.th (NP.bl (NP.th (NP.th (NP.bl (NP.th NP.body)))))) (by kernel_rfl) (by kernel_rfl) rfl rfl rfl (cB (dT h_14)) ?_
        refine jd 20 (b := true) rfl (by kernel_rfl) (NP.th (NP.bl (NP.th (NP.th (NP.bl (NP.th NP.body)))))) (by kernel_rfl) (by kernel_rfl) rfl rfl rfl (cB (dT h_14)) <| jd 21 (b := true) rfl (by kernel_rfl) (NP.th (NP.bl (NP.th (NP.th (NP.bl (NP.th NP.body)))))) (by kernel_rfl) (by kernel_rfl) rfl rfl rfl (cB (dT h_14)) <| jd 22 (b := true) rfl (by kernel_rfl) (NP.th (NP.bl (NP.th (NP.th (NP.bl (NP.th NP.body)))))) (by kernel_rfl) (by kernel_rfl) rfl rfl rfl (cB (dT h_14)) <| jg 23 rfl (by kernel_rfl) (NP.th (NP.bl (NP.th (NP.th (NP.bl (NP.th NP.body)))))) (by kernel_rfl) (by kernel_rfl) rfl rfl rfl (cB h_13) (jh (v := .bool true) (cB (dT h_14)) rfl) <| jL 24 rfl (jh (v := .bool true) (cB h_13) rfl) <| kI (by kernel_rfl) <| jB <| jW (cB rfl) <| jF <| jA (jD (v := nv j) he_8) ?_
        refine jA (jG (v := nv j) rfl) <| jE <| jm <| jB <| jF <| jA (jD (v := nv j) he_8) <| jA (jc (c := ((j + 1 : Nat) : Int)) rfl rfl (wr (by omega))) <| jA (jG (v := iv ((j + 1 : Nat) : Int)) rfl) <| jE ?_
        refine jq (d.l.length - (j + 1)) (by omega) ⟨j + 1, by omega, he_5, he_6, (by simp only [bestF]; first | (rw [if_pos ⟨by assumption, .inl (by assumption)⟩]; first | rfl | assumption) | (rw [if_neg (by rintro ⟨h_, _⟩; simp_all)]; first | rfl | assumption)), rfl, rfl, rfl⟩
      have hlo := bestF_lo (fun i => (d.l.getD i o0).t) j
      obtain ⟨q_15, hq_16⟩ : ∃ n_ : Nat, bestF (fun i => (d.l.getD i o0).t) j = ((n_ : Nat) : Int) := ⟨(bestF (fun i => (d.l.getD i o0).t) j).toNat, by omega⟩
      refine jg 10 rfl (by kernel_rfl) (NP.th (NP.bl (NP.th (NP.th (NP.bl (NP.th NP.body)))))) (by kernel_rfl) (by kernel_rfl) rfl rfl rfl (cB (dF h_14)) (jQ fo31_0 he_5) <| kK 11 rfl (by kernel_rfl) (NP.th (NP.bl (NP.th (NP.th (NP.bl (NP.th NP.body)))))) (by kernel_rfl) (by kernel_rfl) (by kernel_rfl) rfl rfl rfl (cB (dF h_14)) (jZ 0 (v := .slice d.a d.l.length d.c) rfl rfl ks rfl) <| jg 12 rfl (by kernel_rfl) (NP.th (NP.bl (NP.th (NP.th (NP.bl (NP.th NP.body)))))) (by kernel_rfl) (by kernel_rfl) rfl rfl rfl (cB (dF h_14)) (jD (v := nv j) he_8) <| jg 13 rfl (by kernel_rfl) (NP.th (NP.bl (NP.th (NP.th (NP.bl (NP.th NP.body)))))) (by kernel_rfl) (by kernel_rfl) rfl rfl rfl (cB (dF h_14)) (jk (i := j) km kj hr_10 hr_10b rfl rfl (by omega)) <| jg 14 rfl (by kernel_rfl) (NP.th (NP.bl (NP.th (NP.th (NP.bl (NP.th NP.body)))))) (by kernel_rfl) (by kernel_rfl) rfl rfl rfl (cB (dF h_14)) (kL fo60_0 hr_10 rfl) <| kK 15 rfl (by kernel_rfl) (NP.th (NP.bl (NP.th (NP.th (NP.bl (NP.th NP.body)))))) (by kernel_rfl) (by kernel_rfl) (by kernel_rfl) rfl rfl rfl (cB (dF h_14)) (kY (v := iv ((d.l.getD j o0).t.seq)) hs_1 nM rfl kq (flat_at encO_len o0 d.l j 0 (by omega) (by decide))) <| jg 16 rfl (by kernel_rfl) (NP.th (NP.bl (NP.th (NP.th (NP.bl (NP.th NP.body)))))) (by kernel_rfl) (by kernel_rfl) rfl rfl rfl (cB (dF h_14)) (jQ fo31_0 he_5) <| kK 17 rfl (by kernel_rfl) (NP.th (NP.bl (NP.th (NP.th (NP.bl (NP.th NP.body)))))) (by kernel_rfl) (by kernel_rfl) (by kernel_rfl) rfl rfl rfl (cB (dF h_14)) (jZ 0 (v := .slice d.a d.l.length d.c) rfl rfl ks rfl) <| jg 18 rfl (by kernel_rfl) (NP.th (NP.bl (NP.th (NP.th (NP.bl (NP.th NP.body)))))) (by kernel_rfl) (by kernel_rfl) rfl rfl rfl (cB (dF h_14)) (jD (v := nv q_15) ((he_7).trans (congrArg (Value.int .i64) hq_16))) <| jg 19 rfl (by kernel_rfl) (NP.th (NP.bl (NP.th (NP.th (NP.bl (NP.th NP.body)))))) (by kernel_rfl) (by kernel_rfl) rfl rfl rfl (cB (dF h_14)) (jk (i := q_15) km kj hr_10 hr_10b rfl rfl (by omega)) ?_
      refine jg 20 rfl (by kernel_rfl) (NP.th (NP.bl (NP.th (NP.th (NP.bl (NP.th NP.body)))))) (by kernel_rfl) (by kernel_rfl) rfl rfl rfl (cB (dF h_14)) (kL fo60_0 hr_10 rfl) ?_
      have hi_17 := SeesA.elem hi_2 o0 (show q_15 < d.l.length by omega)
      have hs_18 := seesO hi_17
      refine kK 21 rfl (by kernel_rfl) (NP.th (NP.bl (NP.th (NP.th (NP.bl (NP.th NP.body)))))) (by kernel_rfl) (by kernel_rfl) (by kernel_rfl) rfl rfl rfl (cB (dF h_14)) (kY (v := iv ((d.l.getD q_15 o0).t.seq)) hs_1 nM rfl kq (flat_at encO_len o0 d.l q_15 0 (by omega) (by decide))) <| jg 22 rfl (by kernel_rfl) (NP.th (NP.bl (NP.th (NP.th (NP.bl (NP.th NP.body)))))) (by kernel_rfl) (by kernel_rfl) rfl rfl rfl (cB (dF h_14)) (kR rfl rfl) <| jg 23 rfl (by kernel_rfl) (NP.th (NP.bl (NP.th (NP.th (NP.bl (NP.th NP.body)))))) (by kernel_rfl) (by kernel_rfl) rfl rfl rfl (cB h_13) (ji (v := .bool (decide (((d.l.getD q_15 o0).t.seq) < ((d.l.getD j o0).t.seq)))) (cB (dF h_14)) rfl) <| jL 24 rfl (jh (v := .bool (decide (((d.l.getD q_15 o0).t.seq) < ((d.l.getD j o0).t.seq)))) (cB h_13) rfl) <| kI (by kernel_rfl) <| jB ?_
      by_cases h_19 : ((d.l.getD q_15 o0).t.seq) < ((d.l.getD j o0).t.seq)
      · refine jW (cB (dT h_19)) <| jF <| jA (jD (v := nv j) he_8) <| jA (jG (v := nv j) rfl) <| jE <| jm <| jB <| jF <| jA (jD (v := nv j) he_8) <| jA (jc (c := ((j + 1 : Nat) : Int)) rfl rfl (wr (by omega))) ?_
        refine jA (jG (v := iv ((j + 1 : Nat) : Int)) rfl) <| jE ?_
        refine jq (d.l.length - (j + 1)) (by omega) ⟨j + 1, by omega, he_5, he_6, (by first | rfl | (simp only [bestF]; first | (rw [if_pos ⟨by assumption, .inr (by rw [hq_16]; simp only [Int.toNat_natCast]; omega)⟩]; first | rfl | assumption) | (rw [if_neg (by rintro ⟨_, h_ | h_⟩ <;> first | omega | (simp only [hq_16, Int.toNat_natCast] at h_; omega))]; first | assumption | (rw [hq_16]; first | rfl | assumption)))), rfl, rfl, rfl⟩
      refine jR (cB (dF h_19)) <| jT <| jm <| jB <| jF <| jA (jD (v := nv j) he_8) <| jA (jc (c := ((j + 1 : Nat) : Int)) rfl rfl (wr (by omega))) <| jA (jG (v := iv ((j + 1 : Nat) : Int)) rfl) <| jE ?_
      refine jq (d.l.length - (j + 1)) (by omega) ⟨j + 1, by omega, he_5, he_6, (by first | rfl | (simp only [bestF]; first | (rw [if_pos ⟨by assumption, .inr (by rw [hq_16]; simp only [Int.toNat_natCast]; omega)⟩]; first | rfl | assumption) | (rw [if_neg (by rintro ⟨_, h_ | h_⟩ <;> first | omega | (simp only [hq_16, Int.toNat_natCast] at h_; omega))]; first | assumption | (rw [hq_16]; first | rfl | assumption)))), rfl, rfl, rfl⟩
    refine jd 7 (b := false) rfl (by kernel_rfl) (NP.th (NP.bl (NP.th (NP.th (NP.bl (NP.th NP.body)))))) (by kernel_rfl) (by kernel_rfl) rfl rfl rfl (cB h_13) <| jd 8 (b := false) rfl (by kernel_rfl) (NP.th (NP.bl (NP.th (NP.th (NP.bl (NP.th NP.body)))))) (by kernel_rfl) (by kernel_rfl) rfl rfl rfl (cB h_13) <| jd 9 (b := false) rfl (by kernel_rfl) (NP.th (NP.bl (NP.th (NP.th (NP.bl (NP.th NP.body)))))) (by kernel_rfl) (by kernel_rfl) rfl rfl rfl (cB h_13) <| kE 10 rfl (by kernel_rfl) (NP.th (NP.bl (NP.th (NP.th (NP.bl (NP.th NP.body)))))) (by kernel_rfl) (by kernel_rfl) rfl rfl rfl rfl <| kE 11 rfl (by kernel_rfl) (NP.th (NP.bl (NP.th (NP.th (NP.bl (NP.th NP.body)))))) (by kernel_rfl) (by kernel_rfl) rfl rfl rfl rfl <| kE 12 rfl (by kernel_rfl) (NP.th (NP.bl (NP.th (NP.th (NP.bl (NP.th NP.body)))))) (by kernel_rfl) (by kernel_rfl) rfl rfl rfl rfl <| kE 13 rfl (by kernel_rfl) (NP.th (NP.bl (NP.th (NP.th (NP.bl (NP.th NP.body)))))) (by kernel_rfl) (by kernel_rfl) rfl rfl rfl rfl <| kE 14 rfl (by kernel_rfl) (NP.th (NP.bl (NP.th (NP.th (NP.bl (NP.th NP.body)))))) (by kernel_rfl) (by kernel_rfl) rfl rfl rfl rfl <| kE 15 rfl (by kernel_rfl) (NP.th (NP.bl (NP.th (NP.th (NP.bl (NP.th NP.body)))))) (by kernel_rfl) (by kernel_rfl) rfl rfl rfl rfl <| kE 16 rfl (by kernel_rfl) (NP.th (NP.bl (NP.th (NP.th (NP.bl (NP.th NP.body)))))) (by kernel_rfl) (by kernel_rfl) rfl rfl rfl rfl ?_
    refine kE 17 rfl (by kernel_rfl) (NP.th (NP.bl (NP.th (NP.th (NP.bl (NP.th NP.body)))))) (by kernel_rfl) (by kernel_rfl) rfl rfl rfl rfl <| kE 18 rfl (by kernel_rfl) (NP.th (NP.bl (NP.th (NP.th (NP.bl (NP.th NP.body)))))) (by kernel_rfl) (by kernel_rfl) rfl rfl rfl rfl <| kE 19 rfl (by kernel_rfl) (NP.th (NP.bl (NP.th (NP.th (NP.bl (NP.th NP.body)))))) (by kernel_rfl) (by kernel_rfl) rfl rfl rfl rfl <| kE 20 rfl (by kernel_rfl) (NP.th (NP.bl (NP.th (NP.th (NP.bl (NP.th NP.body)))))) (by kernel_rfl) (by kernel_rfl) rfl rfl rfl rfl <| kE 21 rfl (by kernel_rfl) (NP.th (NP.bl (NP.th (NP.th (NP.bl (NP.th NP.body)))))) (by kernel_rfl) (by kernel_rfl) rfl rfl rfl rfl <| kE 22 rfl (by kernel_rfl) (NP.th (NP.bl (NP.th (NP.th (NP.bl (NP.th NP.body)))))) (by kernel_rfl) (by kernel_rfl) rfl rfl rfl rfl <| jd 23 (b := false) rfl (by kernel_rfl) (NP.th (NP.bl (NP.th (NP.th (NP.bl (NP.th NP.body)))))) (by kernel_rfl) (by kernel_rfl) rfl rfl rfl (cB h_13) <| jL 24 rfl (ji (v := .bool false) (cB h_13) rfl) <| kI (by kernel_rfl) <| jB ?_
    refine jR (cB rfl) <| jT <| jm <| jB <| jF <| jA (jD (v := nv j) he_8) <| jA (jc (c := ((j + 1 : Nat) : Int)) rfl rfl (wr (by omega))) <| jA (jG (v := iv ((j + 1 : Nat) : Int)) rfl) <| jE ?_
    refine jq (d.l.length - (j + 1)) (by omega) ⟨j + 1, by omega, he_5, he_6, (by simp only [bestF]; first | (rw [if_pos ⟨by assumption, .inl (by assumption)⟩]; first | rfl | assumption) | (rw [if_neg (by rintro ⟨h_, _⟩; simp_all)]; first | rfl | assumption)), rfl, rfl, rfl⟩
  refine jR (cB (dF h_9)) <| jx <| jb <| jb <| jy <| jB <| jC <| jF <| jA (jD (v := iv (bestF (fun i => (d.l.getD i o0).t) j)) he_7) <| jA (jG (v := iv (bestF (fun i => (d.l.getD i o0).t) j)) rfl) ?_
  refine jE <| jB <| jN <| jV (.inl rfl) rfl (jJ (v := iv (bestF (fun i => (d.l.getD i o0).t) j)) rfl) (List.nil_sublist _) ?_
  refine ⟨congrArg (Value.int .i64) ?_, rfl⟩
  rw [bestD_dat, show d.l.length = j by omega]

set_option maxRecDepth 4000 in
set_option maxHeartbeats 1000000 in
theorem Y_specDiskOk (d : DX) (hz : d.dat.okz) (hl : d.l.length ≤ 1000000000) :
    Ct Tryz.prog 42 [.agg #[.slice d.a d.l.length d.c, str d.jt, .int .i64 d.js]] [] (fun w => SeesA w (rdsD d)) (fun v A' => v = .bool (diskOk d.dat) ∧ A' = []) := by
  refine Ct.intro Tryz.func42 rfl Tryz.ntmps42 (lb rfl) fun w0 hpre => ?_
  have hjl := hz.k2
  have hs_1 : Sees w0 (.slice d.a d.l.length d.c) 3 d.l.length (d.l.flatMap encO) := (hpre).head
  have hi_2 : SeesA w0 (d.l.flatMap rdsO) := (hpre).tail
  refine jC <| jF ?_
  refine jH rfl (kG (cs := [.slice d.a d.l.length d.c, str d.jt, iv d.js]) rfl rfl) ?_
  rintro _ _ ⟨b_3, rfl, rfl⟩
  refine jA (jG (v := .bool false) rfl) <| jE <| jB <| jC <| jC <| jF <| jA (jG (v := iv 0) rfl) <| jE <| jB <| jf ?_
  refine kD (fun k_ e_ L_ => ∃ j : Nat, (j ≤ d.l.length) ∧ (∀ i, i < j → slotG (d.l.getD i o0).t = true) ∧ e_ 1 = .pointer (some ⟨b_3, 0, none⟩) ∧ e_ 3 = nv j ∧ L_ = [bk b_3 31 [.slice d.a d.l.length d.c, str d.jt, iv d.js]] ∧ k_ = d.l.length - j) _ ⟨0, by omega, (fun i hi => absurd hi (Nat.not_lt_zero i)), rfl, rfl, rfl, rfl⟩ ?_
  rintro _ e_4 _ ⟨j, hj, hN, he_5, he_6, rfl, rfl⟩
  refine jC <| jC <| jF <| jA (jD (v := nv j) he_6) <| jA (jQ fo31_0 he_5) <| jK (jZ 0 (v := .slice d.a d.l.length d.c) rfl rfl ks rfl) <| jA (jr km rfl) <| jA (jl rfl rfl) <| jE <| jB ?_
  by_cases h_7 : ((j : Nat) : Int) < ((d.l.length : Nat) : Int)
  · have hlt : j < d.l.length := by omega
    refine jW (cB (dT h_7)) <| jT <| jB <| jC <| jf <| jC <| jF <| jA (jQ fo31_0 he_5) <| jK (jZ 0 (v := .slice d.a d.l.length d.c) rfl rfl ks rfl) <| jA (jD (v := nv j) he_6) ?_
    obtain ⟨hr_8, hr_8b, -⟩ := sees_some hs_1 (by omega)
    refine jA (jk (i := j) km kj hr_8 hr_8b rfl rfl (by omega)) ?_
    have hi_9 := SeesA.elem hi_2 o0 (show j < d.l.length by omega)
    have hs_10 := seesO hi_9
    refine jK (kX (vs := [iv ((d.l.getD j o0).t.seq), .slice ((d.l.getD j o0).x.a0) ((d.l.getD j o0).t.cells.length) ((d.l.getD j o0).x.c0), .bool ((d.l.getD j o0).t.whole)]) hs_1 nM rfl gB kj (flat_take encO_len o0 d.l j (by omega)) rfl (by decide)) ?_
    refine jH rfl (jo (z := .agg #[iv 0, .slice none 0 0, .bool false]) (cs := [iv 0, .slice none 0 0, .bool false]) gD rfl) ?_
    rintro _ _ ⟨b_11, rfl, rfl⟩
    refine jH rfl (ja 0 (vs := [iv ((d.l.getD j o0).t.seq), .slice ((d.l.getD j o0).x.a0) ((d.l.getD j o0).t.cells.length) ((d.l.getD j o0).x.c0), .bool ((d.l.getD j o0).t.whole)]) (cs' := [iv ((d.l.getD j o0).t.seq), .slice ((d.l.getD j o0).x.a0) ((d.l.getD j o0).t.cells.length) ((d.l.getD j o0).x.c0), .bool ((d.l.getD j o0).t.whole)]) rfl rfl rfl rfl kj rfl rfl (lb rfl) rfl) ?_
    rintro _ _ rfl
    refine jE <| jB <| jC <| jF <| jA (jQ fo60_2 rfl) <| jK (jZ 0 (v := .bool ((d.l.getD j o0).t.whole)) rfl rfl gI rfl) <| jA (jD (v := .bool ((d.l.getD j o0).t.whole)) rfl) ?_
    rcases Bool.eq_false_or_eq_true ((d.l.getD j o0).t.whole) with h_12 | h_12
    · refine jM rfl rfl rfl (cB h_12) (jP (jU (jQ fo60_0 rfl))) ?_
      rintro _ _ ⟨rfl, rfl⟩
      refine jM rfl rfl rfl (cB h_12) (jP (jZ 0 (v := iv ((d.l.getD j o0).t.seq)) rfl rfl kq rfl)) ?_
      rintro _ _ ⟨rfl, rfl⟩
      refine jM rfl rfl rfl (cB h_12) (jI [] Tryz.call89 rfl (Y_l01In ((d.l.getD j o0).t.seq) 0 99999) rfl (fun _ _ => trivial)) ?_
      rintro _ _ ⟨_, ⟨rfl, rfl⟩, rfl⟩
      refine jM rfl rfl rfl (cB h_12) (jP (jU (jp rfl))) ?_
      rintro _ _ ⟨rfl, rfl⟩
      refine jM rfl rfl rfl (cB h_12) (jP (jU (jD (v := .bool (!(within 0 ((d.l.getD j o0).t.seq) 99999))) rfl))) ?_
      rintro _ _ ⟨rfl, rfl⟩
      rcases Bool.eq_false_or_eq_true (within 0 ((d.l.getD j o0).t.seq) 99999) with h_13 | h_13
      · refine jM rfl rfl rfl (cB (cN h_13)) (jP (jU (jQ fo60_1 rfl))) ?_
        rintro _ _ ⟨rfl, rfl⟩
        refine jM rfl rfl rfl (cB (cN h_13)) (jP (jZ 0 (v := .slice ((d.l.getD j o0).x.a0) ((d.l.getD j o0).t.cells.length) ((d.l.getD j o0).x.c0)) rfl rfl kz rfl)) ?_
        rintro _ _ ⟨rfl, rfl⟩
        refine jM rfl rfl rfl (cB (cN h_13)) (jI [] Tryz.call53 rfl (Y_specStoreOk (d.l.getD j o0).x.a0 ((d.l.getD j o0).x.c0) ((d.l.getD j o0).t.cells) (DX.okz_get hz j (by omega)).k0) rfl (fun w hw => hw.seeOut_ hs_10 nM)) ?_
        rintro _ _ ⟨_, ⟨rfl, rfl⟩, rfl⟩
        refine jM rfl rfl rfl (cB (cN h_13)) (jP (jU (jp rfl))) ?_
        rintro _ _ ⟨rfl, rfl⟩
        refine jM rfl rfl rfl (cB h_12) (jP (jU (ji (v := .bool (!(storeOk ((d.l.getD j o0).t.cells)))) (cB (cN h_13)) rfl))) ?_
        rintro _ _ ⟨rfl, rfl⟩
        refine jA (jh (v := .bool (!(storeOk ((d.l.getD j o0).t.cells)))) (cB h_12) rfl) <| jE <| jB ?_
        rcases Bool.eq_false_or_eq_true (storeOk ((d.l.getD j o0).t.cells)) with h_14 | h_14
        · refine jR (cB (cN h_14)) <| jT <| jm <| jB <| jF <| jA (jD (v := nv j) he_6) <| jA (jc (c := ((j + 1 : Nat) : Int)) rfl rfl (wr (by omega))) <| jA (jG (v := iv ((j + 1 : Nat) : Int)) rfl) <| jE <| kB [1] (A := [bk b_3 31 [.slice d.a d.l.length d.c, str d.jt, iv d.js]]) rfl ?_
          refine jq (d.l.length - (j + 1)) (by omega) ⟨j + 1, by omega, (fun i hi => if h : i = j then h ▸ (by simp only [slotG, Bool.and_true, Bool.true_and, Bool.and_false, Bool.false_and, Bool.or_true, Bool.true_or, Bool.or_false, Bool.false_or, Bool.not_true, Bool.not_false, ((dT h_7)), (h_12), (h_13), (h_14)]) else hN i (by omega)), he_5, rfl, rfl, rfl⟩
        refine jW (cB (cN h_14)) <| jC <| jF <| jA (jG (v := .bool false) rfl) <| jE <| jB <| jN <| jv <| jX <| jX ?_
        refine jv <| jX <| jV (.inl rfl) rfl (jJ (v := .bool false) rfl) (List.nil_sublist _) ?_
        refine ⟨cB ?_, rfl⟩
        rw [diskOk_dat]
        exact (diskOkF_slot (f := (fun i => (d.l.getD i o0).t)) hlt (by simp only [slotG, Bool.and_true, Bool.true_and, Bool.and_false, Bool.false_and, Bool.or_true, Bool.true_or, Bool.or_false, Bool.false_or, Bool.not_true, Bool.not_false, ((dT h_7)), (h_12), (h_13), (h_14)])).symm
      refine jS (b := true) rfl rfl rfl (cB (cN h_13)) <| jS (b := true) rfl rfl rfl (cB (cN h_13)) <| jS (b := true) rfl rfl rfl (cB (cN h_13)) <| jS (b := true) rfl rfl rfl (cB (cN h_13)) <| jM rfl rfl rfl (cB h_12) (jP (jU (jh (v := .bool true) (cB (cN h_13)) rfl))) ?_
      rintro _ _ ⟨rfl, rfl⟩
      refine jA (jh (v := .bool true) (cB h_12) rfl) <| jE <| jB <| jW (cB rfl) <| jC <| jF <| jA (jG (v := .bool false) rfl) <| jE <| jB <| jN ?_
      refine jv <| jX <| jX <| jv <| jX <| jV (.inl rfl) rfl (jJ (v := .bool false) rfl) (List.nil_sublist _) ?_
      refine ⟨cB ?_, rfl⟩
      rw [diskOk_dat]
      exact (diskOkF_slot (f := (fun i => (d.l.getD i o0).t)) hlt (by simp only [slotG, Bool.and_true, Bool.true_and, Bool.and_false, Bool.false_and, Bool.or_true, Bool.true_or, Bool.or_false, Bool.false_or, Bool.not_true, Bool.not_false, ((dT h_7)), (h_12), (h_13)])).symm
    refine jS (b := false) rfl rfl rfl (cB h_12) <| jS (b := false) rfl rfl rfl (cB h_12) <| jS (b := false) rfl rfl rfl (cB h_12) <| jS (b := false) rfl rfl rfl (cB h_12) <| jS (b := false) rfl rfl rfl (cB h_12) <| kP rfl rfl rfl rfl <| kP rfl rfl rfl rfl <| kP rfl rfl rfl rfl <| kP rfl rfl rfl rfl <| jS (b := false) rfl rfl rfl (cB h_12) ?_
    refine jA (ji (v := .bool false) (cB h_12) rfl) <| jE <| jB <| jR (cB rfl) <| jT <| jm <| jB <| jF <| jA (jD (v := nv j) he_6) <| jA (jc (c := ((j + 1 : Nat) : Int)) rfl rfl (wr (by omega))) ?_
    refine jA (jG (v := iv ((j + 1 : Nat) : Int)) rfl) <| jE <| kB [1] (A := [bk b_3 31 [.slice d.a d.l.length d.c, str d.jt, iv d.js]]) rfl ?_
    refine jq (d.l.length - (j + 1)) (by omega) ⟨j + 1, by omega, (fun i hi => if h : i = j then h ▸ (by simp only [slotG, Bool.and_true, Bool.true_and, Bool.and_false, Bool.false_and, Bool.or_true, Bool.true_or, Bool.or_false, Bool.false_or, Bool.not_true, Bool.not_false, ((dT h_7)), (h_12)]) else hN i (by omega)), he_5, rfl, rfl, rfl⟩
  refine jR (cB (dF h_7)) <| jx <| jb <| jb <| jy <| jB <| jC <| jF <| jA (jQ fo31_0 he_5) <| jK (jZ 0 (v := .slice d.a d.l.length d.c) rfl rfl ks rfl) ?_
  refine jA (jr km rfl) <| jA (kO rfl rfl) <| jA (jD (v := .bool (decide (((d.l.length : Nat) : Int) = 2))) rfl) ?_
  by_cases h_15 : ((d.l.length : Nat) : Int) = 2
  · refine jM rfl rfl rfl (cB (dT h_15)) (jP (jO 0 (vs := [.slice d.a d.l.length d.c, str d.jt, iv d.js]) rfl he_5 ke kd rfl rfl)) ?_
    rintro _ _ ⟨rfl, rfl⟩
    refine jM rfl rfl rfl (cB (dT h_15)) (jI [] Tryz.call49 rfl (Y_sBest d hz (by omega)) rfl (fun w hw => hw.seeOutA hpre nMA)) ?_
    rintro _ _ ⟨_, ⟨rfl, rfl⟩, rfl⟩
    refine jM rfl rfl rfl (cB (dT h_15)) (jP (jU (PO.geq rfl rfl))) ?_
    rintro _ _ ⟨rfl, rfl⟩
    refine jA (jh (v := .bool (decide (0 ≤ (bestD d.dat)))) (cB (dT h_15)) rfl) <| jA (jD (v := .bool (decide (0 ≤ (bestD d.dat)))) rfl) ?_
    by_cases h_16 : 0 ≤ (bestD d.dat)
    · refine jM rfl rfl rfl (cB (dT h_16)) (jP (jU (jQ fo31_1 he_5))) ?_
      rintro _ _ ⟨rfl, rfl⟩
      refine jM rfl rfl rfl (cB (dT h_16)) (jP (jO 0 (vs := [str d.jt, iv d.js]) rfl rfl kp kl rfl rfl)) ?_
      rintro _ _ ⟨rfl, rfl⟩
      refine jM rfl rfl rfl (cB (dT h_16)) (jI [] Tryz.call95 rfl (Y_specJournalOk d.jt d.js hjl) rfl (fun _ _ => trivial)) ?_
      rintro _ _ ⟨_, ⟨rfl, rfl⟩, rfl⟩
      refine jA (jh (v := .bool (jourOk d.jt d.js)) (cB (dT h_16)) rfl) <| jA (jG (v := .bool (jourOk d.jt d.js)) rfl) <| jE <| jB <| jN <| jV (.inl rfl) rfl (jJ (v := .bool (jourOk d.jt d.js)) rfl) (List.nil_sublist _) ?_
      refine ⟨cB ?_, rfl⟩
      rw [diskOk_dat, diskOkF_spec (f := (fun i => (d.l.getD i o0).t)) (by omega) hN, ← bestD_dat]
      simp only [Bool.and_true, Bool.true_and, Bool.and_false, Bool.false_and, Bool.or_true, Bool.true_or, Bool.or_false, Bool.false_or, Bool.not_true, Bool.not_false, ((dF h_7)), ((dT h_15)), ((dT h_16))]
    refine jS (b := false) rfl rfl rfl (cB (dF h_16)) <| jS (b := false) rfl rfl rfl (cB (dF h_16)) <| jS (b := false) rfl rfl rfl (cB (dF h_16)) <| jA (ji (v := .bool false) (cB (dF h_16)) rfl) <| jA (jG (v := .bool false) rfl) <| jE <| jB <| jN <| jV (.inl rfl) rfl (jJ (v := .bool false) rfl) (List.nil_sublist _) ?_
    refine ⟨cB ?_, rfl⟩
    rw [diskOk_dat, diskOkF_spec (f := (fun i => (d.l.getD i o0).t)) (by omega) hN, ← bestD_dat]
    simp only [Bool.and_true, Bool.true_and, Bool.and_false, Bool.false_and, Bool.or_true, Bool.true_or, Bool.or_false, Bool.false_or, Bool.not_true, Bool.not_false, ((dF h_7)), ((dT h_15)), ((dF h_16))]
  refine jS (b := false) rfl rfl rfl (cB (dF h_15)) <| jS (b := false) rfl rfl rfl (cB (dF h_15)) <| jS (b := false) rfl rfl rfl (cB (dF h_15)) <| jA (ji (v := .bool false) (cB (dF h_15)) rfl) <| jA (jD (v := .bool false) rfl) <| jS (b := false) rfl rfl rfl (cB rfl) <| jS (b := false) rfl rfl rfl (cB rfl) <| jS (b := false) rfl rfl rfl (cB rfl) <| jA (ji (v := .bool false) (cB rfl) rfl) <| jA (jG (v := .bool false) rfl) ?_
  refine jE <| jB <| jN <| jV (.inl rfl) rfl (jJ (v := .bool false) rfl) (List.nil_sublist _) ?_
  refine ⟨cB ?_, rfl⟩
  rw [diskOk_dat, diskOkF_spec (f := (fun i => (d.l.getD i o0).t)) (by omega) hN, ← bestD_dat]
  simp only [Bool.and_true, Bool.true_and, Bool.and_false, Bool.false_and, Bool.or_true, Bool.true_or, Bool.or_false, Bool.false_or, Bool.not_true, Bool.not_false, ((dF h_7)), ((dF h_15))]

end Go.Proofs.YtjncpgcccgdeiaaGreatDoor

set_option linter.unusedSimpArgs false
set_option linter.unusedVariables false
set_option linter.unnecessarySimpa false
namespace Go.Proofs.YtjncpgcccgdeiaaGreatDoor
open Go Go.RowKit

theorem digit_fin : ∀ d : Fin 16, Lib.Hx.digit d.val = hexFig d.val := by decide +kernel
theorem hexVal_fin : ∀ n : Fin 16, hexVal (hexFig n.val) = some n.val := by decide +kernel
theorem byte_fin : ∀ c : Fin 256, (match hexVal (UInt8.ofNat c.val) with | some n => decide (n < 16) && decide (Lib.Hx.v (UInt8.ofNat c.val) = n) && decide (hexFig n = UInt8.ofNat c.val) | none => true) = true := by decide +kernel
theorem hexVal_some {c : UInt8} {n : Nat} (h : hexVal c = some n) : n < 16 ∧ Lib.Hx.v c = n ∧ hexFig n = c := by
  have := byte_fin ⟨c.toNat, UInt8.toNat_lt c⟩
  rw [show UInt8.ofNat (⟨c.toNat, UInt8.toNat_lt c⟩ : Fin 256).val = c from UInt8.ofNat_toNat] at this
  rw [h] at this
  simp only [Bool.and_eq_true, decide_eq_true_eq] at this
  exact ⟨this.1.1, this.1.2, this.2⟩
theorem encode_hexB : ∀ l : Str, Lib.Hx.encode l = hexB l
  | [] => rfl
  | c :: l => by
    have hc := UInt8.toNat_lt c
    rw [Lib.Hx.encode_cons, hexB, encode_hexB l, digit_fin ⟨c.toNat / 16, by omega⟩, digit_fin ⟨c.toNat % 16, by omega⟩]
theorem unhexL_hexB : ∀ r : Str, unhexL (hexB r) = some r
  | [] => rfl
  | c :: r => by
    have hc := UInt8.toNat_lt c
    rw [hexB, unhexL, hexVal_fin ⟨c.toNat / 16, by omega⟩, hexVal_fin ⟨c.toNat % 16, by omega⟩, unhexL_hexB r]
    simp only
    rw [show 16 * (c.toNat / 16) + c.toNat % 16 = c.toNat by omega, UInt8.ofNat_toNat]
theorem unhexL_dec : ∀ (t r : Str), unhexL t = some r → hexB r = t ∧ Lib.Hx.decode t = (r, .ok)
  | [], r, h => by
    simp only [unhexL, Option.some.injEq] at h
    subst h
    exact ⟨rfl, Lib.Hx.decode_nil⟩
  | [_], r, h => by simp [unhexL] at h
  | a :: b :: t, r, h => by
    unfold unhexL at h
    split at h
    · rename_i hh ll rr h1 h2 h3
      simp only [Option.some.injEq] at h
      subst h
      obtain ⟨i1, i2⟩ := unhexL_dec t rr h3
      obtain ⟨a1, a2, a3⟩ := hexVal_some h1
      obtain ⟨b1, b2, b3⟩ := hexVal_some h2
      have hn : (UInt8.ofNat (16 * hh + ll)).toNat = 16 * hh + ll := UInt8.toNat_ofNat_of_lt' (by show _ < 256; omega)
      refine ⟨?_, ?_⟩
      · rw [hexB, hn, i1, show (16 * hh + ll) / 16 = hh by omega, show (16 * hh + ll) % 16 = ll by omega, a3, b3]
      · rw [Lib.Hx.decode_two, a2, b2, if_neg (by omega), if_neg (by omega), i2, Nat.mul_comm]
    · cases h
theorem unhex_yes {t r : Str} (hd : Lib.Hx.decode t = (r, .ok)) (h1 : ¬ (20000 : Int) < (r.length : Int)) (h2 : hexB r = t) : unhex t = (r, true) := by
  have hl := hexB_len r
  unfold unhex
  rw [if_neg (by rw [← h2, hl]; omega), ← h2, unhexL_hexB]
theorem unhex_err {t : Str} (hd : ∀ r, Lib.Hx.decode t ≠ (r, .ok)) : unhex t = ([], false) := by
  unfold unhex
  split
  · rfl
  · cases h : unhexL t with
    | none => rfl
    | some r => exact absurd (unhexL_dec t r h).2 (hd r)
theorem unhex_long {t r : Str} (hd : Lib.Hx.decode t = (r, .ok)) (h1 : (20000 : Int) < (r.length : Int)) : unhex t = ([], false) := by
  unfold unhex
  split
  · rfl
  · rename_i hl
    cases h : unhexL t with
    | none => rfl
    | some r' =>
      have := unhexL_dec t r' h
      rw [hd] at this
      have e : r = r' := (Prod.mk.inj this.2).1
      subst e
      have := unhexL_len t r h
      omega
theorem unhex_ne {t r : Str} (hd : Lib.Hx.decode t = (r, .ok)) (h1 : ¬ hexB r = t) : unhex t = ([], false) := by
  unfold unhex
  split
  · rfl
  · cases h : unhexL t with
    | none => rfl
    | some r' =>
      have := unhexL_dec t r' h
      rw [hd] at this
      have e : r = r' := (Prod.mk.inj this.2).1
      subst e
      exact absurd this.1 h1
/-- What Hex hands back. -/
def hexP (s : Str) : Str × Bool := if 20000 < (s.length : Int) then ([], false) else (hexB s, true)
theorem hexS_P (s : Str) : hexS s = (hexP s).1 := by
  unfold hexS hexP
  by_cases h : 20000 < s.length
  · rw [if_pos h, if_pos (by omega)]
  · rw [if_neg h, if_neg (by omega)]
def hexAcc : Str → Str → Str
  | [], out => out
  | c :: s, out => hexAcc s (out ++ [hexFig (c.toNat / 16), hexFig (c.toNat % 16)])
theorem hexAcc_app : ∀ (s out : Str), hexAcc s out = out ++ hexB s
  | [], out => by simp [hexAcc, hexB]
  | c :: s, out => by rw [hexAcc, hexAcc_app s, hexB]; simp
def hexV (c : UInt8) : Int := match hexVal c with | some n => (n : Int) | none => -1
theorem unhexL_step {t out : Str} {j : Nat} (h : j + 1 < t.length) : (unhexL (t.drop j)).map (out ++ ·) = if hexV (t.getD j 0) < 0 ∨ hexV (t.getD (j + 1) 0) < 0 then none else
    (unhexL (t.drop (j + 2))).map ((out ++ [UInt8.ofNat (16 * hexV (t.getD j 0) + hexV (t.getD (j + 1) 0)).toNat]) ++ ·) := by
  rw [drop_at (getD_some (d := (0 : UInt8)) (by omega : j < t.length)), drop_at (getD_some (d := (0 : UInt8)) h), unhexL]
  unfold hexV
  cases h1 : hexVal (t.getD j 0) with
  | none => simp
  | some a =>
    cases h2 : hexVal (t.getD (j + 1) 0) with
    | none => simp
    | some b =>
      rw [if_neg (by simp only; omega)]
      have e : (16 * (a : Int) + (b : Int)).toNat = 16 * a + b := by omega
      simp only [e]
      cases unhexL (t.drop (j + 2)) with
      | none => rfl
      | some r => simp
theorem unhex_some {t r : Str} (h : unhexL t = some r) (h1 : ¬ (40000 : Int) < (t.length : Int)) : unhex t = (r, true) := by
  unfold unhex
  rw [if_neg (by omega), h]
theorem unhex_none {t : Str} (h : unhexL t = none) : unhex t = ([], false) := by
  unfold unhex
  rw [h]
  split <;> rfl
theorem unhexL_odd : ∀ (t : Str), t.length % 2 = 1 → unhexL t = none
  | [], h => by simp at h
  | [_], _ => rfl
  | a :: b :: t, h => by
    unfold unhexL
    rw [unhexL_odd t (by simp only [List.length_cons] at h; omega)]
    cases hexVal a <;> cases hexVal b <;> rfl
theorem unhex_bad {t : Str} (h : (40000 : Int) < (t.length : Int) ∨ ¬ ((t.length % 2 : Nat) : Int) = 0) : unhex t = ([], false) := by
  rcases h with h | h
  · unfold unhex
    rw [if_pos (by omega)]
  · exact unhex_none (unhexL_odd t (by omega))
theorem hexAcc_nil (s : Str) : hexAcc s [] = hexB s := by rw [hexAcc_app]; rfl
theorem hexP_no {s : Str} (h : ¬ (20000 : Int) < (s.length : Int)) : hexP s = (hexB s, true) := by unfold hexP; rw [if_neg h]
theorem hexP_yes {s : Str} (h : (20000 : Int) < (s.length : Int)) : hexP s = ([], false) := by unfold hexP; rw [if_pos h]
theorem hexFig_lo {k : Nat} (h : k < 10) : (hexFig k).toNat = 48 + k := by
  unfold hexFig
  rw [if_pos h, UInt8.toNat_ofNat_of_lt' (by show _ < 256; omega)]
theorem hexFig_hi {k : Nat} (h : ¬ k < 10) (h2 : k < 16) : (hexFig k).toNat = 87 + k := by
  unfold hexFig
  rw [if_neg h, UInt8.toNat_ofNat_of_lt' (by show _ < 256; omega)]
theorem hexV_a {c : UInt8} (h1 : 48 ≤ c.toNat) (h2 : c.toNat ≤ 57) : hexV c = (c.toNat : Int) - 48 := by
  unfold hexV hexVal
  rw [if_pos ⟨h1, h2⟩]
  simp only
  omega
theorem hexV_b {c : UInt8} (h1 : 97 ≤ c.toNat) (h2 : c.toNat ≤ 102) : hexV c = (c.toNat : Int) - 97 + 10 := by
  unfold hexV hexVal
  rw [if_neg (by omega), if_pos ⟨h1, h2⟩]
  simp only
  omega
theorem hexV_c {c : UInt8} (h1 : c.toNat < 48 ∨ 57 < c.toNat) (h2 : c.toNat < 97 ∨ 102 < c.toNat) : hexV c = -1 := by
  unfold hexV hexVal
  rw [if_neg (by omega), if_neg (by omega)]
end Go.Proofs.YtjncpgcccgdeiaaGreatDoor

set_option linter.unusedSimpArgs false
set_option linter.unusedVariables false
set_option linter.unnecessarySimpa false
namespace Go.Proofs.YtjncpgcccgdeiaaGreatDoor
open Go Go.RowKit

@[reducible] def rB (a : Option Addr) (c : Nat) (l : Str) : Res := .row (.slice a l.length c) 5 1 l.length (l.map encB)
theorem wr8u {x : Int} {c : UInt8} (h : 0 ≤ x ∧ x < 256) (hc : c = UInt8.ofNat x.toNat) : IntKind.u8.wrap x = ((c.toNat : Nat) : Int) := by
  subst hc
  refine wr8 ⟨?_, by omega, by omega⟩
  rw [UInt8.toNat_ofNat_of_lt' (by show _ < 256; omega)]
  omega
section
variable {P : Program} {ops : Array Oper} {Q : Exit → Act → World → Prop} {n : Nat} {w0 w : World} {D : List Nat} {L : List Res} {e : Env}
variable {d : Option Tmp} {ty : TypeId} {pos : String} {aft : Array Edge} {gd : Option (Nat × Bool)}
/-- A text's bytes, copied into a row of their own. -/
theorem JO.toBytes {src dst : TypeId} {x : Operand} {s : Str} (hs : P.underlying src = some .string) (hd : P.underlying dst = some (.slice TB)) (he : P.underlying TB = some (.int .u8)) (hx : rd n e x = str s) (hm : s.length ≤ maxLen) :
    JO P n w0 D L e ⟨d, .convert src dst x, ty, pos, aft, gd⟩ (fun u L' => ∃ a c, u = .slice a s.length c ∧ L' = .row (.slice a s.length c) TB 1 s.length (s.map encB) :: L) := JO.ofRun fun w hw => by
  have hsz : (ByteArray.mk s.toArray).size = s.length := size_mk s
  have hrun := Lib.run_convert_string_bytes (P := P) w src dst TB ⟨s.toArray⟩ hs hd he
  have hge := grownCap_ge w s.length 0 TB
  have hle := grownCap_le_maxLen w s.length 0 TB hm
  have hcs : (Lib.bytesCells w TB ⟨s.toArray⟩).size = grownCap w s.length 0 TB := by
    unfold Lib.bytesCells
    rw [hsz]
    simp
    omega
  have hcl : (Lib.bytesCells w TB ⟨s.toArray⟩).toList.take s.length = s.map encB := by
    unfold Lib.bytesCells
    simp only [Array.toList_append, Array.toList_map]
    rw [List.take_append_of_le_length (by simp), List.take_of_length_le (by simp)]
  refine ⟨_, .row (.slice (some ⟨w.heap.size, 0, none⟩) s.length (grownCap w s.length 0 TB)) TB 1 s.length (s.map encB) :: L, Lib.bytesWorld w TB ⟨s.toArray⟩, ?_, ⟨_, _, rfl, rfl⟩, ?_⟩
  · simp only [execOp, hx, str, Sem.run_bind, hrun, Result.andThen_ok, hsz]
    rfl
  · refine hw.turn (A := []) (A' := [.row (.slice (some ⟨w.heap.size, 0, none⟩) s.length (grownCap w s.length 0 TB)) TB 1 s.length (s.map encB)]) (F := L) (List.Perm.refl _) rfl rfl rfl (by rw [Lib.bytesWorld_size]; omega)
      (fun k hk _ => Lib.bytesWorld_at_old w _ _ k hk) ?_ (by simp [idsOf, Res.ids, Value.ownBlock]) ?_
    · intro r hr
      simp only [List.mem_singleton] at hr
      subst hr
      refine ⟨by simp, .inr ⟨w.heap.size, _, _, rfl, Nat.zero_le _, ⟨_, Lib.bytesWorld_at_new w TB ⟨s.toArray⟩, .inr ⟨Nat.le_refl _, rfl⟩⟩, hge, hle, by rw [hcs, Nat.mul_one]; exact Nat.le_refl _, by rw [Nat.mul_one]; exact hcl⟩⟩
    · intro i hi
      simp only [idsOf, Res.ids, Value.ownBlock, List.flatMap_cons, List.flatMap_nil, List.append_nil, Option.mem_toList, Option.some.injEq] at hi
      exact .inr (by omega)
end

theorem N_hexEnc (a : Option Addr) (c : Nat) (l : Str) (hl : l.length ≤ 1000000000000) : Ct Tryz.prog 148 [.slice a l.length c] [] (fun w => Sees w (.slice a l.length c) 1 l.length (l.map encB)) (fun v A' => v = str (hexB l) ∧ A' = []) := fun w hA hs => by
  obtain ⟨hlen, hs⟩ := hs
  rcases hs with ⟨hv, h0⟩ | ⟨b, o, cap, hv, h1, h2, h3, h4⟩
  · have hl0 : l = [] := List.length_eq_zero_iff.1 h0
    subst hl0
    simp only [Value.slice.injEq] at hv
    obtain ⟨rfl, _, rfl⟩ := hv
    refine (Tryz.hex_EncodeToString_nil w).mono fun e w' h => ?_
    obtain ⟨rfl, hb⟩ := h
    exact ⟨_, [], rfl, ⟨rfl, rfl⟩, hA.below hb⟩
  · simp only [Value.slice.injEq] at hv
    obtain ⟨rfl, _, rfl⟩ := hv
    refine (Tryz.hex_EncodeToString_bytes b o c l w (fun i hi => ?_) h3 (by omega)).mono fun e w' h => ?_
    · exact h4 i _ (by rw [List.getElem?_map, List.getElem?_eq_getElem hi]; rfl)
    · obtain ⟨rfl, hb⟩ := h
      exact ⟨_, [], rfl, ⟨by rw [encode_hexB]; rfl, rfl⟩, hA.below hb⟩
/-- What DecodeString hands back. -/
def decPost (t : Str) (v : Value) (A' : List Res) : Prop := ∃ a c, ∃ r : Str, ((Lib.Hx.decode t = (r, .ok) ∧ v = .tuple #[.slice a r.length c, .nilIface]) ∨ ((∀ r, Lib.Hx.decode t ≠ (r, .ok)) ∧ ∃ te pe, v = .tuple #[.slice a r.length c, .iface te pe])) ∧ A' = [rB a c r]
theorem N_hexDec (t : Str) (ht : t.length ≤ 1000000000000) : Ct Tryz.prog 147 [str t] [] (fun w => HexOk w) (fun v A' => decPost t v A') := fun w hA hx => by
  obtain ⟨tp, p, hE⟩ := hx.cell
  have hl : (ByteArray.mk t.toArray).data.toList = t := by simp
  refine (Tryz.hex_DecodeString_owns ⟨t.toArray⟩ w _ hE (by rw [size_mk]; omega)).mono fun e w' h => ?_
  rw [hl] at h
  obtain ⟨v, rfl, hown, hb⟩ := h
  generalize hd : Lib.Hx.decode t = q at hown
  obtain ⟨r, o⟩ := q
  simp only at hown
  have hvs : ∃ a c, v = .slice a r.length c := by
    rcases hown.2 with ⟨hv, h0⟩ | ⟨g, cap, cur, hv, _⟩
    · exact ⟨none, 0, by rw [hv, h0]⟩
    · exact ⟨_, _, hv⟩
  obtain ⟨a, c, rfl⟩ := hvs
  have hst : St w (idsOf []) [rB a c r] w' := by
    refine (St.start hA).turn (A := []) (A' := [rB a c r]) (F := []) (List.Perm.refl _) hb.os hb.tape hb.output hb.size (fun k hk _ => hb.block k hk) ?_ ?_ ?_
    · intro x hx'
      simp only [List.mem_singleton] at hx'
      subst hx'
      have h1 := World.ownsR.of hown
      refine ⟨h1.1, ?_⟩
      rcases h1.2 with h | ⟨g, cap, cur, hv, _, rest⟩
      · exact .inl h
      · exact .inr ⟨g, cap, cur, hv, Nat.zero_le _, rest⟩
    · simp only [idsOf, Res.ids, List.flatMap_cons, List.flatMap_nil, List.append_nil]
      cases (Value.slice a r.length c).ownBlock <;> simp
    · intro i hi
      simp only [idsOf, Res.ids, List.flatMap_cons, List.flatMap_nil, List.append_nil, Option.mem_toList] at hi
      exact .inr (World.ownsRow.lt hown i hi).1
  refine ⟨_, _, rfl, ⟨a, c, r, ?_, rfl⟩, hst⟩
  cases o with
  | ok => exact .inl ⟨hd, rfl⟩
  | bad q => exact .inr ⟨fun r' h => by rw [hd] at h; simp at h, _, _, rfl⟩
  | odd => exact .inr ⟨fun r' h => by rw [hd] at h; simp at h, _, _, rfl⟩
end Go.Proofs.YtjncpgcccgdeiaaGreatDoor

set_option linter.unusedSimpArgs false
set_option linter.unusedVariables false
set_option linter.unnecessarySimpa false
namespace Go.Proofs.YtjncpgcccgdeiaaGreatDoor
open Go Go.RowKit

theorem C_itoa (n : Int) (h0 : -9223372036854775808 ≤ n) (h1 : n ≤ 9223372036854775807) : Ct Tryz.prog 83 [.int .i64 n] [] (fun _ => True) (fun v A' => v = str (dec n) ∧ A' = []) := fun w hA _ => by
  refine (Tryz.strconv_Itoa n h0 h1 w hA.glob.1).mono fun e w' h => ?_
  obtain ⟨rfl, k, os, rfl⟩ := h
  exact ⟨_, [], rfl, ⟨rfl, rfl⟩, hA.below (below_grow w k os)⟩

/-- What Atoi says. -/
def atoiPost (t : Str) (v : Value) : Prop := (∃ n, Lib.atoiAll t = .ok n ∧ v = .tuple #[.int .i64 n, .nilIface]) ∨ ((∀ n, Lib.atoiAll t ≠ .ok n) ∧ ∃ n te pe, v = .tuple #[.int .i64 n, .iface te pe])
theorem C_atoi (t : Str) (ht : t.length ≤ 281474976710656) : Ct Tryz.prog 145 [str t] [] (fun _ => True) (fun v A' => atoiPost t v ∧ A' = []) := fun w hA _ => by
  have hs : (ByteArray.mk t.toArray).size = t.length := size_mk t
  have hl : (ByteArray.mk t.toArray).data.toList = t := by simp
  obtain ⟨tp, p, hv1⟩ := hA.glob.two
  obtain ⟨tp', p', hv2⟩ := hA.glob.three
  rcases hat : Lib.atoiAll t with n | _ | _
  · skip
    refine (Tryz.strconv_Atoi_ok ⟨t.toArray⟩ (by rw [hs]; omega) n (by rw [hl]; exact hat) w).mono fun e w' h => ?_
    obtain ⟨rfl, h⟩ := h
    have hb : Below w.heap.size w w' := by
      rcases h with rfl | ⟨q, rfl⟩
      · exact Below.refl _ _
      · exact ⟨rfl, rfl, rfl, by rw [Lib.bytesWorld_size]; omega, fun k hk => Lib.bytesWorld_at_old w _ _ k hk⟩
    exact ⟨_, [], rfl, ⟨.inl ⟨n, hat, rfl⟩, rfl⟩, hA.below hb⟩
  · skip
    refine (Any.strconv_Atoi_syntax_var Tryz.laysC172 ⟨t.toArray⟩ (by rw [hs]; omega) (by rw [hl]; exact hat) tp p w hv1).mono fun e w' h => ?_
    obtain ⟨N, rfl, _, _, hb⟩ := h
    exact ⟨_, [], rfl, ⟨.inr ⟨fun n hn => by rw [hat] at hn; simp at hn, _, _, _, rfl⟩, rfl⟩, hA.below hb⟩
  · skip
    refine (Tryz.strconv_Atoi_range_var ⟨t.toArray⟩ (by rw [hs]; omega) (by rw [hl]; exact hat) tp' p' w hv2).mono fun e w' h => ?_
    obtain ⟨N, rfl, _, _, hb⟩ := h
    exact ⟨_, [], rfl, ⟨.inr ⟨fun n hn => by rw [hat] at hn; simp at hn, _, _, _, rfl⟩, rfl⟩, hA.below hb⟩
end Go.Proofs.YtjncpgcccgdeiaaGreatDoor

set_option linter.unusedSimpArgs false
set_option linter.unusedVariables false
set_option linter.unnecessarySimpa false
namespace Go.Proofs.YtjncpgcccgdeiaaGreatDoor
open Go Go.RowKit
attribute [local irreducible] JL JC JQ JO LO PO JA JX Ct

theorem C_within (n lo hi : Int) :
    Ct Tryz.prog 76 [.int .i64 n, .int .i64 lo, .int .i64 hi] [] (fun _ => True) (fun v A' => v = .bool (decide (lo ≤ n) && decide (n ≤ hi)) ∧ A' = []) := by
  refine Ct.intro Tryz.func76 rfl Tryz.ntmps76 (lb rfl) fun w0 hpre => ?_
  refine jC <| jF <| jA (jG (v := .bool false) rfl) <| jE <| jB <| jC <| jF <| jA (jD (v := iv n) rfl) <| jA (jD (v := iv lo) rfl) <| jA (PO.geq rfl rfl) ?_
  refine jA (jD (v := .bool (decide (lo ≤ n))) rfl) ?_
  by_cases h_1 : lo ≤ n
  · refine jM rfl rfl rfl (cB (dT h_1)) (jP (jU (jD (v := iv n) rfl))) ?_
    rintro _ _ ⟨rfl, rfl⟩
    refine jM rfl rfl rfl (cB (dT h_1)) (jP (jU (jD (v := iv hi) rfl))) ?_
    rintro _ _ ⟨rfl, rfl⟩
    refine jM rfl rfl rfl (cB (dT h_1)) (jP (jU (PO.leq rfl rfl))) ?_
    rintro _ _ ⟨rfl, rfl⟩
    refine jA (jh (v := .bool (decide (n ≤ hi))) (cB (dT h_1)) rfl) <| jA (jG (v := .bool (decide (n ≤ hi))) rfl) <| jE <| jB <| jN <| jV (.inl rfl) rfl (jJ (v := .bool (decide (n ≤ hi))) rfl) (List.nil_sublist _) ?_
    refine ⟨?_, rfl⟩
    simp_all <;> omega
  refine jS (b := false) rfl rfl rfl (cB (dF h_1)) <| jS (b := false) rfl rfl rfl (cB (dF h_1)) <| jS (b := false) rfl rfl rfl (cB (dF h_1)) <| jA (ji (v := .bool false) (cB (dF h_1)) rfl) <| jA (jG (v := .bool false) rfl) <| jE <| jB <| jN <| jV (.inl rfl) rfl (jJ (v := .bool false) rfl) (List.nil_sublist _) ?_
  refine ⟨?_, rfl⟩
  simp_all <;> omega

theorem C_keyOk (key : Str) (hk : key.length ≤ 1000000000000) :
    Ct Tryz.prog 78 [str key] [] (fun _ => True) (fun v A' => v = .bool (keyOk key) ∧ A' = []) := by
  refine Ct.intro Tryz.func78 rfl Tryz.ntmps78 (lb rfl) fun w0 hpre => ?_
  refine jC <| jF <| jA (jG (v := .bool false) rfl) <| jE <| jB <| jC <| jC <| jF <| jA (jD (v := str key) rfl) <| jA (kF kg rfl) ?_
  refine jA (jD (v := iv 0) rfl) <| jE <| jB <| jf <| kD (fun k_ e_ L_ => ∃ j : Nat, (j ≤ key.length) ∧ (∀ i, i < j → i < key.length → keyByte (key.getD i 0) = true) ∧ e_ 0 = str key ∧ e_ 5 = iv (key.length : Int) ∧ e_ 6 = nv j ∧ L_ = [] ∧ k_ = key.length - j) _ ⟨0, by omega, (fun i hi => absurd hi (Nat.not_lt_zero i)), rfl, rfl, rfl, rfl, rfl⟩ ?_
  rintro _ e_1 _ ⟨j, hj, hN, he_2, he_3, he_4, rfl, rfl⟩
  refine jC <| jF <| jA (jl he_4 he_3) <| jE <| jB <| jC ?_
  by_cases h_5 : ((j : Nat) : Int) < (key.length : Int)
  · refine jW (cB (dT h_5)) <| jT <| jB <| jC <| jf <| jC <| jF <| jA (jD (v := nv j) he_4) <| jA (jG (v := nv j) rfl) <| jE ?_
    refine jB <| jC <| jF <| jA (jD (v := str key) he_2) <| jA (jD (v := nv j) rfl) <| jA (PO.indexS (i := j) (c := key.getD j 0) kg rfl rfl (getD_some (by omega))) ?_
    have hu_6 := UInt8.toNat_lt (key.getD j 0)
    refine jA (jl rfl rfl) <| jA (jD (v := .bool (decide (((key.getD j 0).toNat : Int) < 33))) rfl) ?_
    by_cases h_7 : ((key.getD j 0).toNat : Int) < 33
    · refine jS (b := true) rfl rfl rfl (cB (dT h_7)) <| jS (b := true) rfl rfl rfl (cB (dT h_7)) <| jS (b := true) rfl rfl rfl (cB (dT h_7)) <| jS (b := true) rfl rfl rfl (cB (dT h_7)) <| jA (jh (v := .bool true) (cB (dT h_7)) rfl) <| jA (jD (v := .bool true) rfl) <| jS (b := true) rfl rfl rfl (cB rfl) <| jS (b := true) rfl rfl rfl (cB rfl) <| jS (b := true) rfl rfl rfl (cB rfl) <| jS (b := true) rfl rfl rfl (cB rfl) ?_
      refine jA (jh (v := .bool true) (cB rfl) rfl) <| jE <| jB <| jW (cB rfl) <| jC <| jF <| jA (jG (v := .bool false) rfl) <| jE <| jB <| jN ?_
      refine jv <| jX <| jX <| jv <| jX <| jV (.inl rfl) rfl (jJ (v := .bool false) rfl) (List.nil_sublist _) ?_
      refine ⟨?_, rfl⟩
      rw [keyOk_bad (j := j) (by omega) (by simp only [keyByte, Bool.and_eq_true, Bool.and_eq_false_iff, decide_eq_true_eq, decide_eq_false_iff_not, Bool.not_eq_true', Bool.not_eq_false']; omega)]
    refine jM rfl rfl rfl (cB (dF h_7)) (jP (jU (jD (v := str key) he_2))) ?_
    rintro _ _ ⟨rfl, rfl⟩
    refine jM rfl rfl rfl (cB (dF h_7)) (jP (jU (jD (v := nv j) rfl))) ?_
    rintro _ _ ⟨rfl, rfl⟩
    refine jM rfl rfl rfl (cB (dF h_7)) (jP (jU (PO.indexS (i := j) (c := key.getD j 0) kg rfl rfl (getD_some (by omega))))) ?_
    rintro _ _ ⟨rfl, rfl⟩
    have hu_8 := UInt8.toNat_lt (key.getD j 0)
    refine jM rfl rfl rfl (cB (dF h_7)) (jP (jU (kR rfl rfl))) ?_
    rintro _ _ ⟨rfl, rfl⟩
    refine jA (ji (v := .bool (decide (126 < ((key.getD j 0).toNat : Int)))) (cB (dF h_7)) rfl) <| jA (jD (v := .bool (decide (126 < ((key.getD j 0).toNat : Int)))) rfl) ?_
    by_cases h_9 : 126 < ((key.getD j 0).toNat : Int)
    · refine jS (b := true) rfl rfl rfl (cB (dT h_9)) <| jS (b := true) rfl rfl rfl (cB (dT h_9)) <| jS (b := true) rfl rfl rfl (cB (dT h_9)) <| jS (b := true) rfl rfl rfl (cB (dT h_9)) <| jA (jh (v := .bool true) (cB (dT h_9)) rfl) <| jE <| jB <| jW (cB rfl) <| jC <| jF ?_
      refine jA (jG (v := .bool false) rfl) <| jE <| jB <| jN <| jv <| jX <| jX <| jv <| jX <| jV (.inl rfl) rfl (jJ (v := .bool false) rfl) (List.nil_sublist _) ?_
      refine ⟨?_, rfl⟩
      rw [keyOk_bad (j := j) (by omega) (by simp only [keyByte, Bool.and_eq_true, Bool.and_eq_false_iff, decide_eq_true_eq, decide_eq_false_iff_not, Bool.not_eq_true', Bool.not_eq_false']; omega)]
    refine jM rfl rfl rfl (cB (dF h_9)) (jP (jU (jD (v := str key) he_2))) ?_
    rintro _ _ ⟨rfl, rfl⟩
    refine jM rfl rfl rfl (cB (dF h_9)) (jP (jU (jD (v := nv j) rfl))) ?_
    rintro _ _ ⟨rfl, rfl⟩
    refine jM rfl rfl rfl (cB (dF h_9)) (jP (jU (PO.indexS (i := j) (c := key.getD j 0) kg rfl rfl (getD_some (by omega))))) ?_
    rintro _ _ ⟨rfl, rfl⟩
    have hu_10 := UInt8.toNat_lt (key.getD j 0)
    refine jM rfl rfl rfl (cB (dF h_9)) (jP (jU (kO rfl rfl))) ?_
    rintro _ _ ⟨rfl, rfl⟩
    refine jA (ji (v := .bool (decide (((key.getD j 0).toNat : Int) = 42))) (cB (dF h_9)) rfl) <| jE <| jB ?_
    by_cases h_11 : ((key.getD j 0).toNat : Int) = 42
    · refine jW (cB (dT h_11)) <| jC <| jF <| jA (jG (v := .bool false) rfl) <| jE <| jB <| jN <| jv <| jX <| jX ?_
      refine jv <| jX <| jV (.inl rfl) rfl (jJ (v := .bool false) rfl) (List.nil_sublist _) ?_
      refine ⟨?_, rfl⟩
      rw [keyOk_bad (j := j) (by omega) (by simp only [keyByte, Bool.and_eq_true, Bool.and_eq_false_iff, decide_eq_true_eq, decide_eq_false_iff_not, Bool.not_eq_true', Bool.not_eq_false']; omega)]
    refine jR (cB (dF h_11)) <| jT <| jm <| jB <| jF <| jA (jc (c := ((j + 1 : Nat) : Int)) he_4 rfl (wr (by omega))) <| jA (jD (v := iv ((j + 1 : Nat) : Int)) rfl) <| jE ?_
    refine jq (key.length - (j + 1)) (by omega) ⟨j + 1, by omega, (fun i hi hl => if h : i = j then h ▸ (by simp only [keyByte, Bool.and_eq_true, Bool.and_eq_false_iff, decide_eq_true_eq, decide_eq_false_iff_not, Bool.not_eq_true', Bool.not_eq_false']; omega : keyByte (key.getD j 0) = true) else hN i (by omega) hl), he_2, he_3, rfl, rfl, rfl⟩
  refine jR (cB (dF h_5)) <| jx <| jb <| jb <| jy <| jB <| jC <| jF <| jA (jD (v := str key) he_2) <| jA (kF kg rfl) ?_
  refine jH rfl (jI [] Tryz.call76 rfl (C_within (key.length : Int) 1 40) rfl (fun _ _ => trivial)) ?_
  rintro _ _ ⟨_, ⟨rfl, rfl⟩, rfl⟩
  refine jA (jG (v := .bool (decide (1 ≤ (key.length : Int)) && decide ((key.length : Int) ≤ 40))) rfl) <| jE <| jB <| jN <| jV (.inl rfl) rfl (jJ (v := .bool (decide (1 ≤ (key.length : Int)) && decide ((key.length : Int) ≤ 40))) rfl) (List.nil_sublist _) ?_
  refine ⟨?_, rfl⟩
  rw [keyOk_good (j := j) (by omega) hN]
  exact cB (by congr 1 <;> exact decide_eq_decide.2 (by omega))

theorem C_put1 (kb : Nat) (key : Str) (x : Cell) :
    Ct Tryz.prog 125 [.agg #[str x.1, str x.2], .pointer (some ⟨kb, 0, none⟩)] [bk kb 9 [str key]] (fun _ => True) (fun v A' => v = .bool (decide (x.1 = key)) ∧ A' = [bk kb 9 [str key]]) := by
  refine Ct.intro Tryz.func125 rfl Tryz.ntmps125 (lb rfl) fun w0 hpre => ?_
  refine jC <| jF ?_
  refine jH rfl (kG (cs := [str x.1, str x.2]) rfl rfl) ?_
  rintro _ _ ⟨b_1, rfl, rfl⟩
  refine jA (jG (v := .bool false) rfl) <| jE <| jB <| jC <| jF <| jA (jQ fo48_0 rfl) <| jK (jZ 0 (v := str x.1) rfl rfl ki rfl) <| jK (jZ 1 (v := str key) rfl rfl ki rfl) <| jA (PO.eqlS rfl rfl) <| jA (jG (v := .bool (decide (x.1 = key))) rfl) ?_
  refine jE <| jB <| jN <| kM (pick_perm [1] (A := [bk kb 9 [str key]]) (F := [bk b_1 48 [str x.1, str x.2]]) rfl).symm <| jV (.inl rfl) rfl (jJ (v := .bool (decide (x.1 = key))) rfl) (sL [bk kb 9 [str key]] [bk b_1 48 [str x.1, str x.2]]) ?_
  exact ⟨rfl, rfl⟩

theorem C_put2 (kb : Nat) (key : Str) (x : Cell) :
    Ct Tryz.prog 127 [.agg #[str x.1, str x.2], .pointer (some ⟨kb, 0, none⟩)] [bk kb 9 [str key]] (fun _ => True) (fun v A' => v = .bool (gtrB x.1 key) ∧ A' = [bk kb 9 [str key]]) := by
  refine Ct.intro Tryz.func127 rfl Tryz.ntmps127 (lb rfl) fun w0 hpre => ?_
  refine jC <| jF ?_
  refine jH rfl (kG (cs := [str x.1, str x.2]) rfl rfl) ?_
  rintro _ _ ⟨b_1, rfl, rfl⟩
  refine jA (jG (v := .bool false) rfl) <| jE <| jB <| jC <| jF <| jA (jQ fo48_0 rfl) <| jK (jZ 0 (v := str x.1) rfl rfl ki rfl) <| jK (jZ 1 (v := str key) rfl rfl ki rfl) <| jA (PO.gtrS rfl rfl) <| jA (jG (v := .bool (!Op.bytesLess x.1 key && !decide (x.1 = key))) rfl) ?_
  refine jE <| jB <| jN <| kM (pick_perm [1] (A := [bk kb 9 [str key]]) (F := [bk b_1 48 [str x.1, str x.2]]) rfl).symm <| jV (.inl rfl) rfl (jJ (v := .bool (!Op.bytesLess x.1 key && !decide (x.1 = key))) rfl) (sL [bk kb 9 [str key]] [bk b_1 48 [str x.1, str x.2]]) ?_
  exact ⟨rfl, rfl⟩


theorem C_put (a : Option Addr) (c : Nat) (s : List Cell) (key val : Str) (hn : s.length ≤ 100000000000) (hk : key.length ≤ 1000000000000) :
    Ct Tryz.prog 86 [.slice a s.length c, str key, str val] [Res.row (.slice a s.length c) 48 2 s.length (s.flatMap encC)] (fun _ => True) (fun v A' => ∃ a' c', v = .slice a' (putKey s key val).length c' ∧ A' = [.row (.slice a' (putKey s key val).length c') 48 2 (putKey s key val).length ((putKey s key val).flatMap encC)]) := by
  refine Ct.intro Tryz.func86 rfl Tryz.ntmps86 (lb rfl) fun w0 hpre => ?_
  refine jC <| jF ?_
  refine jH rfl (kG (cs := [str key]) rfl rfl) ?_
  rintro _ _ ⟨b_1, rfl, rfl⟩
  refine jA (jG (v := .slice none 0 0) rfl) <| jE <| jB <| jC <| jC <| jF <| jK (jZ 0 (v := str key) rfl rfl ki rfl) ?_
  refine jH rfl (jI [] Tryz.call78 rfl (C_keyOk key (by omega)) rfl (fun _ _ => trivial)) ?_
  rintro _ _ ⟨_, ⟨rfl, rfl⟩, rfl⟩
  refine jA (jp rfl) <| jA (jD (v := .bool (!(keyOk key))) rfl) ?_
  rcases Bool.eq_false_or_eq_true (keyOk key) with h_2 | h_2
  · refine jM rfl rfl rfl (cB (cN h_2)) (jP (jU (jD (v := str val) rfl))) ?_
    rintro _ _ ⟨rfl, rfl⟩
    refine jM rfl rfl rfl (cB (cN h_2)) (jP (jU (kF kg rfl))) ?_
    rintro _ _ ⟨rfl, rfl⟩
    refine jM rfl rfl rfl (cB (cN h_2)) (jP (jU (kR rfl rfl))) ?_
    rintro _ _ ⟨rfl, rfl⟩
    refine jA (ji (v := .bool (decide (60 < (val.length : Int)))) (cB (cN h_2)) rfl) <| jE <| jB ?_
    by_cases h_3 : 60 < (val.length : Int)
    · refine jW (cB (dT h_3)) <| jC <| jF <| jA (jD (v := .slice a s.length c) rfl) <| jA (jG (v := .slice a s.length c) rfl) <| jE <| jB <| jN <| jX <| kM (pick_perm [1] (A := [Res.row (.slice a s.length c) 48 2 s.length (s.flatMap encC)]) (F := [bk b_1 9 [str key]]) rfl).symm ?_
      refine jV (.inl rfl) rfl (jJ (v := .slice a s.length c) rfl) (sL [Res.row (.slice a s.length c) 48 2 s.length (s.flatMap encC)] [bk b_1 9 [str key]]) ?_
      have he := (putKey_bad2 (by omega) : putKey s key val = _)
      exact ⟨_, _, by rw [he], by rw [he] <;> rfl⟩
    refine jR (cB (dF h_3)) <| jT <| jB <| jC <| jF <| jA (jD (v := .slice a s.length c) rfl) <| jA (PO.makeFunc (fv := []) (cv := [.pointer (some ⟨b_1, 0, none⟩)]) rfl rfl) ?_
    refine jH rfl (jI [0, 0] Tryz.call124 rfl (C_delC 125 Tryz.call125 b_1 key (fun q_ => decide (q_.1 = key)) (C_put1 b_1 key) a c s (by omega)) rfl (fun _ _ => trivial)) ?_
    rintro _ _ ⟨_, ⟨a_4, c_5, rfl, rfl⟩, rfl⟩
    have hfi5 : (s.filter (fun c => !decide (c.1 = key))).length ≤ s.length := List.length_filter_le _ _
    refine jA (jG (v := .slice a_4 ((s.filter (fun c => !decide (c.1 = key))).length) c_5) rfl) <| jE <| jB <| jC <| jC <| jF <| jA (jD (v := str val) rfl) <| jA (PO.eqlS rfl rfl) <| jE <| jB ?_
    by_cases h_6 : val = []
    · refine jW (cB (dT h_6)) <| jC <| jF <| jA (jD (v := .slice a_4 ((s.filter (fun c => !decide (c.1 = key))).length) c_5) rfl) <| jA (jG (v := .slice a_4 ((s.filter (fun c => !decide (c.1 = key))).length) c_5) rfl) <| jE <| jB <| jN <| jX <| kM (pick_perm [1] (A := [Res.row (.slice a_4 ((s.filter (fun c => !decide (c.1 = key))).length) c_5) 48 2 ((s.filter (fun c => !decide (c.1 = key))).length) ((s.filter (fun c => !decide (c.1 = key))).flatMap encC)]) (F := [bk b_1 9 [str key]]) rfl).symm ?_
      refine jV (.inl rfl) rfl (jJ (v := .slice a_4 ((s.filter (fun c => !decide (c.1 = key))).length) c_5) rfl) (sL [Res.row (.slice a_4 ((s.filter (fun c => !decide (c.1 = key))).length) c_5) 48 2 ((s.filter (fun c => !decide (c.1 = key))).length) ((s.filter (fun c => !decide (c.1 = key))).flatMap encC)] [bk b_1 9 [str key]]) ?_
      have he := (putKey_nil h_2 (by omega) h_6 : putKey s key val = _)
      exact ⟨_, _, by rw [he], by rw [he] <;> rfl⟩
    refine jR (cB (dF h_6)) <| jT <| jB <| jC <| jF <| jA (jD (v := .slice a_4 ((s.filter (fun c => !decide (c.1 = key))).length) c_5) rfl) <| jA (PO.makeFunc (fv := []) (cv := [.pointer (some ⟨b_1, 0, none⟩)]) rfl rfl) ?_
    refine jH rfl (jI [0] Tryz.call126 rfl (C_idxC 127 Tryz.call127 b_1 key (fun q_ => gtrB q_.1 key) (C_put2 b_1 key) a_4 c_5 (s.filter (fun c => !decide (c.1 = key))) (by omega)) rfl (fun w hw => ⟨hw.see (i := 1) rfl, hw.apartO 1 0 rfl rfl rfl⟩)) ?_
    rintro _ _ ⟨_, ⟨rfl, rfl⟩, rfl⟩
    have hix6 := idxI_lo (fun q_ => gtrB q_.1 key) (s.filter (fun c => !decide (c.1 = key)))
    have hfl6 := findAt_le (fun q_ => gtrB q_.1 key) (s.filter (fun c => !decide (c.1 = key)))
    refine jA (jG (v := iv (idxI (fun q_ => gtrB q_.1 key) (s.filter (fun c => !decide (c.1 = key))))) rfl) <| jE <| jB <| jC <| jC <| jF <| jA (jD (v := iv (idxI (fun q_ => gtrB q_.1 key) (s.filter (fun c => !decide (c.1 = key))))) rfl) <| jA (jl rfl rfl) <| jE <| jB ?_
    by_cases h_7 : (idxI (fun q_ => gtrB q_.1 key) (s.filter (fun c => !decide (c.1 = key)))) < 0
    · have hx_8l : findAt (fun q_ => gtrB q_.1 key) (s.filter (fun c => !decide (c.1 = key))) = (s.filter (fun c => !decide (c.1 = key))).length := by omega
      refine jW (cB (dT h_7)) <| jF <| jA (jD (v := .slice a_4 ((s.filter (fun c => !decide (c.1 = key))).length) c_5) rfl) <| jA (jr kf rfl) <| jA (jG (v := iv (((s.filter (fun c => !decide (c.1 = key))).length : Nat) : Int)) rfl) <| jE <| jB <| jC <| jF <| jA (jD (v := .slice a_4 ((s.filter (fun c => !decide (c.1 = key))).length) c_5) rfl) ?_
      refine jA (jD (v := iv (((s.filter (fun c => !decide (c.1 = key))).length : Nat) : Int)) rfl) <| jK (jZ 0 (v := str key) rfl rfl ki rfl) <| jA (jD (v := str val) rfl) <| jA (kW (ps := [(0, str key), (1, str val)]) (cs := [str key, str val]) rfl (by kernel_rfl)) ?_
      refine jH rfl (kH (ps := [(0, .agg #[str key, str val])]) (cur := #[str key, str val]) kf kh kw rfl (by kernel_rfl) (by decide) (by decide)) ?_
      rintro _ _ ⟨a_9, rfl, rfl⟩
      refine jH rfl (jI [2, 0] Tryz.call128 rfl (C_insC a_4 a_9 c_5 (s.filter (fun c => !decide (c.1 = key))) ((s.filter (fun c => !decide (c.1 = key))).length) (key, val) (by omega) (by omega) (by rw [lenC])) rfl (fun _ _ => trivial)) ?_
      rintro _ _ ⟨_, ⟨a_10, c_11, rfl, rfl⟩, rfl⟩
      refine jA (jG (v := .slice a_10 ((insertAt ((s.filter (fun c => !decide (c.1 = key))).length) (key, val) (s.filter (fun c => !decide (c.1 = key)))).length) c_11) rfl) <| jE <| jB <| jN <| jV (.inl rfl) rfl (jJ (v := .slice a_10 ((insertAt ((s.filter (fun c => !decide (c.1 = key))).length) (key, val) (s.filter (fun c => !decide (c.1 = key)))).length) c_11) rfl) (sL [Res.row (.slice a_10 ((insertAt ((s.filter (fun c => !decide (c.1 = key))).length) (key, val) (s.filter (fun c => !decide (c.1 = key)))).length) c_11) 48 2 ((insertAt ((s.filter (fun c => !decide (c.1 = key))).length) (key, val) (s.filter (fun c => !decide (c.1 = key)))).length) ((insertAt ((s.filter (fun c => !decide (c.1 = key))).length) (key, val) (s.filter (fun c => !decide (c.1 = key)))).flatMap encC)] [bk b_1 9 [str key]]) ?_
      have he := (putKey_ins h_2 (by omega) h_6 : putKey s key val = _)
      exact ⟨_, _, by rw [he, hx_8l], by rw [he, hx_8l] <;> rfl⟩
    have hx_12l : findAt (fun q_ => gtrB q_.1 key) (s.filter (fun c => !decide (c.1 = key))) < (s.filter (fun c => !decide (c.1 = key))).length := by omega
    have hx_12e : idxI (fun q_ => gtrB q_.1 key) (s.filter (fun c => !decide (c.1 = key))) = ((findAt (fun q_ => gtrB q_.1 key) (s.filter (fun c => !decide (c.1 = key))) : Nat) : Int) := by omega
    refine jR (cB (dF h_7)) <| jT <| jB <| jC <| jF <| jA (jD (v := .slice a_4 ((s.filter (fun c => !decide (c.1 = key))).length) c_5) rfl) <| jA (jD (v := iv ((findAt (fun q_ => gtrB q_.1 key) (s.filter (fun c => !decide (c.1 = key))) : Nat) : Int)) (congrArg (Value.int .i64) hx_12e)) <| jK (jZ 0 (v := str key) rfl rfl ki rfl) <| jA (jD (v := str val) rfl) <| jA (kW (ps := [(0, str key), (1, str val)]) (cs := [str key, str val]) rfl (by kernel_rfl)) ?_
    refine jH rfl (kH (ps := [(0, .agg #[str key, str val])]) (cur := #[str key, str val]) kf kh kw rfl (by kernel_rfl) (by decide) (by decide)) ?_
    rintro _ _ ⟨a_13, rfl, rfl⟩
    refine jH rfl (jI [2, 0] Tryz.call128 rfl (C_insC a_4 a_13 c_5 (s.filter (fun c => !decide (c.1 = key))) (findAt (fun q_ => gtrB q_.1 key) (s.filter (fun c => !decide (c.1 = key)))) (key, val) (by omega) (by omega) (by rw [lenC])) rfl (fun _ _ => trivial)) ?_
    rintro _ _ ⟨_, ⟨a_14, c_15, rfl, rfl⟩, rfl⟩
    refine jA (jG (v := .slice a_14 ((insertAt (findAt (fun q_ => gtrB q_.1 key) (s.filter (fun c => !decide (c.1 = key)))) (key, val) (s.filter (fun c => !decide (c.1 = key)))).length) c_15) rfl) <| jE <| jB <| jN <| jV (.inl rfl) rfl (jJ (v := .slice a_14 ((insertAt (findAt (fun q_ => gtrB q_.1 key) (s.filter (fun c => !decide (c.1 = key)))) (key, val) (s.filter (fun c => !decide (c.1 = key)))).length) c_15) rfl) (sL [Res.row (.slice a_14 ((insertAt (findAt (fun q_ => gtrB q_.1 key) (s.filter (fun c => !decide (c.1 = key)))) (key, val) (s.filter (fun c => !decide (c.1 = key)))).length) c_15) 48 2 ((insertAt (findAt (fun q_ => gtrB q_.1 key) (s.filter (fun c => !decide (c.1 = key)))) (key, val) (s.filter (fun c => !decide (c.1 = key)))).length) ((insertAt (findAt (fun q_ => gtrB q_.1 key) (s.filter (fun c => !decide (c.1 = key)))) (key, val) (s.filter (fun c => !decide (c.1 = key)))).flatMap encC)] [bk b_1 9 [str key]]) ?_
    have he := (putKey_ins h_2 (by omega) h_6 : putKey s key val = _)
    exact ⟨_, _, by rw [he], by rw [he] <;> rfl⟩
  refine jS (b := true) rfl rfl rfl (cB (cN h_2)) <| jS (b := true) rfl rfl rfl (cB (cN h_2)) <| jS (b := true) rfl rfl rfl (cB (cN h_2)) <| jA (jh (v := .bool true) (cB (cN h_2)) rfl) <| jE <| jB <| jW (cB rfl) <| jC <| jF <| jA (jD (v := .slice a s.length c) rfl) ?_
  refine jA (jG (v := .slice a s.length c) rfl) <| jE <| jB <| jN <| jX <| kM (pick_perm [1] (A := [Res.row (.slice a s.length c) 48 2 s.length (s.flatMap encC)]) (F := [bk b_1 9 [str key]]) rfl).symm <| jV (.inl rfl) rfl (jJ (v := .slice a s.length c) rfl) (sL [Res.row (.slice a s.length c) 48 2 s.length (s.flatMap encC)] [bk b_1 9 [str key]]) ?_
  have he := (putKey_bad1 h_2 : putKey s key val = _)
  exact ⟨_, _, by rw [he], by rw [he] <;> rfl⟩

end Go.Proofs.YtjncpgcccgdeiaaGreatDoor

set_option linter.unusedSimpArgs false
set_option linter.unusedVariables false
set_option linter.unnecessarySimpa false
namespace Go.Proofs.YtjncpgcccgdeiaaGreatDoor
open Go Go.RowKit
attribute [local irreducible] JL JC JQ JO LO PO JA JX Ct





theorem C_decimal (n : Int) (h0 : -9223372036854775808 ≤ n) (h1 : n ≤ 9223372036854775807) :
    Ct Tryz.prog 29 [.int .i64 n] [] (fun _ => True) (fun v A' => v = str (dec n) ∧ A' = []) := by
  refine Ct.intro Tryz.func29 rfl Tryz.ntmps29 (lb rfl) fun w0 hpre => ?_
  refine jC <| jF <| jA (jG (v := str []) rfl) <| jE <| jB <| jC <| jF <| jA (jD (v := iv n) rfl) ?_
  refine jH rfl (jI [] Tryz.call83 rfl (C_itoa n (by omega) (by omega)) rfl (fun _ _ => trivial)) ?_
  rintro _ _ ⟨_, ⟨rfl, rfl⟩, rfl⟩
  refine jA (jG (v := str (dec n)) rfl) <| jE <| jB <| jN <| jV (.inl rfl) rfl (jJ (v := str (dec n)) rfl) (List.nil_sublist _) ?_
  exact ⟨rfl, rfl⟩

theorem C_readDecimal (t : Str) (ht : t.length ≤ 281474976710656) :
    Ct Tryz.prog 113 [str t] [] (fun _ => True) (fun v A' => v = .tuple #[.int .i64 (readDec t).1, .bool (readDec t).2] ∧ A' = []) := by
  refine Ct.intro Tryz.func113 rfl Tryz.ntmps113 (lb rfl) fun w0 hpre => ?_
  refine jC <| jF <| jA (jG (v := iv 0) rfl) <| jA (jG (v := .bool false) rfl) <| jE <| jB <| jC <| jF <| jA (jD (v := str t) rfl) ?_
  refine jH rfl (jI [] Tryz.call145 rfl (C_atoi t (by omega)) rfl (fun _ _ => trivial)) ?_
  rintro _ _ ⟨_, ⟨⟨n_, hat, rfl⟩ | ⟨hat, n_, te, pe, rfl⟩, rfl⟩, rfl⟩
  · refine jA (jD (v := .tuple #[iv n_, .nilIface]) rfl) <| jA (je (v := iv n_) rfl rfl) <| jA (je (v := .nilIface) rfl rfl) <| jA (jG (v := iv n_) rfl) <| jA (jG (v := .nilIface) rfl) <| jE <| jB <| jC <| jC <| jF ?_
    refine jA (jD (v := .nilIface) rfl) <| jA (PO.neqIfN Tryz.underlying95 rfl rfl) <| jA (jD (v := .bool false) rfl) <| jM rfl rfl rfl (cB rfl) (jP (jU (jD (v := iv n_) rfl))) ?_
    rintro _ _ ⟨rfl, rfl⟩
    refine jM rfl rfl rfl (cB rfl) (jI [] Tryz.call76 rfl (C_within n_ 0 1000000000) rfl (fun _ _ => trivial)) ?_
    rintro _ _ ⟨_, ⟨rfl, rfl⟩, rfl⟩
    refine jM rfl rfl rfl (cB rfl) (jP (jU (jp rfl))) ?_
    rintro _ _ ⟨rfl, rfl⟩
    refine jA (ji (v := .bool (!(decide (0 ≤ n_) && decide (n_ ≤ 1000000000)))) (cB rfl) rfl) <| jA (jD (v := .bool (!(decide (0 ≤ n_) && decide (n_ ≤ 1000000000)))) rfl) ?_
    rcases Bool.eq_false_or_eq_true (decide (0 ≤ n_) && decide (n_ ≤ 1000000000)) with h_1 | h_1
    · have h_1d := h_1
      simp only [Bool.and_eq_true, Bool.and_eq_false_iff, decide_eq_true_eq, decide_eq_false_iff_not] at h_1d
      refine jM rfl rfl rfl (cB (cN h_1)) (jP (jU (jD (v := iv n_) rfl))) ?_
      rintro _ _ ⟨rfl, rfl⟩
      refine jM rfl rfl rfl (cB (cN h_1)) (jI [] Tryz.call29 rfl (C_decimal n_ (by omega) (by omega)) rfl (fun _ _ => trivial)) ?_
      rintro _ _ ⟨_, ⟨rfl, rfl⟩, rfl⟩
      refine jM rfl rfl rfl (cB (cN h_1)) (jP (jU (jD (v := str t) rfl))) ?_
      rintro _ _ ⟨rfl, rfl⟩
      refine jM rfl rfl rfl (cB (cN h_1)) (jP (jU (PO.neqS rfl rfl))) ?_
      rintro _ _ ⟨rfl, rfl⟩
      refine jA (ji (v := .bool (!(decide ((dec n_) = t)))) (cB (cN h_1)) rfl) <| jE <| jB ?_
      by_cases h_2 : (dec n_) = t
      · refine jR (cB (cN (dT h_2))) <| jT <| jB <| jC <| jF <| jA (jD (v := iv n_) rfl) <| jA (jG (v := iv n_) rfl) <| jA (jG (v := .bool true) rfl) <| jE <| jB ?_
        refine jN <| kC (.inl rfl) rfl (jJ (v := iv n_) rfl) (jJ (v := .bool true) rfl) (List.nil_sublist _) ?_
        refine ⟨?_, rfl⟩
        rw [readDec_ok hat, if_pos (by refine ⟨?_, ?_, ?_⟩ <;> first | omega | simp_all)]
      refine jW (cB (cN (dF h_2))) <| jC <| jF <| jA (jG (v := iv 0) rfl) <| jA (jG (v := .bool false) rfl) <| jE <| jB <| jN <| jX <| kC (.inl rfl) rfl (jJ (v := iv 0) rfl) (jJ (v := .bool false) rfl) (List.nil_sublist _) ?_
      refine ⟨?_, rfl⟩
      rw [readDec_ok hat, if_neg (fun h => by simp_all <;> omega)]
    have h_1d := h_1
    simp only [Bool.and_eq_true, Bool.and_eq_false_iff, decide_eq_true_eq, decide_eq_false_iff_not] at h_1d
    refine jS (b := true) rfl rfl rfl (cB (cN h_1)) <| jS (b := true) rfl rfl rfl (cB (cN h_1)) <| jS (b := true) rfl rfl rfl (cB (cN h_1)) <| jS (b := true) rfl rfl rfl (cB (cN h_1)) <| jA (jh (v := .bool true) (cB (cN h_1)) rfl) <| jE <| jB <| jW (cB rfl) <| jC <| jF ?_
    refine jA (jG (v := iv 0) rfl) <| jA (jG (v := .bool false) rfl) <| jE <| jB <| jN <| jX <| kC (.inl rfl) rfl (jJ (v := iv 0) rfl) (jJ (v := .bool false) rfl) (List.nil_sublist _) ?_
    refine ⟨?_, rfl⟩
    rw [readDec_ok hat, if_neg (fun h => by simp_all <;> omega)]
  refine jA (jD (v := .tuple #[iv n_, .iface te pe]) rfl) <| jA (je (v := iv n_) rfl rfl) <| jA (je (v := .iface te pe) rfl rfl) <| jA (jG (v := iv n_) rfl) <| jA (jG (v := .iface te pe) rfl) <| jE <| jB <| jC <| jC <| jF ?_
  refine jA (jD (v := .iface te pe) rfl) <| jA (PO.neqIfS Tryz.underlying95 rfl rfl) <| jA (jD (v := .bool true) rfl) <| jS (b := true) rfl rfl rfl (cB rfl) <| jS (b := true) rfl rfl rfl (cB rfl) <| jS (b := true) rfl rfl rfl (cB rfl) <| jA (jh (v := .bool true) (cB rfl) rfl) <| jA (jD (v := .bool true) rfl) <| jS (b := true) rfl rfl rfl (cB rfl) <| jS (b := true) rfl rfl rfl (cB rfl) ?_
  refine jS (b := true) rfl rfl rfl (cB rfl) <| jS (b := true) rfl rfl rfl (cB rfl) <| jA (jh (v := .bool true) (cB rfl) rfl) <| jE <| jB <| jW (cB rfl) <| jC <| jF <| jA (jG (v := iv 0) rfl) <| jA (jG (v := .bool false) rfl) ?_
  refine jE <| jB <| jN <| jX <| kC (.inl rfl) rfl (jJ (v := iv 0) rfl) (jJ (v := .bool false) rfl) (List.nil_sublist _) ?_
  rw [readDec_err hat]
  exact ⟨rfl, rfl⟩





end Go.Proofs.YtjncpgcccgdeiaaGreatDoor

set_option linter.unusedSimpArgs false
set_option linter.unusedVariables false
set_option linter.unnecessarySimpa false
namespace Go.Proofs.YtjncpgcccgdeiaaGreatDoor
open Go Go.RowKit
attribute [local irreducible] JL JC JQ JO LO PO JA JX Ct

theorem C_l01In (n lo hi : Int) :
    Ct Tryz.prog 89 [.int .i64 n, .int .i64 lo, .int .i64 hi] [] (fun _ => True) (fun v A' => v = .bool (decide (lo ≤ n) && decide (n ≤ hi)) ∧ A' = []) := by
  refine Ct.intro Tryz.func89 rfl Tryz.ntmps89 (lb rfl) fun w0 hpre => ?_
  refine jC <| jF <| jA (jG (v := .bool false) rfl) <| jE <| jB <| jC <| jF <| jA (jD (v := iv n) rfl) <| jA (jD (v := iv lo) rfl) <| jA (PO.geq rfl rfl) ?_
  refine jA (jD (v := .bool (decide (lo ≤ n))) rfl) ?_
  by_cases h_1 : lo ≤ n
  · refine jM rfl rfl rfl (cB (dT h_1)) (jP (jU (jD (v := iv n) rfl))) ?_
    rintro _ _ ⟨rfl, rfl⟩
    refine jM rfl rfl rfl (cB (dT h_1)) (jP (jU (jD (v := iv hi) rfl))) ?_
    rintro _ _ ⟨rfl, rfl⟩
    refine jM rfl rfl rfl (cB (dT h_1)) (jP (jU (PO.leq rfl rfl))) ?_
    rintro _ _ ⟨rfl, rfl⟩
    refine jA (jh (v := .bool (decide (n ≤ hi))) (cB (dT h_1)) rfl) <| jA (jG (v := .bool (decide (n ≤ hi))) rfl) <| jE <| jB <| jN <| jV (.inl rfl) rfl (jJ (v := .bool (decide (n ≤ hi))) rfl) (List.nil_sublist _) ?_
    refine ⟨?_, rfl⟩
    simp_all <;> omega
  refine jS (b := false) rfl rfl rfl (cB (dF h_1)) <| jS (b := false) rfl rfl rfl (cB (dF h_1)) <| jS (b := false) rfl rfl rfl (cB (dF h_1)) <| jA (ji (v := .bool false) (cB (dF h_1)) rfl) <| jA (jG (v := .bool false) rfl) <| jE <| jB <| jN <| jV (.inl rfl) rfl (jJ (v := .bool false) rfl) (List.nil_sublist _) ?_
  refine ⟨?_, rfl⟩
  simp_all <;> omega

theorem C_sKeyOk (key : Str) (hk : key.length ≤ 1000000000000) :
    Ct Tryz.prog 92 [str key] [] (fun _ => True) (fun v A' => v = .bool (keyOk key) ∧ A' = []) := by
  refine Ct.intro Tryz.func92 rfl Tryz.ntmps92 (lb rfl) fun w0 hpre => ?_
  refine jC <| jF <| jA (jG (v := .bool false) rfl) <| jE <| jB <| jC <| jC <| jF <| jA (jG (v := iv 0) rfl) <| jE ?_
  refine jB <| jf <| kD (fun k_ e_ L_ => ∃ j : Nat, (j ≤ key.length) ∧ (∀ i, i < j → i < key.length → keyByte (key.getD i 0) = true) ∧ e_ 0 = str key ∧ e_ 3 = nv j ∧ L_ = [] ∧ k_ = key.length - j) _ ⟨0, by omega, (fun i hi => absurd hi (Nat.not_lt_zero i)), rfl, rfl, rfl, rfl⟩ ?_
  rintro _ e_1 _ ⟨j, hj, hN, he_2, he_3, rfl, rfl⟩
  refine jC <| jC <| jF <| jA (jD (v := nv j) he_3) <| jA (jD (v := str key) he_2) <| jA (kF kg rfl) <| jA (jl rfl rfl) <| jE <| jB ?_
  by_cases h_4 : ((j : Nat) : Int) < (key.length : Int)
  · refine jW (cB (dT h_4)) <| jT <| jB <| jC <| jf <| jC <| jF <| jA (jD (v := str key) he_2) <| jA (jD (v := nv j) he_3) <| jA (PO.indexS (i := j) (c := key.getD j 0) kg rfl rfl (getD_some (by omega))) ?_
    have hu_5 := UInt8.toNat_lt (key.getD j 0)
    refine jA (PO.convI (c := ((key.getD j 0).toNat : Int)) kv gC rfl (wr (by omega))) ?_
    refine jH rfl (jI [] Tryz.call89 rfl (C_l01In ((key.getD j 0).toNat : Int) 33 126) rfl (fun _ _ => trivial)) ?_
    rintro _ _ ⟨_, ⟨rfl, rfl⟩, rfl⟩
    refine jA (jp rfl) <| jA (jD (v := .bool (!(decide (33 ≤ ((key.getD j 0).toNat : Int)) && decide (((key.getD j 0).toNat : Int) ≤ 126)))) rfl) ?_
    rcases Bool.eq_false_or_eq_true (decide (33 ≤ ((key.getD j 0).toNat : Int)) && decide (((key.getD j 0).toNat : Int) ≤ 126)) with h_6 | h_6
    · have h_6d := h_6
      simp only [Bool.and_eq_true, Bool.and_eq_false_iff, decide_eq_true_eq, decide_eq_false_iff_not] at h_6d
      refine jM rfl rfl rfl (cB (cN h_6)) (jP (jU (jD (v := str key) he_2))) ?_
      rintro _ _ ⟨rfl, rfl⟩
      refine jM rfl rfl rfl (cB (cN h_6)) (jP (jU (jD (v := nv j) he_3))) ?_
      rintro _ _ ⟨rfl, rfl⟩
      refine jM rfl rfl rfl (cB (cN h_6)) (jP (jU (PO.indexS (i := j) (c := key.getD j 0) kg rfl rfl (getD_some (by omega))))) ?_
      rintro _ _ ⟨rfl, rfl⟩
      have hu_7 := UInt8.toNat_lt (key.getD j 0)
      refine jM rfl rfl rfl (cB (cN h_6)) (jP (jU (kO rfl rfl))) ?_
      rintro _ _ ⟨rfl, rfl⟩
      refine jA (ji (v := .bool (decide (((key.getD j 0).toNat : Int) = 42))) (cB (cN h_6)) rfl) <| jE <| jB ?_
      by_cases h_8 : ((key.getD j 0).toNat : Int) = 42
      · refine jW (cB (dT h_8)) <| jC <| jF <| jA (jG (v := .bool false) rfl) <| jE <| jB <| jN <| jv <| jX <| jX ?_
        refine jv <| jX <| jV (.inl rfl) rfl (jJ (v := .bool false) rfl) (List.nil_sublist _) ?_
        refine ⟨?_, rfl⟩
        rw [keyOk_bad (j := j) (by omega) (by simp only [keyByte, Bool.and_eq_true, Bool.and_eq_false_iff, decide_eq_true_eq, decide_eq_false_iff_not, Bool.not_eq_true', Bool.not_eq_false']; omega)]
      refine jR (cB (dF h_8)) <| jT <| jm <| jB <| jF <| jA (jD (v := nv j) he_3) <| jA (jc (c := ((j + 1 : Nat) : Int)) rfl rfl (wr (by omega))) <| jA (jG (v := iv ((j + 1 : Nat) : Int)) rfl) <| jE ?_
      refine jq (key.length - (j + 1)) (by omega) ⟨j + 1, by omega, (fun i hi hl => if h : i = j then h ▸ (by simp only [keyByte, Bool.and_eq_true, Bool.and_eq_false_iff, decide_eq_true_eq, decide_eq_false_iff_not, Bool.not_eq_true', Bool.not_eq_false']; omega : keyByte (key.getD j 0) = true) else hN i (by omega) hl), he_2, rfl, rfl, rfl⟩
    have h_6d := h_6
    simp only [Bool.and_eq_true, Bool.and_eq_false_iff, decide_eq_true_eq, decide_eq_false_iff_not] at h_6d
    refine jS (b := true) rfl rfl rfl (cB (cN h_6)) <| jS (b := true) rfl rfl rfl (cB (cN h_6)) <| jS (b := true) rfl rfl rfl (cB (cN h_6)) <| jS (b := true) rfl rfl rfl (cB (cN h_6)) <| jA (jh (v := .bool true) (cB (cN h_6)) rfl) <| jE <| jB <| jW (cB rfl) <| jC <| jF ?_
    refine jA (jG (v := .bool false) rfl) <| jE <| jB <| jN <| jv <| jX <| jX <| jv <| jX <| jV (.inl rfl) rfl (jJ (v := .bool false) rfl) (List.nil_sublist _) ?_
    refine ⟨?_, rfl⟩
    rw [keyOk_bad (j := j) (by omega) (by simp only [keyByte, Bool.and_eq_true, Bool.and_eq_false_iff, decide_eq_true_eq, decide_eq_false_iff_not, Bool.not_eq_true', Bool.not_eq_false']; omega)]
  refine jR (cB (dF h_4)) <| jx <| jb <| jb <| jy <| jB <| jC <| jF <| jA (jD (v := str key) he_2) <| jA (kF kg rfl) ?_
  refine jH rfl (jI [] Tryz.call89 rfl (C_l01In (key.length : Int) 1 40) rfl (fun _ _ => trivial)) ?_
  rintro _ _ ⟨_, ⟨rfl, rfl⟩, rfl⟩
  refine jA (jG (v := .bool (decide (1 ≤ (key.length : Int)) && decide ((key.length : Int) ≤ 40))) rfl) <| jE <| jB <| jN <| jV (.inl rfl) rfl (jJ (v := .bool (decide (1 ≤ (key.length : Int)) && decide ((key.length : Int) ≤ 40))) rfl) (List.nil_sublist _) ?_
  refine ⟨?_, rfl⟩
  rw [keyOk_good (j := j) (by omega) hN]
  exact cB (by congr 1 <;> exact decide_eq_decide.2 (by omega))


theorem C_sPutKey (a : Option Addr) (c : Nat) (s : List Cell) (key val : Str) (hn : s.length ≤ 100000000000) (hk_ : key.length ≤ 1000000000000) :
    Ct Tryz.prog 134 [.slice a s.length c, str key, str val] [] (fun w_ => Sees w_ (.slice a s.length c) 2 s.length (s.flatMap encC)) (fun v A' => ∃ a' c', v = .slice a' (putKey s key val).length c' ∧ A' = [.row (.slice a' (putKey s key val).length c') 48 2 (putKey s key val).length ((putKey s key val).flatMap encC)]) := by
  refine Ct.intro Tryz.func134 rfl Tryz.ntmps134 (lb rfl) fun w0 hpre => ?_
  have hs_a : Sees w0 _ _ _ _ := hpre
  refine jC <| jF <| jA (jG (v := .slice none 0 0) rfl) <| jE <| jB <| jC <| jF ?_
  refine jH rfl (kH (ps := []) (cur := #[]) kf kh kw rfl (by kernel_rfl) (by decide) (by decide)) ?_
  rintro _ _ ⟨a_1, rfl, rfl⟩
  refine jA (jG (v := .slice a_1 0 0) rfl) <| jE <| jB <| jC <| jC <| jF <| jA (jD (v := str key) rfl) ?_
  refine jH rfl (jI [] Tryz.call92 rfl (C_sKeyOk key (by omega)) rfl (fun _ _ => trivial)) ?_
  rintro _ _ ⟨_, ⟨rfl, rfl⟩, rfl⟩
  refine jA (jp rfl) <| jA (jD (v := .bool (!(keyOk key))) rfl) ?_
  rcases Bool.eq_false_or_eq_true (keyOk key) with h_2 | h_2
  · have hkey := h_2
    refine jM rfl rfl rfl (cB (cN h_2)) (jP (jU (jD (v := str val) rfl))) ?_
    rintro _ _ ⟨rfl, rfl⟩
    refine jM rfl rfl rfl (cB (cN h_2)) (jP (jU (kF kg rfl))) ?_
    rintro _ _ ⟨rfl, rfl⟩
    refine jM rfl rfl rfl (cB (cN h_2)) (jP (jU (kR rfl rfl))) ?_
    rintro _ _ ⟨rfl, rfl⟩
    refine jA (ji (v := .bool (decide (60 < (val.length : Int)))) (cB (cN h_2)) rfl) <| jE <| jB ?_
    by_cases h_3 : 60 < (val.length : Int)
    · refine jW (cB (dT h_3)) <| jC <| jF <| jA (jD (v := .slice a_1 0 0) rfl) <| jA (jD (v := .slice a s.length c) rfl) ?_
      refine jH rfl (kU 0 (q := s.length) (news := s.flatMap encC) (n' := s.length) (cs' := s.flatMap encC) rfl kf kf ky rfl (by' := 32) rfl rfl rfl rfl rfl (fun w hw => Src.sees (hw.seeOut_ hs_a nM) (oneC _)) (by (try simp only [LE]); omega) (by (try simp only [LE]); omega) (by (try simp only [List.length_take, List.length_drop]); first | rfl | omega) rfl) ?_
      rintro _ _ ⟨a_4, c_5, rfl, rfl⟩
      refine jA (jG (v := .slice a_4 s.length c_5) rfl) <| jE <| jB <| jN <| jX <| jV (.inl rfl) rfl (jJ (v := .slice a_4 s.length c_5) rfl) (List.Sublist.refl _) ?_
      have he := (putKey_bad2 (by omega) : putKey s key val = _)
      exact ⟨_, _, by rw [he] <;> rfl, by rw [he] <;> rfl⟩
    refine jR (cB (dF h_3)) <| jT <| jB <| jC <| jF <| jA (jD (v := str val) rfl) <| jA (PO.eqlS rfl rfl) <| jA (jG (v := .bool (decide (val = []))) rfl) <| jE <| jB ?_
    refine jC <| jC <| jF <| jA (jG (v := iv 0) rfl) <| jE <| jB <| jf <| kD (fun k_ e_ L_ => ∃ j : Nat, ∃ xa : Option Addr, ∃ xc : Nat, ∃ o_ : List Cell, ∃ done : Bool, (j ≤ s.length) ∧ (o_.length ≤ 2 * j) ∧ (o_ ++ putL key val done (s.drop j) = putKey s key val) ∧ e_ 0 = .slice a s.length c ∧ e_ 1 = str key ∧ e_ 2 = str val ∧ e_ 6 = .slice none 0 0 ∧ e_ 7 = .slice xa o_.length xc ∧ e_ 8 = .bool done ∧ e_ 9 = nv j ∧ L_ = [Res.row (.slice xa o_.length xc) 48 2 o_.length (o_.flatMap encC)] ∧ k_ = s.length - j) _ ⟨0, a_1, 0, [], (decide (val = [])), by omega, (by simp), (putL_put hkey (by omega)), rfl, rfl, rfl, rfl, rfl, rfl, rfl, rfl, rfl⟩ ?_
    rintro _ e_6 _ ⟨j, xa, xc, o_, done, hj, hl, hR, he_7, he_8, he_9, he_10, he_11, he_12, he_13, rfl, rfl⟩
    refine jC <| jC <| jF <| jA (jD (v := nv j) he_13) <| jA (jD (v := .slice a s.length c) he_7) <| jA (jr kf rfl) <| jA (jl rfl rfl) <| jE <| jB ?_
    by_cases h_14 : ((j : Nat) : Int) < ((s.length : Nat) : Int)
    · have hlt : j < s.length := by omega
      refine jW (cB (dT h_14)) <| jT <| jB <| jC <| jf <| jC <| jC <| jF <| jA (jD (v := .bool done) he_12) <| jA (jp rfl) ?_
      refine jA (jD (v := .bool (!done)) rfl) ?_
      rcases Bool.eq_false_or_eq_true (done) with h_15 | h_15
      · have hd := h_15
        refine jS (b := false) rfl rfl rfl (cB (cN h_15)) <| jS (b := false) rfl rfl rfl (cB (cN h_15)) <| jS (b := false) rfl rfl rfl (cB (cN h_15)) <| jS (b := false) rfl rfl rfl (cB (cN h_15)) <| jS (b := false) rfl rfl rfl (cB (cN h_15)) <| jS (b := false) rfl rfl rfl (cB (cN h_15)) <| jS (b := false) rfl rfl rfl (cB (cN h_15)) <| jA (ji (v := .bool false) (cB (cN h_15)) rfl) <| jE <| jB ?_
        refine jR (cB rfl) <| jT <| jB <| jC <| jF <| jA (jD (v := .slice a s.length c) he_7) <| jA (jD (v := nv j) he_13) ?_
        obtain ⟨hr_16, hr_16b, -⟩ := sees_some hs_a (by omega)
        refine jA (jk (i := j) kf kh hr_16 hr_16b rfl rfl (by omega)) <| jA (kL fo48_0 hr_16 rfl) <| jK (kY (v := str ((s.getD j c0).1)) hs_a nM rfl ki (atC1 (by omega))) <| jA (jD (v := str key) he_8) <| jA (PO.neqS rfl rfl) <| jE <| jB ?_
        by_cases h_17 : ((s.getD j c0).1) = key
        · have hk := h_17
          refine jR (cB (cN (dT h_17))) <| jT <| jm <| jB <| jF <| jA (jD (v := nv j) he_13) <| jA (jc (c := ((j + 1 : Nat) : Int)) rfl rfl (wr (by omega))) <| jA (jG (v := iv ((j + 1 : Nat) : Int)) rfl) <| jE <| kB [0] (A := [Res.row (.slice xa o_.length xc) 48 2 o_.length (o_.flatMap encC)]) rfl ?_
          refine jq (s.length - (j + 1)) (by omega) ⟨j + 1, xa, xc, o_, done, by omega, (by (try simp only [List.length_append, List.length_cons, List.length_nil]); omega), (by rw [putL_step hlt] at hR; simp only [hd, hk, Bool.not_true, Bool.not_false, Bool.true_and, Bool.false_and, Bool.or_true, Bool.true_or, Bool.or_false, Bool.false_or, if_true, if_false, Bool.false_eq_true, List.nil_append, List.append_nil, List.append_assoc] at hR ⊢; exact hR), he_7, he_8, he_9, he_10, he_11, he_12, rfl, rfl, rfl⟩
        have hk := h_17
        refine jW (cB (cN (dF h_17))) <| jF <| jA (jD (v := .slice xa o_.length xc) he_11) <| jA (jD (v := .slice a s.length c) he_7) <| jA (jD (v := nv j) he_13) <| jA (jk (i := j) kf kh hr_16 hr_16b rfl rfl (by omega)) <| jK (kX (vs := [str ((s.getD j c0).1), str ((s.getD j c0).2)]) hs_a nM rfl gG kh (atC (by omega)) rfl (by decide)) ?_
        refine jH rfl (kH (ps := [(0, .agg #[str ((s.getD j c0).1), str ((s.getD j c0).2)])]) (cur := #[str ((s.getD j c0).1), str ((s.getD j c0).2)]) kf kh kw rfl (by kernel_rfl) (by decide) (by decide)) ?_
        rintro _ _ ⟨a_18, rfl, rfl⟩
        refine jH rfl (kU 1 (q := 1) (news := ([((s.getD j c0).1, (s.getD j c0).2)] : List Cell).flatMap encC) (n' := (o_ ++ ([((s.getD j c0).1, (s.getD j c0).2)] : List Cell)).length) (cs' := (o_ ++ ([((s.getD j c0).1, (s.getD j c0).2)] : List Cell)).flatMap encC) rfl kf kf ky rfl (by' := 32) rfl rfl rfl rfl rfl (fun w hw => Src.sees (hw.see (i := 0) rfl) (oneC _)) (by (try simp only [LE]); omega) (by (try simp only [LE]); omega) (by simp only [List.length_append, List.length_take, List.length_drop, List.length_cons, List.length_nil] <;> first | rfl | omega) (by simp only [List.flatMap_append])) ?_
        rintro _ _ ⟨a_19, c_20, rfl, rfl⟩
        refine jA (jG (v := .slice a_19 ((o_ ++ ([((s.getD j c0).1, (s.getD j c0).2)] : List Cell)).length) c_20) rfl) <| jE <| jm <| jB <| jF <| jA (jD (v := nv j) he_13) <| jA (jc (c := ((j + 1 : Nat) : Int)) rfl rfl (wr (by omega))) <| jA (jG (v := iv ((j + 1 : Nat) : Int)) rfl) <| jE <| kB [1] (A := [Res.row (.slice a_19 ((o_ ++ ([((s.getD j c0).1, (s.getD j c0).2)] : List Cell)).length) c_20) 48 2 ((o_ ++ ([((s.getD j c0).1, (s.getD j c0).2)] : List Cell)).length) ((o_ ++ ([((s.getD j c0).1, (s.getD j c0).2)] : List Cell)).flatMap encC)]) rfl ?_
        refine jq (s.length - (j + 1)) (by omega) ⟨j + 1, a_19, c_20, (o_ ++ ([((s.getD j c0).1, (s.getD j c0).2)] : List Cell)), done, by omega, (by (try simp only [List.length_append, List.length_cons, List.length_nil]); omega), (by rw [putL_step hlt] at hR; simp only [hd, hk, Bool.not_true, Bool.not_false, Bool.true_and, Bool.false_and, Bool.or_true, Bool.true_or, Bool.or_false, Bool.false_or, if_true, if_false, Bool.false_eq_true, List.nil_append, List.append_nil, List.append_assoc] at hR ⊢; exact hR), he_7, he_8, he_9, he_10, rfl, he_12, rfl, rfl, rfl⟩
      have hd := h_15
      refine jM rfl rfl rfl (cB (cN h_15)) (jP (jU (jD (v := .slice a s.length c) he_7))) ?_
      rintro _ _ ⟨rfl, rfl⟩
      refine jM rfl rfl rfl (cB (cN h_15)) (jP (jU (jD (v := nv j) he_13))) ?_
      rintro _ _ ⟨rfl, rfl⟩
      obtain ⟨hr_21, hr_21b, -⟩ := sees_some hs_a (by omega)
      refine jM rfl rfl rfl (cB (cN h_15)) (jP (jU (jk (i := j) kf kh hr_21 hr_21b rfl rfl (by omega)))) ?_
      rintro _ _ ⟨rfl, rfl⟩
      refine jM rfl rfl rfl (cB (cN h_15)) (jP (jU (kL fo48_0 hr_21 rfl))) ?_
      rintro _ _ ⟨rfl, rfl⟩
      refine jM rfl rfl rfl (cB (cN h_15)) (jP (kY (v := str ((s.getD j c0).1)) hs_a nM rfl ki (atC1 (by omega)))) ?_
      rintro _ _ ⟨rfl, rfl⟩
      refine jM rfl rfl rfl (cB (cN h_15)) (jP (jU (jD (v := str key) he_8))) ?_
      rintro _ _ ⟨rfl, rfl⟩
      refine jM rfl rfl rfl (cB (cN h_15)) (jP (jU (PO.gtrS rfl rfl))) ?_
      rintro _ _ ⟨rfl, rfl⟩
      refine jA (jh (v := .bool (!Op.bytesLess ((s.getD j c0).1) key && !decide (((s.getD j c0).1) = key))) (cB (cN h_15)) rfl) <| jE <| jB ?_
      rcases Bool.eq_false_or_eq_true (!Op.bytesLess ((s.getD j c0).1) key && !decide (((s.getD j c0).1) = key)) with h_22 | h_22
      · have h_22d := h_22
        simp only [Bool.and_eq_true, Bool.and_eq_false_iff, decide_eq_true_eq, decide_eq_false_iff_not] at h_22d
        have hg : gtrB (s.getD j c0).1 key = true := h_22
        refine jW (cB h_22) <| jC <| jF <| jA (jD (v := .slice xa o_.length xc) he_11) <| jA (jD (v := str key) he_8) <| jA (jD (v := str val) he_9) <| jA (kW (ps := [(0, str key), (1, str val)]) (cs := [str key, str val]) rfl (by kernel_rfl)) ?_
        refine jH rfl (kH (ps := [(0, .agg #[str key, str val])]) (cur := #[str key, str val]) kf kh kw rfl (by kernel_rfl) (by decide) (by decide)) ?_
        rintro _ _ ⟨a_23, rfl, rfl⟩
        refine jH rfl (kU 1 (q := 1) (news := ([(key, val)] : List Cell).flatMap encC) (n' := (o_ ++ ([(key, val)] : List Cell)).length) (cs' := (o_ ++ ([(key, val)] : List Cell)).flatMap encC) rfl kf kf ky rfl (by' := 32) rfl rfl rfl rfl rfl (fun w hw => Src.sees (hw.see (i := 0) rfl) (oneC _)) (by (try simp only [LE]); omega) (by (try simp only [LE]); omega) (by simp only [List.length_append, List.length_take, List.length_drop, List.length_cons, List.length_nil] <;> first | rfl | omega) (by simp only [List.flatMap_append])) ?_
        rintro _ _ ⟨a_24, c_25, rfl, rfl⟩
        refine jA (jG (v := .slice a_24 ((o_ ++ ([(key, val)] : List Cell)).length) c_25) rfl) <| jE <| jB <| jF <| jA (jG (v := .bool true) rfl) <| jE <| jB <| jC <| jF <| jA (jD (v := .slice a s.length c) he_7) ?_
        refine jA (jD (v := nv j) he_13) <| jA (jk (i := j) kf kh hr_21 hr_21b rfl rfl (by omega)) <| jA (kL fo48_0 hr_21 rfl) <| jK (kY (v := str ((s.getD j c0).1)) hs_a nM rfl ki (atC1 (by omega))) <| jA (jD (v := str key) he_8) <| jA (PO.neqS rfl rfl) <| jE <| jB ?_
        by_cases h_26 : ((s.getD j c0).1) = key
        · have hk := h_26
          have hg2 : gtrB key key = true := hk ▸ hg
          refine jR (cB (cN (dT h_26))) <| jT <| jm <| jB <| jF <| jA (jD (v := nv j) he_13) <| jA (jc (c := ((j + 1 : Nat) : Int)) rfl rfl (wr (by omega))) <| jA (jG (v := iv ((j + 1 : Nat) : Int)) rfl) <| jE <| kB [1] (A := [Res.row (.slice a_24 ((o_ ++ ([(key, val)] : List Cell)).length) c_25) 48 2 ((o_ ++ ([(key, val)] : List Cell)).length) ((o_ ++ ([(key, val)] : List Cell)).flatMap encC)]) rfl ?_
          refine jq (s.length - (j + 1)) (by omega) ⟨j + 1, a_24, c_25, (o_ ++ ([(key, val)] : List Cell)), true, by omega, (by (try simp only [List.length_append, List.length_cons, List.length_nil]); omega), (by rw [putL_step hlt] at hR; simp only [hd, hg, hg2, hk, Bool.not_true, Bool.not_false, Bool.true_and, Bool.false_and, Bool.or_true, Bool.true_or, Bool.or_false, Bool.false_or, if_true, if_false, Bool.false_eq_true, List.nil_append, List.append_nil, List.append_assoc] at hR ⊢; exact hR), he_7, he_8, he_9, he_10, rfl, rfl, rfl, rfl, rfl⟩
        have hk := h_26
        refine jW (cB (cN (dF h_26))) <| jF <| jA (jD (v := .slice a_24 ((o_ ++ ([(key, val)] : List Cell)).length) c_25) rfl) <| jA (jD (v := .slice a s.length c) he_7) <| jA (jD (v := nv j) he_13) <| jA (jk (i := j) kf kh hr_21 hr_21b rfl rfl (by omega)) <| jK (kX (vs := [str ((s.getD j c0).1), str ((s.getD j c0).2)]) hs_a nM rfl gG kh (atC (by omega)) rfl (by decide)) ?_
        refine jH rfl (kH (ps := [(0, .agg #[str ((s.getD j c0).1), str ((s.getD j c0).2)])]) (cur := #[str ((s.getD j c0).1), str ((s.getD j c0).2)]) kf kh kw rfl (by kernel_rfl) (by decide) (by decide)) ?_
        rintro _ _ ⟨a_27, rfl, rfl⟩
        refine jH rfl (kU 2 (q := 1) (news := ([((s.getD j c0).1, (s.getD j c0).2)] : List Cell).flatMap encC) (n' := ((o_ ++ ([(key, val)] : List Cell)) ++ ([((s.getD j c0).1, (s.getD j c0).2)] : List Cell)).length) (cs' := ((o_ ++ ([(key, val)] : List Cell)) ++ ([((s.getD j c0).1, (s.getD j c0).2)] : List Cell)).flatMap encC) rfl kf kf ky rfl (by' := 32) rfl rfl rfl rfl rfl (fun w hw => Src.sees (hw.see (i := 0) rfl) (oneC _)) (by (try simp only [LE]); omega) (by (try simp only [LE]); omega) (by simp only [List.length_append, List.length_take, List.length_drop, List.length_cons, List.length_nil] <;> first | rfl | omega) (by simp only [List.flatMap_append])) ?_
        rintro _ _ ⟨a_28, c_29, rfl, rfl⟩
        refine jA (jG (v := .slice a_28 (((o_ ++ ([(key, val)] : List Cell)) ++ ([((s.getD j c0).1, (s.getD j c0).2)] : List Cell)).length) c_29) rfl) <| jE <| jm <| jB <| jF <| jA (jD (v := nv j) he_13) <| jA (jc (c := ((j + 1 : Nat) : Int)) rfl rfl (wr (by omega))) <| jA (jG (v := iv ((j + 1 : Nat) : Int)) rfl) <| jE <| kB [2] (A := [Res.row (.slice a_28 (((o_ ++ ([(key, val)] : List Cell)) ++ ([((s.getD j c0).1, (s.getD j c0).2)] : List Cell)).length) c_29) 48 2 (((o_ ++ ([(key, val)] : List Cell)) ++ ([((s.getD j c0).1, (s.getD j c0).2)] : List Cell)).length) (((o_ ++ ([(key, val)] : List Cell)) ++ ([((s.getD j c0).1, (s.getD j c0).2)] : List Cell)).flatMap encC)]) rfl ?_
        refine jq (s.length - (j + 1)) (by omega) ⟨j + 1, a_28, c_29, ((o_ ++ ([(key, val)] : List Cell)) ++ ([((s.getD j c0).1, (s.getD j c0).2)] : List Cell)), true, by omega, (by (try simp only [List.length_append, List.length_cons, List.length_nil]); omega), (by rw [putL_step hlt] at hR; simp only [hd, hg, hk, Bool.not_true, Bool.not_false, Bool.true_and, Bool.false_and, Bool.or_true, Bool.true_or, Bool.or_false, Bool.false_or, if_true, if_false, Bool.false_eq_true, List.nil_append, List.append_nil, List.append_assoc] at hR ⊢; exact hR), he_7, he_8, he_9, he_10, rfl, rfl, rfl, rfl, rfl⟩
      have h_22d := h_22
      simp only [Bool.and_eq_true, Bool.and_eq_false_iff, decide_eq_true_eq, decide_eq_false_iff_not] at h_22d
      have hg : gtrB (s.getD j c0).1 key = false := h_22
      refine jR (cB h_22) <| jT <| jB <| jC <| jF <| jA (jD (v := .slice a s.length c) he_7) <| jA (jD (v := nv j) he_13) <| jA (jk (i := j) kf kh hr_21 hr_21b rfl rfl (by omega)) <| jA (kL fo48_0 hr_21 rfl) <| jK (kY (v := str ((s.getD j c0).1)) hs_a nM rfl ki (atC1 (by omega))) ?_
      refine jA (jD (v := str key) he_8) <| jA (PO.neqS rfl rfl) <| jE <| jB ?_
      by_cases h_30 : ((s.getD j c0).1) = key
      · have hk := h_30
        have hg2 : gtrB key key = false := hk ▸ hg
        refine jR (cB (cN (dT h_30))) <| jT <| jm <| jB <| jF <| jA (jD (v := nv j) he_13) <| jA (jc (c := ((j + 1 : Nat) : Int)) rfl rfl (wr (by omega))) <| jA (jG (v := iv ((j + 1 : Nat) : Int)) rfl) <| jE <| kB [0] (A := [Res.row (.slice xa o_.length xc) 48 2 o_.length (o_.flatMap encC)]) rfl ?_
        refine jq (s.length - (j + 1)) (by omega) ⟨j + 1, xa, xc, o_, done, by omega, (by (try simp only [List.length_append, List.length_cons, List.length_nil]); omega), (by rw [putL_step hlt] at hR; simp only [hd, hg, hg2, hk, Bool.not_true, Bool.not_false, Bool.true_and, Bool.false_and, Bool.or_true, Bool.true_or, Bool.or_false, Bool.false_or, if_true, if_false, Bool.false_eq_true, List.nil_append, List.append_nil, List.append_assoc] at hR ⊢; exact hR), he_7, he_8, he_9, he_10, he_11, he_12, rfl, rfl, rfl⟩
      have hk := h_30
      refine jW (cB (cN (dF h_30))) <| jF <| jA (jD (v := .slice xa o_.length xc) he_11) <| jA (jD (v := .slice a s.length c) he_7) <| jA (jD (v := nv j) he_13) <| jA (jk (i := j) kf kh hr_21 hr_21b rfl rfl (by omega)) <| jK (kX (vs := [str ((s.getD j c0).1), str ((s.getD j c0).2)]) hs_a nM rfl gG kh (atC (by omega)) rfl (by decide)) ?_
      refine jH rfl (kH (ps := [(0, .agg #[str ((s.getD j c0).1), str ((s.getD j c0).2)])]) (cur := #[str ((s.getD j c0).1), str ((s.getD j c0).2)]) kf kh kw rfl (by kernel_rfl) (by decide) (by decide)) ?_
      rintro _ _ ⟨a_31, rfl, rfl⟩
      refine jH rfl (kU 1 (q := 1) (news := ([((s.getD j c0).1, (s.getD j c0).2)] : List Cell).flatMap encC) (n' := (o_ ++ ([((s.getD j c0).1, (s.getD j c0).2)] : List Cell)).length) (cs' := (o_ ++ ([((s.getD j c0).1, (s.getD j c0).2)] : List Cell)).flatMap encC) rfl kf kf ky rfl (by' := 32) rfl rfl rfl rfl rfl (fun w hw => Src.sees (hw.see (i := 0) rfl) (oneC _)) (by (try simp only [LE]); omega) (by (try simp only [LE]); omega) (by simp only [List.length_append, List.length_take, List.length_drop, List.length_cons, List.length_nil] <;> first | rfl | omega) (by simp only [List.flatMap_append])) ?_
      rintro _ _ ⟨a_32, c_33, rfl, rfl⟩
      refine jA (jG (v := .slice a_32 ((o_ ++ ([((s.getD j c0).1, (s.getD j c0).2)] : List Cell)).length) c_33) rfl) <| jE <| jm <| jB <| jF <| jA (jD (v := nv j) he_13) <| jA (jc (c := ((j + 1 : Nat) : Int)) rfl rfl (wr (by omega))) <| jA (jG (v := iv ((j + 1 : Nat) : Int)) rfl) <| jE <| kB [1] (A := [Res.row (.slice a_32 ((o_ ++ ([((s.getD j c0).1, (s.getD j c0).2)] : List Cell)).length) c_33) 48 2 ((o_ ++ ([((s.getD j c0).1, (s.getD j c0).2)] : List Cell)).length) ((o_ ++ ([((s.getD j c0).1, (s.getD j c0).2)] : List Cell)).flatMap encC)]) rfl ?_
      refine jq (s.length - (j + 1)) (by omega) ⟨j + 1, a_32, c_33, (o_ ++ ([((s.getD j c0).1, (s.getD j c0).2)] : List Cell)), done, by omega, (by (try simp only [List.length_append, List.length_cons, List.length_nil]); omega), (by rw [putL_step hlt] at hR; simp only [hd, hg, hk, Bool.not_true, Bool.not_false, Bool.true_and, Bool.false_and, Bool.or_true, Bool.true_or, Bool.or_false, Bool.false_or, if_true, if_false, Bool.false_eq_true, List.nil_append, List.append_nil, List.append_assoc] at hR ⊢; exact hR), he_7, he_8, he_9, he_10, rfl, he_12, rfl, rfl, rfl⟩
    refine jR (cB (dF h_14)) <| jx <| jb <| jb <| jy <| jB <| jC <| jC <| jF <| jA (jD (v := .bool done) he_12) ?_
    refine jA (jp rfl) <| jE <| jB ?_
    rcases Bool.eq_false_or_eq_true (done) with h_34 | h_34
    · have hd := h_34
      refine jR (cB (cN h_34)) <| jT <| jB <| jC <| jF <| jA (jD (v := .slice xa o_.length xc) he_11) <| jA (jG (v := .slice xa o_.length xc) rfl) <| jE <| jB <| jN ?_
      refine jV (.inl rfl) rfl (jJ (v := .slice xa o_.length xc) rfl) (List.Sublist.refl _) ?_
      rw [List.drop_of_length_le (by omega), putL] at hR
      simp only [hd, Bool.not_true, Bool.not_false, Bool.true_and, Bool.false_and, Bool.or_true, Bool.true_or, Bool.or_false, Bool.false_or, if_true, if_false, Bool.false_eq_true, List.nil_append, List.append_nil, List.append_assoc] at hR
      exact ⟨_, _, by rw [← hR] <;> rfl, by rw [← hR] <;> rfl⟩
    have hd := h_34
    refine jW (cB (cN h_34)) <| jF <| jA (jD (v := .slice xa o_.length xc) he_11) <| jA (jD (v := str key) he_8) <| jA (jD (v := str val) he_9) <| jA (kW (ps := [(0, str key), (1, str val)]) (cs := [str key, str val]) rfl (by kernel_rfl)) ?_
    refine jH rfl (kH (ps := [(0, .agg #[str key, str val])]) (cur := #[str key, str val]) kf kh kw rfl (by kernel_rfl) (by decide) (by decide)) ?_
    rintro _ _ ⟨a_35, rfl, rfl⟩
    refine jH rfl (kU 1 (q := 1) (news := ([(key, val)] : List Cell).flatMap encC) (n' := (o_ ++ ([(key, val)] : List Cell)).length) (cs' := (o_ ++ ([(key, val)] : List Cell)).flatMap encC) rfl kf kf ky rfl (by' := 32) rfl rfl rfl rfl rfl (fun w hw => Src.sees (hw.see (i := 0) rfl) (oneC _)) (by (try simp only [LE]); omega) (by (try simp only [LE]); omega) (by simp only [List.length_append, List.length_take, List.length_drop, List.length_cons, List.length_nil] <;> first | rfl | omega) (by simp only [List.flatMap_append])) ?_
    rintro _ _ ⟨a_36, c_37, rfl, rfl⟩
    refine jA (jG (v := .slice a_36 ((o_ ++ ([(key, val)] : List Cell)).length) c_37) rfl) <| jE <| jB <| jC <| jF <| jA (jD (v := .slice a_36 ((o_ ++ ([(key, val)] : List Cell)).length) c_37) rfl) <| jA (jG (v := .slice a_36 ((o_ ++ ([(key, val)] : List Cell)).length) c_37) rfl) <| jE <| jB <| jN ?_
    refine kM (pick_perm [1] (A := [Res.row (.slice a_36 ((o_ ++ ([(key, val)] : List Cell)).length) c_37) 48 2 ((o_ ++ ([(key, val)] : List Cell)).length) ((o_ ++ ([(key, val)] : List Cell)).flatMap encC)]) (F := [Res.row (.slice a_35 1 1) 48 2 1 (([(key, val)] : List Cell).flatMap encC)]) rfl).symm <| jV (.inl rfl) rfl (jJ (v := .slice a_36 ((o_ ++ ([(key, val)] : List Cell)).length) c_37) rfl) (tS 1 _) ?_
    rw [List.drop_of_length_le (by omega), putL] at hR
    simp only [hd, Bool.not_true, Bool.not_false, Bool.true_and, Bool.false_and, Bool.or_true, Bool.true_or, Bool.or_false, Bool.false_or, if_true, if_false, Bool.false_eq_true, List.nil_append, List.append_nil, List.append_assoc] at hR
    exact ⟨_, _, by rw [← hR] <;> rfl, by rw [← hR] <;> rfl⟩
  refine jS (b := true) rfl rfl rfl (cB (cN h_2)) <| jS (b := true) rfl rfl rfl (cB (cN h_2)) <| jS (b := true) rfl rfl rfl (cB (cN h_2)) <| jA (jh (v := .bool true) (cB (cN h_2)) rfl) <| jE <| jB <| jW (cB rfl) <| jC <| jF <| jA (jD (v := .slice a_1 0 0) rfl) ?_
  refine jA (jD (v := .slice a s.length c) rfl) ?_
  refine jH rfl (kU 0 (q := s.length) (news := s.flatMap encC) (n' := s.length) (cs' := s.flatMap encC) rfl kf kf ky rfl (by' := 32) rfl rfl rfl rfl rfl (fun w hw => Src.sees (hw.seeOut_ hs_a nM) (oneC _)) (by (try simp only [LE]); omega) (by (try simp only [LE]); omega) (by (try simp only [List.length_take, List.length_drop]); first | rfl | omega) rfl) ?_
  rintro _ _ ⟨a_38, c_39, rfl, rfl⟩
  refine jA (jG (v := .slice a_38 s.length c_39) rfl) <| jE <| jB <| jN <| jX <| jV (.inl rfl) rfl (jJ (v := .slice a_38 s.length c_39) rfl) (List.Sublist.refl _) ?_
  have he := (putKey_bad1 h_2 : putKey s key val = _)
  exact ⟨_, _, by rw [he] <;> rfl, by rw [he] <;> rfl⟩



theorem C_figure (d : Nat) (hd : d < 10) :
    Ct Tryz.prog 133 [.int .i64 ((d : Nat) : Int)] [] (fun _ => True) (fun v A' => v = .int .u8 ((48 + d : Nat) : Int) ∧ A' = []) := by
  refine Ct.intro Tryz.func133 rfl Tryz.ntmps133 (lb rfl) fun w0 hpre => ?_
  refine jC <| jF <| jA (jG (v := .int .u8 0) rfl) <| jE <| jB <| jC <| jC <| jF <| jA (jD (v := nv d) rfl) <| jA (jl rfl rfl) ?_
  refine jE <| jB ?_
  by_cases h_1 : ((d : Nat) : Int) < 10
  · refine jW (cB (dT h_1)) <| jC <| jF <| jA (jD (v := nv d) rfl) <| jA (jc (c := ((48 + d : Nat) : Int)) rfl rfl (wr (by omega))) <| jA (PO.convI (c := ((48 + d : Nat) : Int)) gC kv rfl (wr8 (by omega))) <| jA (jG (v := .int .u8 ((48 + d : Nat) : Int)) rfl) <| jE <| jB <| jN ?_
    refine jX <| jV (.inl rfl) rfl (jJ (v := .int .u8 ((48 + d : Nat) : Int)) rfl) (List.nil_sublist _) ?_
    exact ⟨rfl, rfl⟩
  exfalso; omega

theorem C_sDecN (k : Nat) (h1 : k ≤ 1000000000000000000) :
    Ct Tryz.prog 91 [.int .i64 ((k : Nat) : Int)] [] (fun _ => True) (fun v A' => v = str (dec ((k : Nat) : Int)) ∧ A' = []) := by
  refine Ct.intro Tryz.func91 rfl Tryz.ntmps91 (lb rfl) fun w0 hpre => ?_
  refine jC <| jF <| jA (jG (v := str []) rfl) <| jE <| jB <| jC <| jC <| jF <| jA (jD (v := nv k) rfl) <| jA (kO rfl rfl) ?_
  refine jE <| jB ?_
  by_cases h_1 : ((k : Nat) : Int) = 0
  · refine jW (cB (dT h_1)) <| jC <| jF <| jA (jG (v := str [48]) rfl) <| jE <| jB <| jN <| jX <| jV (.inl rfl) rfl (jJ (v := str [48]) rfl) (List.nil_sublist _) ?_
    refine ⟨?_, rfl⟩
    rw [show ((k : Nat) : Int) = 0 by omega, dec_zero]
  refine jR (cB (dF h_1)) <| jT <| jB <| jC <| jF <| jA (jD (v := nv k) rfl) <| jA (jl rfl rfl) <| jA (jG (v := .bool (decide (((k : Nat) : Int) < 0))) rfl) <| jE <| jB ?_
  refine jC <| jF <| jA (jG (v := str []) rfl) <| jE <| jB <| jC <| jf <| kD (fun k_ e_ L_ => ∃ k1 : Nat, ∃ o_ : Str, (k1 ≤ k) ∧ (o_.length + k1 ≤ k) ∧ (mtAcc k1 o_ = mtAcc k []) ∧ e_ 0 = nv k1 ∧ e_ 2 = str [] ∧ e_ 3 = .bool (decide (((k : Nat) : Int) < 0)) ∧ e_ 4 = str o_ ∧ L_ = [] ∧ k_ = k1 + 1) _ ⟨k, [], by omega, (by simp), rfl, rfl, rfl, rfl, rfl, rfl, rfl⟩ ?_
  rintro _ e_2 _ ⟨k1, o_, hk, hl, hR, he_3, he_4, he_5, he_6, rfl, rfl⟩
  refine jC <| jC <| jF <| jA (jD (v := nv k1) he_3) <| jA (kS rfl rfl) <| jE <| jB ?_
  by_cases h_7 : ((k1 : Nat) : Int) = 0
  · refine jR (cB (cN (dT h_7))) <| jx <| jb <| jb <| jy <| jB <| jC <| jC <| jF <| jA (jD (v := .bool (decide (((k : Nat) : Int) < 0))) he_5) ?_
    refine jE <| jB ?_
    by_cases h_8 : ((k : Nat) : Int) < 0
    · exfalso; omega
    refine jR (cB (dF h_8)) <| jT <| jB <| jC <| jF <| jA (jD (v := str o_) he_6) <| jA (jG (v := str o_) rfl) <| jE <| jB <| jN ?_
    refine jV (.inl rfl) rfl (jJ (v := str o_) rfl) (List.nil_sublist _) ?_
    refine ⟨?_, rfl⟩
    rw [dec_nat (by omega), ← hR, mtAcc_zero (by omega)]
  refine jW (cB (cN (dF h_7))) <| jT <| jB <| jf <| jC <| jF <| jA (jD (v := nv k1) he_3) <| jA (PO.remN (c := ((k1 % 10 : Nat) : Int)) rfl rfl (by omega) (by omega) (by omega)) <| jA (jG (v := iv ((k1 % 10 : Nat) : Int)) rfl) <| jE ?_
  refine jB <| jC <| jC <| jF <| jA (jD (v := iv ((k1 % 10 : Nat) : Int)) rfl) <| jA (jl rfl rfl) <| jE <| jB ?_
  by_cases h_9 : ((k1 % 10 : Nat) : Int) < 0
  · exfalso; omega
  refine jR (cB (dF h_9)) <| jT <| jB <| jC <| jF <| jA (jD (v := iv ((k1 % 10 : Nat) : Int)) rfl) ?_
  refine jH rfl (jI [] Tryz.call133 rfl (C_figure (k1 % 10) (by omega)) rfl (fun _ _ => trivial)) ?_
  rintro _ _ ⟨_, ⟨rfl, rfl⟩, rfl⟩
  refine jH rfl (kH (ps := [(0, .int .u8 ((48 + (k1 % 10) : Nat) : Int))]) (cur := #[.int .u8 ((48 + (k1 % 10) : Nat) : Int)]) kr gH gK rfl (by kernel_rfl) (by decide) (by decide)) ?_
  rintro _ _ ⟨a_10, rfl, rfl⟩
  refine jK (LO.toStr 0 [UInt8.ofNat (48 + (k1 % 10))] rfl kr kv kg rfl (by rw [List.map_cons, List.map_nil, encB_of _ (by omega)])) <| jA (jD (v := str o_) he_6) <| jA (kc rfl rfl (by (try simp only [List.length_append, List.length_cons, List.length_nil, List.length_drop, List.length_take]); omega)) <| jA (jG (v := str ([UInt8.ofNat (48 + (k1 % 10))] ++ o_)) rfl) <| jE <| jB <| jF <| jA (jD (v := nv k1) he_3) <| jA (PO.quoN (c := ((k1 / 10 : Nat) : Int)) rfl rfl (by omega) (by omega) (by omega) (wr (by omega))) <| jA (jG (v := iv ((k1 / 10 : Nat) : Int)) rfl) ?_
  refine jE <| jm <| kB [] (A := []) rfl ?_
  refine jq (k1 / 10 + 1) (by omega) ⟨(k1 / 10), [UInt8.ofNat (48 + (k1 % 10))] ++ o_, by omega, (by simp only [List.length_append, List.length_cons, List.length_nil]; omega), (by rw [mtAcc_step (by omega)]; exact hR), rfl, he_4, he_5, rfl, rfl, rfl⟩

theorem C_sDec (n : Int) (h0 : 0 ≤ n) (h1 : n ≤ 1000000000000000000) : Ct Tryz.prog 91 [.int .i64 n] [] (fun _ => True) (fun v A' => v = str (dec n) ∧ A' = []) := by
  have := C_sDecN n.toNat (by omega)
  rw [Int.toNat_of_nonneg h0] at this
  exact this

end Go.Proofs.YtjncpgcccgdeiaaGreatDoor

set_option linter.unusedSimpArgs false
set_option linter.unusedVariables false
set_option linter.unnecessarySimpa false
namespace Go.Proofs.YtjncpgcccgdeiaaGreatDoor
open Go Go.RowKit
attribute [local irreducible] JL JC JQ JO LO PO JA JX Ct

theorem C_sReadDec (t : Str) (ht : t.length ≤ 281474976710656) :
    Ct Tryz.prog 106 [str t] [] (fun _ => True) (fun v A' => v = .tuple #[.int .i64 (readDec t).1, .bool (readDec t).2] ∧ A' = []) := by
  refine Ct.intro Tryz.func106 rfl Tryz.ntmps106 (lb rfl) fun w0 hpre => ?_
  refine jC <| jF <| jA (jG (v := iv 0) rfl) <| jA (jG (v := .bool false) rfl) <| jE <| jB <| jC <| jC <| jF <| jA (jD (v := str t) rfl) ?_
  refine jA (kF kg rfl) <| jA (kR rfl rfl) <| jE <| jB ?_
  by_cases h_1 : 10 < (t.length : Int)
  · refine jW (cB (dT h_1)) <| jC <| jF <| jA (jG (v := iv 0) rfl) <| jA (jG (v := .bool false) rfl) <| jE <| jB <| jN <| jX <| kC (.inl rfl) rfl (jJ (v := iv 0) rfl) (jJ (v := .bool false) rfl) (List.nil_sublist _) ?_
    refine ⟨?_, rfl⟩
    rw [readDec_long (by omega)]
  refine jR (cB (dF h_1)) <| jT <| jB <| jC <| jF <| jA (jG (v := iv 0) rfl) <| jE <| jB <| jC <| jC ?_
  refine jF <| jA (jG (v := iv 0) rfl) <| jE <| jB <| jf <| kD (fun k_ e_ L_ => ∃ j : Nat, ∃ n1 : Int, (j ≤ t.length) ∧ (0 ≤ n1) ∧ (n1 < ((10 ^ j : Nat) : Int)) ∧ (figs n1 (t.drop j) = figs 0 t) ∧ e_ 0 = str t ∧ e_ 4 = iv n1 ∧ e_ 5 = nv j ∧ L_ = [] ∧ k_ = t.length - j) _ ⟨0, 0, by omega, by omega, (by decide), rfl, rfl, rfl, rfl, rfl, rfl⟩ ?_
  rintro _ e_2 _ ⟨j, n1, hj, h0, hb, hR, he_3, he_4, he_5, rfl, rfl⟩
  refine jC <| jC <| jF <| jA (jD (v := nv j) he_5) <| jA (jD (v := str t) he_3) <| jA (kF kg rfl) <| jA (jl rfl rfl) <| jE <| jB ?_
  by_cases h_6 : ((j : Nat) : Int) < (t.length : Int)
  · have hlt : j < t.length := by omega
    have hpj : 10 ^ j ≤ 1000000000 := Nat.le_trans (Nat.pow_le_pow_right (by omega) (show j ≤ 9 by omega)) (by decide)
    refine jW (cB (dT h_6)) <| jT <| jB <| jC <| jf <| jC <| jC <| jF <| jA (jD (v := str t) he_3) <| jA (jD (v := nv j) he_5) ?_
    refine jA (PO.indexS (i := j) (c := t.getD j 0) kg rfl rfl (getD_some (by omega))) ?_
    have hu_7 := UInt8.toNat_lt (t.getD j 0)
    refine jA (jl rfl rfl) <| jA (jD (v := .bool (decide (((t.getD j 0).toNat : Int) < 48))) rfl) ?_
    by_cases h_8 : ((t.getD j 0).toNat : Int) < 48
    · refine jS (b := true) rfl rfl rfl (cB (dT h_8)) <| jS (b := true) rfl rfl rfl (cB (dT h_8)) <| jS (b := true) rfl rfl rfl (cB (dT h_8)) <| jS (b := true) rfl rfl rfl (cB (dT h_8)) <| jA (jh (v := .bool true) (cB (dT h_8)) rfl) <| jE <| jB <| jW (cB rfl) <| jC <| jF ?_
      refine jA (jG (v := iv 0) rfl) <| jA (jG (v := .bool false) rfl) <| jE <| jB <| jN <| jX <| jv <| jX <| jX <| jv ?_
      refine jX <| kC (.inl rfl) rfl (jJ (v := iv 0) rfl) (jJ (v := .bool false) rfl) (List.nil_sublist _) ?_
      refine ⟨?_, rfl⟩
      rw [figs_step hlt, if_neg (by omega)] at hR
      rw [readDec_figs (by omega), ← hR]
    refine jM rfl rfl rfl (cB (dF h_8)) (jP (jU (jD (v := str t) he_3))) ?_
    rintro _ _ ⟨rfl, rfl⟩
    refine jM rfl rfl rfl (cB (dF h_8)) (jP (jU (jD (v := nv j) he_5))) ?_
    rintro _ _ ⟨rfl, rfl⟩
    refine jM rfl rfl rfl (cB (dF h_8)) (jP (jU (PO.indexS (i := j) (c := t.getD j 0) kg rfl rfl (getD_some (by omega))))) ?_
    rintro _ _ ⟨rfl, rfl⟩
    have hu_9 := UInt8.toNat_lt (t.getD j 0)
    refine jM rfl rfl rfl (cB (dF h_8)) (jP (jU (kR rfl rfl))) ?_
    rintro _ _ ⟨rfl, rfl⟩
    refine jA (ji (v := .bool (decide (57 < ((t.getD j 0).toNat : Int)))) (cB (dF h_8)) rfl) <| jE <| jB ?_
    by_cases h_10 : 57 < ((t.getD j 0).toNat : Int)
    · refine jW (cB (dT h_10)) <| jC <| jF <| jA (jG (v := iv 0) rfl) <| jA (jG (v := .bool false) rfl) <| jE <| jB <| jN <| jX <| jv ?_
      refine jX <| jX <| jv <| jX <| kC (.inl rfl) rfl (jJ (v := iv 0) rfl) (jJ (v := .bool false) rfl) (List.nil_sublist _) ?_
      refine ⟨?_, rfl⟩
      rw [figs_step hlt, if_neg (by omega)] at hR
      rw [readDec_figs (by omega), ← hR]
    refine jR (cB (dF h_10)) <| jT <| jB <| jF <| jA (jD (v := iv n1) he_4) <| jA (PO.mul (c := 10 * n1) rfl rfl (wr (by omega))) <| jA (jD (v := str t) he_3) <| jA (jD (v := nv j) he_5) <| jA (PO.indexS (i := j) (c := t.getD j 0) kg rfl rfl (getD_some (by omega))) ?_
    have hu_11 := UInt8.toNat_lt (t.getD j 0)
    refine jA (PO.convI (c := ((t.getD j 0).toNat : Int)) kv gC rfl (wr (by omega))) <| jA (jc (c := (10 * n1) + ((t.getD j 0).toNat : Int)) rfl rfl (wr (by omega))) <| jA (kZ (c := ((10 * n1) + ((t.getD j 0).toNat : Int)) - 48) rfl rfl (wr (by omega))) <| jA (jG (v := iv (((10 * n1) + ((t.getD j 0).toNat : Int)) - 48)) rfl) <| jE <| jm <| jB <| jF <| jA (jD (v := nv j) he_5) <| jA (jc (c := ((j + 1 : Nat) : Int)) rfl rfl (wr (by omega))) ?_
    refine jA (jG (v := iv ((j + 1 : Nat) : Int)) rfl) <| jE ?_
    refine jq (t.length - (j + 1)) (by omega) ⟨j + 1, ((10 * n1) + ((t.getD j 0).toNat : Int)) - 48, by omega, by omega, (by rw [Nat.pow_succ]; omega), (by rw [figs_step hlt, if_pos (by omega)] at hR; exact hR), he_3, rfl, rfl, rfl, rfl⟩
  have hpj : 10 ^ j ≤ 10000000000 := Nat.le_trans (Nat.pow_le_pow_right (by omega) (show j ≤ 10 by omega)) (by decide)
  rw [List.drop_of_length_le (by omega), figs] at hR
  refine jR (cB (dF h_6)) <| jx <| jb <| jb <| jy <| jB <| jC <| jC <| jF <| jA (jD (v := iv n1) he_4) ?_
  refine jA (kR rfl rfl) <| jA (jD (v := .bool (decide (1000000000 < n1))) rfl) ?_
  by_cases h_12 : 1000000000 < n1
  · refine jS (b := true) rfl rfl rfl (cB (dT h_12)) <| jS (b := true) rfl rfl rfl (cB (dT h_12)) <| jS (b := true) rfl rfl rfl (cB (dT h_12)) <| jS (b := true) rfl rfl rfl (cB (dT h_12)) <| jA (jh (v := .bool true) (cB (dT h_12)) rfl) <| jE <| jB <| jW (cB rfl) <| jC <| jF ?_
    refine jA (jG (v := iv 0) rfl) <| jA (jG (v := .bool false) rfl) <| jE <| jB <| jN <| jX <| kC (.inl rfl) rfl (jJ (v := iv 0) rfl) (jJ (v := .bool false) rfl) (List.nil_sublist _) ?_
    refine ⟨?_, rfl⟩
    rw [readDec_figs (by omega), ← hR]
    simp only
    rw [if_neg (fun h => by simp_all <;> omega)]
  refine jM rfl rfl rfl (cB (dF h_12)) (jP (jU (jD (v := iv n1) he_4))) ?_
  rintro _ _ ⟨rfl, rfl⟩
  refine jM rfl rfl rfl (cB (dF h_12)) (jI [] Tryz.call91 rfl (C_sDec n1 (by omega) (by omega)) rfl (fun _ _ => trivial)) ?_
  rintro _ _ ⟨_, ⟨rfl, rfl⟩, rfl⟩
  refine jM rfl rfl rfl (cB (dF h_12)) (jP (jU (jD (v := str t) he_3))) ?_
  rintro _ _ ⟨rfl, rfl⟩
  refine jM rfl rfl rfl (cB (dF h_12)) (jP (jU (PO.neqS rfl rfl))) ?_
  rintro _ _ ⟨rfl, rfl⟩
  refine jA (ji (v := .bool (!(decide ((dec n1) = t)))) (cB (dF h_12)) rfl) <| jE <| jB ?_
  by_cases h_13 : (dec n1) = t
  · refine jR (cB (cN (dT h_13))) <| jT <| jB <| jC <| jF <| jA (jD (v := iv n1) he_4) <| jA (jG (v := iv n1) rfl) <| jA (jG (v := .bool true) rfl) <| jE <| jB ?_
    refine jN <| kC (.inl rfl) rfl (jJ (v := iv n1) rfl) (jJ (v := .bool true) rfl) (List.nil_sublist _) ?_
    refine ⟨?_, rfl⟩
    rw [readDec_figs (by omega), ← hR]
    simp only
    rw [if_pos (by refine ⟨?_, ?_⟩ <;> first | omega | simp_all)]
  refine jW (cB (cN (dF h_13))) <| jC <| jF <| jA (jG (v := iv 0) rfl) <| jA (jG (v := .bool false) rfl) <| jE <| jB <| jN <| jX <| kC (.inl rfl) rfl (jJ (v := iv 0) rfl) (jJ (v := .bool false) rfl) (List.nil_sublist _) ?_
  refine ⟨?_, rfl⟩
  rw [readDec_figs (by omega), ← hR]
  simp only
  rw [if_neg (fun h => by simp_all <;> omega)]







end Go.Proofs.YtjncpgcccgdeiaaGreatDoor

set_option linter.unusedSimpArgs false
set_option linter.unusedVariables false
set_option linter.unnecessarySimpa false
namespace Go.Proofs.YtjncpgcccgdeiaaGreatDoor
open Go Go.RowKit

theorem Ct.introL {P : Program} {n : Nat} {f : FuncId} {fn : Func} {c : Code} {args : List Value} {A : List Res} {Pre : World → Prop} {Post : Value → List Res → Prop}
    (hf : P.funcs[f]? = some fn) (hb : fn.body = some c) (hn : fn.ntmps = n) (hle : args.length ≤ n)
    (h : ∀ w0, Pre w0 → (∀ i ∈ idsOf A, GB ≤ i) → JC P (bodyPost P fn (Done w0 (idsOf A) Post)) n w0 (idsOf A) A c (argEnv args)) : Ct P f args A Pre Post := fun w hA hpre => by
  refine calls_of_wp hf hb ?_
  rw [hn, act_args n args hle]
  exact h w hpre hA.low w (St.start hA)
theorem St.hex {w0 w : World} {D : List Nat} {L : List Res} (hw : St w0 D L w) (hlow : ∀ i ∈ D, GB ≤ i) (h : HexOk w0) : HexOk w :=
  h.keep (hw.keep _ h.lt fun hD => by have := hlow _ hD; have := hexLow; omega)

end Go.Proofs.YtjncpgcccgdeiaaGreatDoor
