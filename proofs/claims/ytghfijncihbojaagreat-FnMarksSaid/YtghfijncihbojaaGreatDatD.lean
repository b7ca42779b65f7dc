/-
  Texts of the walk, joined: what each one proves stands at its theorems.
-/
import Derived.Test.YtghfijncihbojaaGreatDatC
import Derived.Lib.SmallJoins
import Derived.Shelf.Small.Wraps
import Derived.Shelf.Strings.Prefix
import Derived.Test.YtghfijncihbojaaGreatProg
import Derived.Lib.Strings
set_option linter.unusedSimpArgs false
set_option linter.unusedVariables false
set_option linter.unnecessarySimpa false
namespace Go.Proofs.YtghfijncihbojaaGreat
open Go Go.RowKit
attribute [local irreducible] JL JC JQ JO LO PO JA JX Ct

theorem C_l01In (n lo hi : Int) :
    Ct Tryz.prog 40 [.int .i64 n, .int .i64 lo, .int .i64 hi] [] (fun _ => True) (fun v A' => v = .bool (decide (lo ≤ n) && decide (n ≤ hi)) ∧ A' = []) := by
  refine Ct.intro Tryz.func40 rfl Tryz.ntmps40 (lb rfl) fun w0 hpre => ?_
  refine jC <| jE <| jA (jG (v := .bool false) rfl) <| jD <| jB <| jC <| jE <| jA (jF (v := iv n) rfl) <| jA (jF (v := iv lo) rfl) <| jA (kh rfl rfl) ?_
  refine jA (jF (v := .bool (decide (lo ≤ n))) rfl) ?_
  by_cases h_1 : lo ≤ n
  · refine jZ rfl rfl rfl (cB (dT h_1)) (ja (jf (jF (v := iv n) rfl))) ?_
    rintro _ _ ⟨rfl, rfl⟩
    refine jZ rfl rfl rfl (cB (dT h_1)) (ja (jf (jF (v := iv hi) rfl))) ?_
    rintro _ _ ⟨rfl, rfl⟩
    refine jZ rfl rfl rfl (cB (dT h_1)) (ja (jf (PO.leq rfl rfl))) ?_
    rintro _ _ ⟨rfl, rfl⟩
    refine jA (kG (v := .bool (decide (n ≤ hi))) (cB (dT h_1)) rfl) <| jA (jG (v := .bool (decide (n ≤ hi))) rfl) <| jD <| jB <| jL <| jR (.inl rfl) rfl (jN (v := .bool (decide (n ≤ hi))) rfl) (List.nil_sublist _) ?_
    refine ⟨?_, rfl⟩
    simp_all <;> omega
  refine jS (b := false) rfl rfl rfl (cB (dF h_1)) <| jS (b := false) rfl rfl rfl (cB (dF h_1)) <| jS (b := false) rfl rfl rfl (cB (dF h_1)) <| jA (jv (v := .bool false) (cB (dF h_1)) rfl) <| jA (jG (v := .bool false) rfl) <| jD <| jB <| jL <| jR (.inl rfl) rfl (jN (v := .bool false) rfl) (List.nil_sublist _) ?_
  refine ⟨?_, rfl⟩
  simp_all <;> omega

theorem C_sKeyOk (key : Str) (hk : key.length ≤ 1000000000000) :
    Ct Tryz.prog 180 [str key] [] (fun _ => True) (fun v A' => v = .bool (keyOk key) ∧ A' = []) := by
  refine Ct.intro Tryz.func180 rfl Tryz.ntmps180 (lb rfl) fun w0 hpre => ?_
  refine jC <| jE <| jA (jG (v := .bool false) rfl) <| jD <| jB <| jC <| jC <| jE <| jA (jG (v := iv 0) rfl) <| jD ?_
  refine jB <| jg <| kC (fun k_ e_ L_ => ∃ j : Nat, (j ≤ key.length) ∧ (∀ i, i < j → i < key.length → keyByte (key.getD i 0) = true) ∧ e_ 0 = str key ∧ e_ 3 = nv j ∧ L_ = [] ∧ k_ = key.length - j) _ ⟨0, by omega, (fun i hi => absurd hi (Nat.not_lt_zero i)), rfl, rfl, rfl, rfl⟩ ?_
  rintro _ e_1 _ ⟨j, hj, hN, he_2, he_3, rfl, rfl⟩
  refine jC <| jC <| jE <| jA (jF (v := nv j) he_3) <| jA (jF (v := str key) he_2) <| jA (kV ky rfl) <| jA (jo rfl rfl) <| jD <| jB ?_
  by_cases h_4 : ((j : Nat) : Int) < (key.length : Int)
  · refine jO (cB (dT h_4)) <| jU <| jB <| jC <| jg <| jC <| jE <| jA (jF (v := str key) he_2) <| jA (jF (v := nv j) he_3) <| jA (PO.indexS (i := j) (c := key.getD j 0) ky rfl rfl (getD_some (by omega))) ?_
    have hu_5 := UInt8.toNat_lt (key.getD j 0)
    refine jA (PO.convI (c := ((key.getD j 0).toNat : Int)) gZ gg rfl (wr (by omega))) ?_
    refine jH rfl (jM [] Tryz.call40 rfl (C_l01In ((key.getD j 0).toNat : Int) 33 126) rfl (fun _ _ => trivial)) ?_
    rintro _ _ ⟨_, ⟨rfl, rfl⟩, rfl⟩
    refine jA (kP rfl) <| jA (jF (v := .bool (!(decide (33 ≤ ((key.getD j 0).toNat : Int)) && decide (((key.getD j 0).toNat : Int) ≤ 126)))) rfl) ?_
    rcases Bool.eq_false_or_eq_true (decide (33 ≤ ((key.getD j 0).toNat : Int)) && decide (((key.getD j 0).toNat : Int) ≤ 126)) with h_6 | h_6
    · have h_6d := h_6
      simp only [Bool.and_eq_true, Bool.and_eq_false_iff, decide_eq_true_eq, decide_eq_false_iff_not] at h_6d
      refine jZ rfl rfl rfl (cB (cN h_6)) (ja (jf (jF (v := str key) he_2))) ?_
      rintro _ _ ⟨rfl, rfl⟩
      refine jZ rfl rfl rfl (cB (cN h_6)) (ja (jf (jF (v := nv j) he_3))) ?_
      rintro _ _ ⟨rfl, rfl⟩
      refine jZ rfl rfl rfl (cB (cN h_6)) (ja (jf (PO.indexS (i := j) (c := key.getD j 0) ky rfl rfl (getD_some (by omega))))) ?_
      rintro _ _ ⟨rfl, rfl⟩
      have hu_7 := UInt8.toNat_lt (key.getD j 0)
      refine jZ rfl rfl rfl (cB (cN h_6)) (ja (jf (jw rfl rfl))) ?_
      rintro _ _ ⟨rfl, rfl⟩
      refine jA (jv (v := .bool (decide (((key.getD j 0).toNat : Int) = 42))) (cB (cN h_6)) rfl) <| jD <| jB ?_
      by_cases h_8 : ((key.getD j 0).toNat : Int) = 42
      · refine jO (cB (dT h_8)) <| jC <| jE <| jA (jG (v := .bool false) rfl) <| jD <| jB <| jL <| jq <| jW <| jW ?_
        refine jq <| jW <| jR (.inl rfl) rfl (jN (v := .bool false) rfl) (List.nil_sublist _) ?_
        refine ⟨?_, rfl⟩
        rw [keyOk_bad (j := j) (by omega) (by simp only [keyByte, Bool.and_eq_true, Bool.and_eq_false_iff, decide_eq_true_eq, decide_eq_false_iff_not, Bool.not_eq_true', Bool.not_eq_false']; omega)]
      refine jP (cB (dF h_8)) <| jU <| jk <| jB <| jE <| jA (jF (v := nv j) he_3) <| jA (ji (c := ((j + 1 : Nat) : Int)) rfl rfl (wr (by omega))) <| jA (jG (v := iv ((j + 1 : Nat) : Int)) rfl) <| jD ?_
      refine ju (key.length - (j + 1)) (by omega) ⟨j + 1, by omega, (fun i hi hl => if h : i = j then h ▸ (by simp only [keyByte, Bool.and_eq_true, Bool.and_eq_false_iff, decide_eq_true_eq, decide_eq_false_iff_not, Bool.not_eq_true', Bool.not_eq_false']; omega : keyByte (key.getD j 0) = true) else hN i (by omega) hl), he_2, rfl, rfl, rfl⟩
    have h_6d := h_6
    simp only [Bool.and_eq_true, Bool.and_eq_false_iff, decide_eq_true_eq, decide_eq_false_iff_not] at h_6d
    refine jS (b := true) rfl rfl rfl (cB (cN h_6)) <| jS (b := true) rfl rfl rfl (cB (cN h_6)) <| jS (b := true) rfl rfl rfl (cB (cN h_6)) <| jS (b := true) rfl rfl rfl (cB (cN h_6)) <| jA (kG (v := .bool true) (cB (cN h_6)) rfl) <| jD <| jB <| jO (cB rfl) <| jC <| jE ?_
    refine jA (jG (v := .bool false) rfl) <| jD <| jB <| jL <| jq <| jW <| jW <| jq <| jW <| jR (.inl rfl) rfl (jN (v := .bool false) rfl) (List.nil_sublist _) ?_
    refine ⟨?_, rfl⟩
    rw [keyOk_bad (j := j) (by omega) (by simp only [keyByte, Bool.and_eq_true, Bool.and_eq_false_iff, decide_eq_true_eq, decide_eq_false_iff_not, Bool.not_eq_true', Bool.not_eq_false']; omega)]
  refine jP (cB (dF h_4)) <| jz <| jj <| jj <| kA <| jB <| jC <| jE <| jA (jF (v := str key) he_2) <| jA (kV ky rfl) ?_
  refine jH rfl (jM [] Tryz.call40 rfl (C_l01In (key.length : Int) 1 40) rfl (fun _ _ => trivial)) ?_
  rintro _ _ ⟨_, ⟨rfl, rfl⟩, rfl⟩
  refine jA (jG (v := .bool (decide (1 ≤ (key.length : Int)) && decide ((key.length : Int) ≤ 40))) rfl) <| jD <| jB <| jL <| jR (.inl rfl) rfl (jN (v := .bool (decide (1 ≤ (key.length : Int)) && decide ((key.length : Int) ≤ 40))) rfl) (List.nil_sublist _) ?_
  refine ⟨?_, rfl⟩
  rw [keyOk_good (j := j) (by omega) hN]
  exact cB (by congr 1 <;> exact decide_eq_decide.2 (by omega))

theorem C_sGetKey (a : Option Addr) (c : Nat) (s : List Cell) (key : Str) (hn : s.length ≤ 1000000000000) :
    Ct Tryz.prog 228 [.slice a s.length c, str key] [] (fun w_ => Sees w_ (.slice a s.length c) 2 s.length (s.flatMap encC)) (fun v A' => v = str (getKey s key) ∧ A' = []) := by
  refine Ct.intro Tryz.func228 rfl Tryz.ntmps228 (lb rfl) fun w0 hpre => ?_
  have hs_a : Sees w0 _ _ _ _ := hpre
  refine jC <| jE <| jA (jG (v := str []) rfl) <| jD <| jB <| jC <| jC <| jE <| jA (jG (v := iv 0) rfl) <| jD ?_
  refine jB <| jg <| kC (fun k_ e_ L_ => ∃ j : Nat, (j ≤ s.length) ∧ (getKey (s.drop j) key = getKey s key) ∧ e_ 0 = .slice a s.length c ∧ e_ 1 = str key ∧ e_ 5 = nv j ∧ L_ = [] ∧ k_ = s.length - j) _ ⟨0, by omega, rfl, rfl, rfl, rfl, rfl, rfl⟩ ?_
  rintro _ e_1 _ ⟨j, hj, hR, he_2, he_3, he_4, rfl, rfl⟩
  refine jC <| jC <| jE <| jA (jF (v := nv j) he_4) <| jA (jF (v := .slice a s.length c) he_2) <| jA (jp gC rfl) <| jA (jo rfl rfl) <| jD <| jB ?_
  by_cases h_5 : ((j : Nat) : Int) < ((s.length : Nat) : Int)
  · have hlt : j < s.length := by omega
    refine jO (cB (dT h_5)) <| jU <| jB <| jC <| jg <| jC <| jE <| jA (jF (v := .slice a s.length c) he_2) <| jA (jF (v := nv j) he_4) ?_
    obtain ⟨hr_6, hr_6b, -⟩ := sees_some hs_a (by omega)
    refine jA (jl (i := j) gC gJ hr_6 hr_6b rfl rfl (by omega)) <| jA (kD fo167_0 hr_6 rfl) <| jK (kK (v := str ((s.getD j c0).1)) hs_a nM rfl kv (atC1 (by omega))) <| jA (jF (v := str key) he_3) <| jA (PO.eqlS rfl rfl) <| jD <| jB ?_
    by_cases h_7 : ((s.getD j c0).1) = key
    · have hk := h_7
      refine jO (cB (dT h_7)) <| jC <| jE <| jA (jF (v := .slice a s.length c) he_2) <| jA (jF (v := nv j) he_4) <| jA (jl (i := j) gC gJ hr_6 hr_6b rfl rfl (by omega)) <| jA (kD fo167_1 hr_6 rfl) <| jK (kK (v := str ((s.getD j c0).2)) hs_a nM rfl kv (atC2 (by omega))) <| jA (jG (v := str ((s.getD j c0).2)) rfl) <| jD ?_
      refine jB <| jL <| jq <| jW <| jW <| jq <| jW <| jR (.inl rfl) rfl (jN (v := str ((s.getD j c0).2)) rfl) (List.nil_sublist _) ?_
      refine ⟨?_, rfl⟩
      rw [drop_at (getD_some (d := c0) hlt), getKey, if_pos hk] at hR
      rw [← hR]
    have hk := h_7
    refine jP (cB (dF h_7)) <| jU <| jk <| jB <| jE <| jA (jF (v := nv j) he_4) <| jA (ji (c := ((j + 1 : Nat) : Int)) rfl rfl (wr (by omega))) <| jA (jG (v := iv ((j + 1 : Nat) : Int)) rfl) <| jD ?_
    refine ju (s.length - (j + 1)) (by omega) ⟨j + 1, by omega, (by rw [drop_at (getD_some (d := c0) hlt), getKey, if_neg hk] at hR; exact hR), he_2, he_3, rfl, rfl, rfl⟩
  refine jP (cB (dF h_5)) <| jz <| jj <| jj <| kA <| jB <| jC <| jE <| jA (jG (v := str []) rfl) <| jD ?_
  refine jB <| jL <| jR (.inl rfl) rfl (jN (v := str []) rfl) (List.nil_sublist _) ?_
  refine ⟨?_, rfl⟩
  rw [List.drop_of_length_le (by omega)] at hR
  rw [← hR]
  rfl

theorem C_sPutKey (a : Option Addr) (c : Nat) (s : List Cell) (key val : Str) (hn : s.length ≤ 100000000000) (hk_ : key.length ≤ 1000000000000) :
    Ct Tryz.prog 205 [.slice a s.length c, str key, str val] [] (fun w_ => Sees w_ (.slice a s.length c) 2 s.length (s.flatMap encC)) (fun v A' => ∃ a' c', v = .slice a' (putKey s key val).length c' ∧ A' = [.row (.slice a' (putKey s key val).length c') 167 2 (putKey s key val).length ((putKey s key val).flatMap encC)]) := by
  refine Ct.intro Tryz.func205 rfl Tryz.ntmps205 (lb rfl) fun w0 hpre => ?_
  have hs_a : Sees w0 _ _ _ _ := hpre
  refine jC <| jE <| jA (jG (v := .slice none 0 0) rfl) <| jD <| jB <| jC <| jE ?_
  refine jH rfl (kJ (ps := []) (cur := #[]) gC gJ gn rfl (by kernel_rfl) (by decide) (by decide)) ?_
  rintro _ _ ⟨a_1, rfl, rfl⟩
  refine jA (jG (v := .slice a_1 0 0) rfl) <| jD <| jB <| jC <| jC <| jE <| jA (jF (v := str key) rfl) ?_
  refine jH rfl (jM [] Tryz.call180 rfl (C_sKeyOk key (by omega)) rfl (fun _ _ => trivial)) ?_
  rintro _ _ ⟨_, ⟨rfl, rfl⟩, rfl⟩
  refine jA (kP rfl) <| jA (jF (v := .bool (!(keyOk key))) rfl) ?_
  rcases Bool.eq_false_or_eq_true (keyOk key) with h_2 | h_2
  · have hkey := h_2
    refine jZ rfl rfl rfl (cB (cN h_2)) (ja (jf (jF (v := str val) rfl))) ?_
    rintro _ _ ⟨rfl, rfl⟩
    refine jZ rfl rfl rfl (cB (cN h_2)) (ja (jf (kV ky rfl))) ?_
    rintro _ _ ⟨rfl, rfl⟩
    refine jZ rfl rfl rfl (cB (cN h_2)) (ja (jf (ke rfl rfl))) ?_
    rintro _ _ ⟨rfl, rfl⟩
    refine jA (jv (v := .bool (decide (60 < (val.length : Int)))) (cB (cN h_2)) rfl) <| jD <| jB ?_
    by_cases h_3 : 60 < (val.length : Int)
    · refine jO (cB (dT h_3)) <| jC <| jE <| jA (jF (v := .slice a_1 0 0) rfl) <| jA (jF (v := .slice a s.length c) rfl) ?_
      refine jH rfl (kM 0 (q := s.length) (news := s.flatMap encC) (n' := s.length) (cs' := s.flatMap encC) rfl gC gC gq rfl (by' := 32) rfl rfl rfl rfl rfl (fun w hw => Src.sees (hw.seeOut_ hs_a nM) (oneC _)) (by (try simp only [LE]); omega) (by (try simp only [LE]); omega) (by (try simp only [List.length_take, List.length_drop]); first | rfl | omega) rfl) ?_
      rintro _ _ ⟨a_4, c_5, rfl, rfl⟩
      refine jA (jG (v := .slice a_4 s.length c_5) rfl) <| jD <| jB <| jL <| jW <| jR (.inl rfl) rfl (jN (v := .slice a_4 s.length c_5) rfl) (List.Sublist.refl _) ?_
      have he := (putKey_bad2 (by omega) : putKey s key val = _)
      exact ⟨_, _, by rw [he] <;> rfl, by rw [he] <;> rfl⟩
    refine jP (cB (dF h_3)) <| jU <| jB <| jC <| jE <| jA (jF (v := str val) rfl) <| jA (PO.eqlS rfl rfl) <| jA (jG (v := .bool (decide (val = []))) rfl) <| jD <| jB ?_
    refine jC <| jC <| jE <| jA (jG (v := iv 0) rfl) <| jD <| jB <| jg <| kC (fun k_ e_ L_ => ∃ j : Nat, ∃ xa : Option Addr, ∃ xc : Nat, ∃ o_ : List Cell, ∃ done : Bool, (j ≤ s.length) ∧ (o_.length ≤ 2 * j) ∧ (o_ ++ putL key val done (s.drop j) = putKey s key val) ∧ e_ 0 = .slice a s.length c ∧ e_ 1 = str key ∧ e_ 2 = str val ∧ e_ 6 = .slice none 0 0 ∧ e_ 7 = .slice xa o_.length xc ∧ e_ 8 = .bool done ∧ e_ 9 = nv j ∧ L_ = [Res.row (.slice xa o_.length xc) 167 2 o_.length (o_.flatMap encC)] ∧ k_ = s.length - j) _ ⟨0, a_1, 0, [], (decide (val = [])), by omega, (by simp), (putL_put hkey (by omega)), rfl, rfl, rfl, rfl, rfl, rfl, rfl, rfl, rfl⟩ ?_
    rintro _ e_6 _ ⟨j, xa, xc, o_, done, hj, hl, hR, he_7, he_8, he_9, he_10, he_11, he_12, he_13, rfl, rfl⟩
    refine jC <| jC <| jE <| jA (jF (v := nv j) he_13) <| jA (jF (v := .slice a s.length c) he_7) <| jA (jp gC rfl) <| jA (jo rfl rfl) <| jD <| jB ?_
    by_cases h_14 : ((j : Nat) : Int) < ((s.length : Nat) : Int)
    · have hlt : j < s.length := by omega
      refine jO (cB (dT h_14)) <| jU <| jB <| jC <| jg <| jC <| jC <| jE <| jA (jF (v := .bool done) he_12) <| jA (kP rfl) ?_
      refine jA (jF (v := .bool (!done)) rfl) ?_
      rcases Bool.eq_false_or_eq_true (done) with h_15 | h_15
      · have hd := h_15
        refine jS (b := false) rfl rfl rfl (cB (cN h_15)) <| jS (b := false) rfl rfl rfl (cB (cN h_15)) <| jS (b := false) rfl rfl rfl (cB (cN h_15)) <| jS (b := false) rfl rfl rfl (cB (cN h_15)) <| jS (b := false) rfl rfl rfl (cB (cN h_15)) <| jS (b := false) rfl rfl rfl (cB (cN h_15)) <| jS (b := false) rfl rfl rfl (cB (cN h_15)) <| jA (jv (v := .bool false) (cB (cN h_15)) rfl) <| jD <| jB ?_
        refine jP (cB rfl) <| jU <| jB <| jC <| jE <| jA (jF (v := .slice a s.length c) he_7) <| jA (jF (v := nv j) he_13) ?_
        obtain ⟨hr_16, hr_16b, -⟩ := sees_some hs_a (by omega)
        refine jA (jl (i := j) gC gJ hr_16 hr_16b rfl rfl (by omega)) <| jA (kD fo167_0 hr_16 rfl) <| jK (kK (v := str ((s.getD j c0).1)) hs_a nM rfl kv (atC1 (by omega))) <| jA (jF (v := str key) he_8) <| jA (kj rfl rfl) <| jD <| jB ?_
        by_cases h_17 : ((s.getD j c0).1) = key
        · have hk := h_17
          refine jP (cB (cN (dT h_17))) <| jU <| jk <| jB <| jE <| jA (jF (v := nv j) he_13) <| jA (ji (c := ((j + 1 : Nat) : Int)) rfl rfl (wr (by omega))) <| jA (jG (v := iv ((j + 1 : Nat) : Int)) rfl) <| jD <| kH [0] (A := [Res.row (.slice xa o_.length xc) 167 2 o_.length (o_.flatMap encC)]) rfl ?_
          refine ju (s.length - (j + 1)) (by omega) ⟨j + 1, xa, xc, o_, done, by omega, (by (try simp only [List.length_append, List.length_cons, List.length_nil]); omega), (by rw [putL_step hlt] at hR; simp only [hd, hk, Bool.not_true, Bool.not_false, Bool.true_and, Bool.false_and, Bool.or_true, Bool.true_or, Bool.or_false, Bool.false_or, if_true, if_false, Bool.false_eq_true, List.nil_append, List.append_nil, List.append_assoc] at hR ⊢; exact hR), he_7, he_8, he_9, he_10, he_11, he_12, rfl, rfl, rfl⟩
        have hk := h_17
        refine jO (cB (cN (dF h_17))) <| jE <| jA (jF (v := .slice xa o_.length xc) he_11) <| jA (jF (v := .slice a s.length c) he_7) <| jA (jF (v := nv j) he_13) <| jA (jl (i := j) gC gJ hr_16 hr_16b rfl rfl (by omega)) <| jK (kS (vs := [str ((s.getD j c0).1), str ((s.getD j c0).2)]) hs_a nM rfl Tryz.isAgg167 gJ (atC (by omega)) rfl (by decide)) ?_
        refine jH rfl (kJ (ps := [(0, .agg #[str ((s.getD j c0).1), str ((s.getD j c0).2)])]) (cur := #[str ((s.getD j c0).1), str ((s.getD j c0).2)]) gC gJ gn rfl (by kernel_rfl) (by decide) (by decide)) ?_
        rintro _ _ ⟨a_18, rfl, rfl⟩
        refine jH rfl (kM 1 (q := 1) (news := ([((s.getD j c0).1, (s.getD j c0).2)] : List Cell).flatMap encC) (n' := (o_ ++ ([((s.getD j c0).1, (s.getD j c0).2)] : List Cell)).length) (cs' := (o_ ++ ([((s.getD j c0).1, (s.getD j c0).2)] : List Cell)).flatMap encC) rfl gC gC gq rfl (by' := 32) rfl rfl rfl rfl rfl (fun w hw => Src.sees (hw.see (i := 0) rfl) (oneC _)) (by (try simp only [LE]); omega) (by (try simp only [LE]); omega) (by simp only [List.length_append, List.length_take, List.length_drop, List.length_cons, List.length_nil] <;> first | rfl | omega) (by simp only [List.flatMap_append])) ?_
        rintro _ _ ⟨a_19, c_20, rfl, rfl⟩
        refine jA (jG (v := .slice a_19 ((o_ ++ ([((s.getD j c0).1, (s.getD j c0).2)] : List Cell)).length) c_20) rfl) <| jD <| jk <| jB <| jE <| jA (jF (v := nv j) he_13) <| jA (ji (c := ((j + 1 : Nat) : Int)) rfl rfl (wr (by omega))) <| jA (jG (v := iv ((j + 1 : Nat) : Int)) rfl) <| jD <| kH [1] (A := [Res.row (.slice a_19 ((o_ ++ ([((s.getD j c0).1, (s.getD j c0).2)] : List Cell)).length) c_20) 167 2 ((o_ ++ ([((s.getD j c0).1, (s.getD j c0).2)] : List Cell)).length) ((o_ ++ ([((s.getD j c0).1, (s.getD j c0).2)] : List Cell)).flatMap encC)]) rfl ?_
        refine ju (s.length - (j + 1)) (by omega) ⟨j + 1, a_19, c_20, (o_ ++ ([((s.getD j c0).1, (s.getD j c0).2)] : List Cell)), done, by omega, (by (try simp only [List.length_append, List.length_cons, List.length_nil]); omega), (by rw [putL_step hlt] at hR; simp only [hd, hk, Bool.not_true, Bool.not_false, Bool.true_and, Bool.false_and, Bool.or_true, Bool.true_or, Bool.or_false, Bool.false_or, if_true, if_false, Bool.false_eq_true, List.nil_append, List.append_nil, List.append_assoc] at hR ⊢; exact hR), he_7, he_8, he_9, he_10, rfl, he_12, rfl, rfl, rfl⟩
      have hd := h_15
      refine jZ rfl rfl rfl (cB (cN h_15)) (ja (jf (jF (v := .slice a s.length c) he_7))) ?_
      rintro _ _ ⟨rfl, rfl⟩
      refine jZ rfl rfl rfl (cB (cN h_15)) (ja (jf (jF (v := nv j) he_13))) ?_
      rintro _ _ ⟨rfl, rfl⟩
      obtain ⟨hr_21, hr_21b, -⟩ := sees_some hs_a (by omega)
      refine jZ rfl rfl rfl (cB (cN h_15)) (ja (jf (jl (i := j) gC gJ hr_21 hr_21b rfl rfl (by omega)))) ?_
      rintro _ _ ⟨rfl, rfl⟩
      refine jZ rfl rfl rfl (cB (cN h_15)) (ja (jf (kD fo167_0 hr_21 rfl))) ?_
      rintro _ _ ⟨rfl, rfl⟩
      refine jZ rfl rfl rfl (cB (cN h_15)) (ja (kK (v := str ((s.getD j c0).1)) hs_a nM rfl kv (atC1 (by omega)))) ?_
      rintro _ _ ⟨rfl, rfl⟩
      refine jZ rfl rfl rfl (cB (cN h_15)) (ja (jf (jF (v := str key) he_8))) ?_
      rintro _ _ ⟨rfl, rfl⟩
      refine jZ rfl rfl rfl (cB (cN h_15)) (ja (jf (PO.gtrS rfl rfl))) ?_
      rintro _ _ ⟨rfl, rfl⟩
      refine jA (kG (v := .bool (!Op.bytesLess ((s.getD j c0).1) key && !decide (((s.getD j c0).1) = key))) (cB (cN h_15)) rfl) <| jD <| jB ?_
      rcases Bool.eq_false_or_eq_true (!Op.bytesLess ((s.getD j c0).1) key && !decide (((s.getD j c0).1) = key)) with h_22 | h_22
      · have h_22d := h_22
        simp only [Bool.and_eq_true, Bool.and_eq_false_iff, decide_eq_true_eq, decide_eq_false_iff_not] at h_22d
        have hg : gtrB (s.getD j c0).1 key = true := h_22
        refine jO (cB h_22) <| jC <| jE <| jA (jF (v := .slice xa o_.length xc) he_11) <| jA (jF (v := str key) he_8) <| jA (jF (v := str val) he_9) <| jA (kY (ps := [(0, str key), (1, str val)]) (cs := [str key, str val]) rfl (by kernel_rfl)) ?_
        refine jH rfl (kJ (ps := [(0, .agg #[str key, str val])]) (cur := #[str key, str val]) gC gJ gn rfl (by kernel_rfl) (by decide) (by decide)) ?_
        rintro _ _ ⟨a_23, rfl, rfl⟩
        refine jH rfl (kM 1 (q := 1) (news := ([(key, val)] : List Cell).flatMap encC) (n' := (o_ ++ ([(key, val)] : List Cell)).length) (cs' := (o_ ++ ([(key, val)] : List Cell)).flatMap encC) rfl gC gC gq rfl (by' := 32) rfl rfl rfl rfl rfl (fun w hw => Src.sees (hw.see (i := 0) rfl) (oneC _)) (by (try simp only [LE]); omega) (by (try simp only [LE]); omega) (by simp only [List.length_append, List.length_take, List.length_drop, List.length_cons, List.length_nil] <;> first | rfl | omega) (by simp only [List.flatMap_append])) ?_
        rintro _ _ ⟨a_24, c_25, rfl, rfl⟩
        refine jA (jG (v := .slice a_24 ((o_ ++ ([(key, val)] : List Cell)).length) c_25) rfl) <| jD <| jB <| jE <| jA (jG (v := .bool true) rfl) <| jD <| jB <| jC <| jE <| jA (jF (v := .slice a s.length c) he_7) ?_
        refine jA (jF (v := nv j) he_13) <| jA (jl (i := j) gC gJ hr_21 hr_21b rfl rfl (by omega)) <| jA (kD fo167_0 hr_21 rfl) <| jK (kK (v := str ((s.getD j c0).1)) hs_a nM rfl kv (atC1 (by omega))) <| jA (jF (v := str key) he_8) <| jA (kj rfl rfl) <| jD <| jB ?_
        by_cases h_26 : ((s.getD j c0).1) = key
        · have hk := h_26
          have hg2 : gtrB key key = true := hk ▸ hg
          refine jP (cB (cN (dT h_26))) <| jU <| jk <| jB <| jE <| jA (jF (v := nv j) he_13) <| jA (ji (c := ((j + 1 : Nat) : Int)) rfl rfl (wr (by omega))) <| jA (jG (v := iv ((j + 1 : Nat) : Int)) rfl) <| jD <| kH [1] (A := [Res.row (.slice a_24 ((o_ ++ ([(key, val)] : List Cell)).length) c_25) 167 2 ((o_ ++ ([(key, val)] : List Cell)).length) ((o_ ++ ([(key, val)] : List Cell)).flatMap encC)]) rfl ?_
          refine ju (s.length - (j + 1)) (by omega) ⟨j + 1, a_24, c_25, (o_ ++ ([(key, val)] : List Cell)), true, by omega, (by (try simp only [List.length_append, List.length_cons, List.length_nil]); omega), (by rw [putL_step hlt] at hR; simp only [hd, hg, hg2, hk, Bool.not_true, Bool.not_false, Bool.true_and, Bool.false_and, Bool.or_true, Bool.true_or, Bool.or_false, Bool.false_or, if_true, if_false, Bool.false_eq_true, List.nil_append, List.append_nil, List.append_assoc] at hR ⊢; exact hR), he_7, he_8, he_9, he_10, rfl, rfl, rfl, rfl, rfl⟩
        have hk := h_26
        refine jO (cB (cN (dF h_26))) <| jE <| jA (jF (v := .slice a_24 ((o_ ++ ([(key, val)] : List Cell)).length) c_25) rfl) <| jA (jF (v := .slice a s.length c) he_7) <| jA (jF (v := nv j) he_13) <| jA (jl (i := j) gC gJ hr_21 hr_21b rfl rfl (by omega)) <| jK (kS (vs := [str ((s.getD j c0).1), str ((s.getD j c0).2)]) hs_a nM rfl Tryz.isAgg167 gJ (atC (by omega)) rfl (by decide)) ?_
        refine jH rfl (kJ (ps := [(0, .agg #[str ((s.getD j c0).1), str ((s.getD j c0).2)])]) (cur := #[str ((s.getD j c0).1), str ((s.getD j c0).2)]) gC gJ gn rfl (by kernel_rfl) (by decide) (by decide)) ?_
        rintro _ _ ⟨a_27, rfl, rfl⟩
        refine jH rfl (kM 2 (q := 1) (news := ([((s.getD j c0).1, (s.getD j c0).2)] : List Cell).flatMap encC) (n' := ((o_ ++ ([(key, val)] : List Cell)) ++ ([((s.getD j c0).1, (s.getD j c0).2)] : List Cell)).length) (cs' := ((o_ ++ ([(key, val)] : List Cell)) ++ ([((s.getD j c0).1, (s.getD j c0).2)] : List Cell)).flatMap encC) rfl gC gC gq rfl (by' := 32) rfl rfl rfl rfl rfl (fun w hw => Src.sees (hw.see (i := 0) rfl) (oneC _)) (by (try simp only [LE]); omega) (by (try simp only [LE]); omega) (by simp only [List.length_append, List.length_take, List.length_drop, List.length_cons, List.length_nil] <;> first | rfl | omega) (by simp only [List.flatMap_append])) ?_
        rintro _ _ ⟨a_28, c_29, rfl, rfl⟩
        refine jA (jG (v := .slice a_28 (((o_ ++ ([(key, val)] : List Cell)) ++ ([((s.getD j c0).1, (s.getD j c0).2)] : List Cell)).length) c_29) rfl) <| jD <| jk <| jB <| jE <| jA (jF (v := nv j) he_13) <| jA (ji (c := ((j + 1 : Nat) : Int)) rfl rfl (wr (by omega))) <| jA (jG (v := iv ((j + 1 : Nat) : Int)) rfl) <| jD <| kH [2] (A := [Res.row (.slice a_28 (((o_ ++ ([(key, val)] : List Cell)) ++ ([((s.getD j c0).1, (s.getD j c0).2)] : List Cell)).length) c_29) 167 2 (((o_ ++ ([(key, val)] : List Cell)) ++ ([((s.getD j c0).1, (s.getD j c0).2)] : List Cell)).length) (((o_ ++ ([(key, val)] : List Cell)) ++ ([((s.getD j c0).1, (s.getD j c0).2)] : List Cell)).flatMap encC)]) rfl ?_
        refine ju (s.length - (j + 1)) (by omega) ⟨j + 1, a_28, c_29, ((o_ ++ ([(key, val)] : List Cell)) ++ ([((s.getD j c0).1, (s.getD j c0).2)] : List Cell)), true, by omega, (by (try simp only [List.length_append, List.length_cons, List.length_nil]); omega), (by rw [putL_step hlt] at hR; simp only [hd, hg, hk, Bool.not_true, Bool.not_false, Bool.true_and, Bool.false_and, Bool.or_true, Bool.true_or, Bool.or_false, Bool.false_or, if_true, if_false, Bool.false_eq_true, List.nil_append, List.append_nil, List.append_assoc] at hR ⊢; exact hR), he_7, he_8, he_9, he_10, rfl, rfl, rfl, rfl, rfl⟩
      have h_22d := h_22
      simp only [Bool.and_eq_true, Bool.and_eq_false_iff, decide_eq_true_eq, decide_eq_false_iff_not] at h_22d
      have hg : gtrB (s.getD j c0).1 key = false := h_22
      refine jP (cB h_22) <| jU <| jB <| jC <| jE <| jA (jF (v := .slice a s.length c) he_7) <| jA (jF (v := nv j) he_13) <| jA (jl (i := j) gC gJ hr_21 hr_21b rfl rfl (by omega)) <| jA (kD fo167_0 hr_21 rfl) <| jK (kK (v := str ((s.getD j c0).1)) hs_a nM rfl kv (atC1 (by omega))) ?_
      refine jA (jF (v := str key) he_8) <| jA (kj rfl rfl) <| jD <| jB ?_
      by_cases h_30 : ((s.getD j c0).1) = key
      · have hk := h_30
        have hg2 : gtrB key key = false := hk ▸ hg
        refine jP (cB (cN (dT h_30))) <| jU <| jk <| jB <| jE <| jA (jF (v := nv j) he_13) <| jA (ji (c := ((j + 1 : Nat) : Int)) rfl rfl (wr (by omega))) <| jA (jG (v := iv ((j + 1 : Nat) : Int)) rfl) <| jD <| kH [0] (A := [Res.row (.slice xa o_.length xc) 167 2 o_.length (o_.flatMap encC)]) rfl ?_
        refine ju (s.length - (j + 1)) (by omega) ⟨j + 1, xa, xc, o_, done, by omega, (by (try simp only [List.length_append, List.length_cons, List.length_nil]); omega), (by rw [putL_step hlt] at hR; simp only [hd, hg, hg2, hk, Bool.not_true, Bool.not_false, Bool.true_and, Bool.false_and, Bool.or_true, Bool.true_or, Bool.or_false, Bool.false_or, if_true, if_false, Bool.false_eq_true, List.nil_append, List.append_nil, List.append_assoc] at hR ⊢; exact hR), he_7, he_8, he_9, he_10, he_11, he_12, rfl, rfl, rfl⟩
      have hk := h_30
      refine jO (cB (cN (dF h_30))) <| jE <| jA (jF (v := .slice xa o_.length xc) he_11) <| jA (jF (v := .slice a s.length c) he_7) <| jA (jF (v := nv j) he_13) <| jA (jl (i := j) gC gJ hr_21 hr_21b rfl rfl (by omega)) <| jK (kS (vs := [str ((s.getD j c0).1), str ((s.getD j c0).2)]) hs_a nM rfl Tryz.isAgg167 gJ (atC (by omega)) rfl (by decide)) ?_
      refine jH rfl (kJ (ps := [(0, .agg #[str ((s.getD j c0).1), str ((s.getD j c0).2)])]) (cur := #[str ((s.getD j c0).1), str ((s.getD j c0).2)]) gC gJ gn rfl (by kernel_rfl) (by decide) (by decide)) ?_
      rintro _ _ ⟨a_31, rfl, rfl⟩
      refine jH rfl (kM 1 (q := 1) (news := ([((s.getD j c0).1, (s.getD j c0).2)] : List Cell).flatMap encC) (n' := (o_ ++ ([((s.getD j c0).1, (s.getD j c0).2)] : List Cell)).length) (cs' := (o_ ++ ([((s.getD j c0).1, (s.getD j c0).2)] : List Cell)).flatMap encC) rfl gC gC gq rfl (by' := 32) rfl rfl rfl rfl rfl (fun w hw => Src.sees (hw.see (i := 0) rfl) (oneC _)) (by (try simp only [LE]); omega) (by (try simp only [LE]); omega) (by simp only [List.length_append, List.length_take, List.length_drop, List.length_cons, List.length_nil] <;> first | rfl | omega) (by simp only [List.flatMap_append])) ?_
      rintro _ _ ⟨a_32, c_33, rfl, rfl⟩
      refine jA (jG (v := .slice a_32 ((o_ ++ ([((s.getD j c0).1, (s.getD j c0).2)] : List Cell)).length) c_33) rfl) <| jD <| jk <| jB <| jE <| jA (jF (v := nv j) he_13) <| jA (ji (c := ((j + 1 : Nat) : Int)) rfl rfl (wr (by omega))) <| jA (jG (v := iv ((j + 1 : Nat) : Int)) rfl) <| jD <| kH [1] (A := [Res.row (.slice a_32 ((o_ ++ ([((s.getD j c0).1, (s.getD j c0).2)] : List Cell)).length) c_33) 167 2 ((o_ ++ ([((s.getD j c0).1, (s.getD j c0).2)] : List Cell)).length) ((o_ ++ ([((s.getD j c0).1, (s.getD j c0).2)] : List Cell)).flatMap encC)]) rfl ?_
      refine ju (s.length - (j + 1)) (by omega) ⟨j + 1, a_32, c_33, (o_ ++ ([((s.getD j c0).1, (s.getD j c0).2)] : List Cell)), done, by omega, (by (try simp only [List.length_append, List.length_cons, List.length_nil]); omega), (by rw [putL_step hlt] at hR; simp only [hd, hg, hk, Bool.not_true, Bool.not_false, Bool.true_and, Bool.false_and, Bool.or_true, Bool.true_or, Bool.or_false, Bool.false_or, if_true, if_false, Bool.false_eq_true, List.nil_append, List.append_nil, List.append_assoc] at hR ⊢; exact hR), he_7, he_8, he_9, he_10, rfl, he_12, rfl, rfl, rfl⟩
    refine jP (cB (dF h_14)) <| jz <| jj <| jj <| kA <| jB <| jC <| jC <| jE <| jA (jF (v := .bool done) he_12) ?_
    refine jA (kP rfl) <| jD <| jB ?_
    rcases Bool.eq_false_or_eq_true (done) with h_34 | h_34
    · have hd := h_34
      refine jP (cB (cN h_34)) <| jU <| jB <| jC <| jE <| jA (jF (v := .slice xa o_.length xc) he_11) <| jA (jG (v := .slice xa o_.length xc) rfl) <| jD <| jB <| jL ?_
      refine jR (.inl rfl) rfl (jN (v := .slice xa o_.length xc) rfl) (List.Sublist.refl _) ?_
      rw [List.drop_of_length_le (by omega), putL] at hR
      simp only [hd, Bool.not_true, Bool.not_false, Bool.true_and, Bool.false_and, Bool.or_true, Bool.true_or, Bool.or_false, Bool.false_or, if_true, if_false, Bool.false_eq_true, List.nil_append, List.append_nil, List.append_assoc] at hR
      exact ⟨_, _, by rw [← hR] <;> rfl, by rw [← hR] <;> rfl⟩
    have hd := h_34
    refine jO (cB (cN h_34)) <| jE <| jA (jF (v := .slice xa o_.length xc) he_11) <| jA (jF (v := str key) he_8) <| jA (jF (v := str val) he_9) <| jA (kY (ps := [(0, str key), (1, str val)]) (cs := [str key, str val]) rfl (by kernel_rfl)) ?_
    refine jH rfl (kJ (ps := [(0, .agg #[str key, str val])]) (cur := #[str key, str val]) gC gJ gn rfl (by kernel_rfl) (by decide) (by decide)) ?_
    rintro _ _ ⟨a_35, rfl, rfl⟩
    refine jH rfl (kM 1 (q := 1) (news := ([(key, val)] : List Cell).flatMap encC) (n' := (o_ ++ ([(key, val)] : List Cell)).length) (cs' := (o_ ++ ([(key, val)] : List Cell)).flatMap encC) rfl gC gC gq rfl (by' := 32) rfl rfl rfl rfl rfl (fun w hw => Src.sees (hw.see (i := 0) rfl) (oneC _)) (by (try simp only [LE]); omega) (by (try simp only [LE]); omega) (by simp only [List.length_append, List.length_take, List.length_drop, List.length_cons, List.length_nil] <;> first | rfl | omega) (by simp only [List.flatMap_append])) ?_
    rintro _ _ ⟨a_36, c_37, rfl, rfl⟩
    refine jA (jG (v := .slice a_36 ((o_ ++ ([(key, val)] : List Cell)).length) c_37) rfl) <| jD <| jB <| jC <| jE <| jA (jF (v := .slice a_36 ((o_ ++ ([(key, val)] : List Cell)).length) c_37) rfl) <| jA (jG (v := .slice a_36 ((o_ ++ ([(key, val)] : List Cell)).length) c_37) rfl) <| jD <| jB <| jL ?_
    refine kR (pick_perm [1] (A := [Res.row (.slice a_36 ((o_ ++ ([(key, val)] : List Cell)).length) c_37) 167 2 ((o_ ++ ([(key, val)] : List Cell)).length) ((o_ ++ ([(key, val)] : List Cell)).flatMap encC)]) (F := [Res.row (.slice a_35 1 1) 167 2 1 (([(key, val)] : List Cell).flatMap encC)]) rfl).symm <| jR (.inl rfl) rfl (jN (v := .slice a_36 ((o_ ++ ([(key, val)] : List Cell)).length) c_37) rfl) (tS 1 _) ?_
    rw [List.drop_of_length_le (by omega), putL] at hR
    simp only [hd, Bool.not_true, Bool.not_false, Bool.true_and, Bool.false_and, Bool.or_true, Bool.true_or, Bool.or_false, Bool.false_or, if_true, if_false, Bool.false_eq_true, List.nil_append, List.append_nil, List.append_assoc] at hR
    exact ⟨_, _, by rw [← hR] <;> rfl, by rw [← hR] <;> rfl⟩
  refine jS (b := true) rfl rfl rfl (cB (cN h_2)) <| jS (b := true) rfl rfl rfl (cB (cN h_2)) <| jS (b := true) rfl rfl rfl (cB (cN h_2)) <| jA (kG (v := .bool true) (cB (cN h_2)) rfl) <| jD <| jB <| jO (cB rfl) <| jC <| jE <| jA (jF (v := .slice a_1 0 0) rfl) ?_
  refine jA (jF (v := .slice a s.length c) rfl) ?_
  refine jH rfl (kM 0 (q := s.length) (news := s.flatMap encC) (n' := s.length) (cs' := s.flatMap encC) rfl gC gC gq rfl (by' := 32) rfl rfl rfl rfl rfl (fun w hw => Src.sees (hw.seeOut_ hs_a nM) (oneC _)) (by (try simp only [LE]); omega) (by (try simp only [LE]); omega) (by (try simp only [List.length_take, List.length_drop]); first | rfl | omega) rfl) ?_
  rintro _ _ ⟨a_38, c_39, rfl, rfl⟩
  refine jA (jG (v := .slice a_38 s.length c_39) rfl) <| jD <| jB <| jL <| jW <| jR (.inl rfl) rfl (jN (v := .slice a_38 s.length c_39) rfl) (List.Sublist.refl _) ?_
  have he := (putKey_bad1 h_2 : putKey s key val = _)
  exact ⟨_, _, by rw [he] <;> rfl, by rw [he] <;> rfl⟩

theorem C_l02Put (a : Option Addr) (c : Nat) (l : List Str) (x : Str) (hn : l.length ≤ 100000000000) :
    Ct Tryz.prog 168 [.slice a l.length c, str x] [] (fun w_ => Sees w_ (.slice a l.length c) 1 l.length (l.map str)) (fun v A' => (v = .slice a l.length c ∧ addSpan l x = l ∧ A' = []) ∨ ∃ a' c', v = .slice a' (addSpan l x).length c' ∧ A' = [.row (.slice a' (addSpan l x).length c') 9 1 (addSpan l x).length ((addSpan l x).map str)]) := by
  refine Ct.intro Tryz.func168 rfl Tryz.ntmps168 (lb rfl) fun w0 hpre => ?_
  have hs_a : Sees w0 _ _ _ _ := hpre
  refine jC <| jE <| jA (jG (v := .slice none 0 0) rfl) <| jD <| jB <| jC <| jE <| jA (jG (v := iv 0) rfl) <| jD <| jB ?_
  refine jC <| jg <| kC (fun k_ e_ L_ => ∃ j : Nat, (j ≤ l.length) ∧ (∀ i, i < j → geqB (l.getD i []) x = false) ∧ e_ 0 = .slice a l.length c ∧ e_ 1 = str x ∧ e_ 4 = .slice none 0 0 ∧ e_ 5 = nv j ∧ L_ = [] ∧ k_ = l.length - j) _ ⟨0, by omega, (fun i hi => absurd hi (Nat.not_lt_zero i)), rfl, rfl, rfl, rfl, rfl, rfl⟩ ?_
  rintro _ e_1 _ ⟨j, hj, hN, he_2, he_3, he_4, he_5, rfl, rfl⟩
  refine jC <| jC <| jE <| jA (jF (v := nv j) he_5) <| jA (jF (v := .slice a l.length c) he_2) <| jA (jp ks rfl) <| jA (jo rfl rfl) <| jA (jF (v := .bool (decide (((j : Nat) : Int) < ((l.length : Nat) : Int)))) rfl) ?_
  by_cases h_6 : ((j : Nat) : Int) < ((l.length : Nat) : Int)
  · have hlt : j < l.length := by omega
    refine jZ rfl rfl rfl (cB (dT h_6)) (ja (jf (jF (v := .slice a l.length c) he_2))) ?_
    rintro _ _ ⟨rfl, rfl⟩
    refine jZ rfl rfl rfl (cB (dT h_6)) (ja (jf (jF (v := nv j) he_5))) ?_
    rintro _ _ ⟨rfl, rfl⟩
    obtain ⟨hr_7, hr_7b, -⟩ := sees_some hs_a (by omega)
    refine jZ rfl rfl rfl (cB (dT h_6)) (ja (jf (jl (i := j) ks kw hr_7 hr_7b rfl rfl (by omega)))) ?_
    rintro _ _ ⟨rfl, rfl⟩
    refine jZ rfl rfl rfl (cB (dT h_6)) (ja (kK (v := str (l.getD j [])) hs_a nM rfl kv (atS (by omega)))) ?_
    rintro _ _ ⟨rfl, rfl⟩
    refine jZ rfl rfl rfl (cB (dT h_6)) (ja (jf (jF (v := str x) he_3))) ?_
    rintro _ _ ⟨rfl, rfl⟩
    refine jZ rfl rfl rfl (cB (dT h_6)) (ja (jf (PO.lssS rfl rfl))) ?_
    rintro _ _ ⟨rfl, rfl⟩
    refine jA (kG (v := .bool (Op.bytesLess (l.getD j []) x)) (cB (dT h_6)) rfl) <| jD <| jB ?_
    rcases Bool.eq_false_or_eq_true (Op.bytesLess (l.getD j []) x) with h_8 | h_8
    · have hls := h_8
      refine jO (cB h_8) <| jU <| jB <| jg <| jE <| jA (jF (v := nv j) he_5) <| jA (ji (c := ((j + 1 : Nat) : Int)) rfl rfl (wr (by omega))) <| jA (jG (v := iv ((j + 1 : Nat) : Int)) rfl) <| jD <| jk ?_
      refine ju (l.length - (j + 1)) (by omega) ⟨j + 1, by omega, (fun i hi => if h : i = j then h ▸ (by rw [geqB, hls]; rfl) else hN i (by omega)), he_2, he_3, he_4, rfl, rfl, rfl⟩
    have hls := h_8
    have hge : geqB (l.getD j []) x = true := by rw [geqB, hls]; rfl
    refine jP (cB h_8) <| jz <| jj <| jj <| kA <| jB <| jC <| jC <| jE <| jA (jF (v := nv j) he_5) ?_
    refine jA (jF (v := .slice a l.length c) he_2) <| jA (jp ks rfl) <| jA (jo rfl rfl) <| jA (jF (v := .bool (decide (((j : Nat) : Int) < ((l.length : Nat) : Int)))) rfl) <| jZ rfl rfl rfl (cB (dT h_6)) (ja (jf (jF (v := .slice a l.length c) he_2))) ?_
    rintro _ _ ⟨rfl, rfl⟩
    refine jZ rfl rfl rfl (cB (dT h_6)) (ja (jf (jF (v := nv j) he_5))) ?_
    rintro _ _ ⟨rfl, rfl⟩
    refine jZ rfl rfl rfl (cB (dT h_6)) (ja (jf (jl (i := j) ks kw hr_7 hr_7b rfl rfl (by omega)))) ?_
    rintro _ _ ⟨rfl, rfl⟩
    refine jZ rfl rfl rfl (cB (dT h_6)) (ja (kK (v := str (l.getD j [])) hs_a nM rfl kv (atS (by omega)))) ?_
    rintro _ _ ⟨rfl, rfl⟩
    refine jZ rfl rfl rfl (cB (dT h_6)) (ja (jf (jF (v := str x) he_3))) ?_
    rintro _ _ ⟨rfl, rfl⟩
    refine jZ rfl rfl rfl (cB (dT h_6)) (ja (jf (PO.eqlS rfl rfl))) ?_
    rintro _ _ ⟨rfl, rfl⟩
    refine jA (kG (v := .bool (decide ((l.getD j []) = x))) (cB (dT h_6)) rfl) <| jD <| jB ?_
    by_cases h_9 : (l.getD j []) = x
    · have hex := h_9
      refine jO (cB (dT h_9)) <| jC <| jE <| jA (jF (v := .slice a l.length c) he_2) <| jA (jG (v := .slice a l.length c) rfl) <| jD <| jB <| jL <| jW <| jR (.inl rfl) rfl (jN (v := .slice a l.length c) rfl) (List.nil_sublist _) ?_
      exact .inl ⟨rfl, addSpan_put_same hlt hN hge hex, rfl⟩
    have hex := h_9
    refine jP (cB (dF h_9)) <| jU <| jB <| jC <| jE ?_
    refine jH rfl (kJ (ps := []) (cur := #[]) ks kw gQ rfl (by kernel_rfl) (by decide) (by decide)) ?_
    rintro _ _ ⟨a_10, rfl, rfl⟩
    refine jA (jF (v := .slice a l.length c) he_2) <| jA (jF (v := nv j) he_5) ?_
    obtain ⟨hf_11m, hf_11x, hf_11s, hf_11l⟩ := sees_fits hs_a
    refine jA (PO.sliceVh (j := j) ks kw hf_11s rfl rfl (by omega)) ?_
    refine jH rfl (kM 0 (q := j) (news := (l.take j).map str) (n' := (l.take j).length) (cs' := (l.take j).map str) rfl ks ks gO rfl (by' := 16) rfl rfl rfl rfl rfl (fun w hw => Src.sees (hiS (hw.seeOut_ hs_a nM) j (by omega)) (oneS _)) (by (try simp only [LE]); omega) (by (try simp only [LE]); omega) (by (try simp only [List.length_take, List.length_drop]); first | rfl | omega) rfl) ?_
    rintro _ _ ⟨a_12, c_13, rfl, rfl⟩
    refine jA (jF (v := str x) he_3) ?_
    refine jH rfl (kJ (ps := [(0, str x)]) (cur := #[str x]) ks kw gQ rfl (by kernel_rfl) (by decide) (by decide)) ?_
    rintro _ _ ⟨a_14, rfl, rfl⟩
    refine jH rfl (kM 1 (q := 1) (news := ([x] : List Str).map str) (n' := (l.take j ++ ([x] : List Str)).length) (cs' := (l.take j ++ ([x] : List Str)).map str) rfl ks ks gO rfl (by' := 16) rfl rfl rfl rfl rfl (fun w hw => Src.sees (hw.see (i := 0) rfl) (oneS _)) (by (try simp only [LE]); omega) (by (try simp only [LE]); omega) (by simp only [List.length_append, List.length_take, List.length_drop, List.length_cons, List.length_nil] <;> first | rfl | omega) (by simp only [List.map_append])) ?_
    rintro _ _ ⟨a_15, c_16, rfl, rfl⟩
    refine jA (jG (v := .slice a_15 ((l.take j ++ ([x] : List Str)).length) c_16) rfl) <| jD <| jB <| jC <| jE <| jA (jF (v := .slice a_15 ((l.take j ++ ([x] : List Str)).length) c_16) rfl) <| jA (jF (v := .slice a l.length c) he_2) <| jA (jF (v := nv j) he_5) <| jA (PO.sliceVl (i := j) ks kw hf_11s rfl rfl (by omega)) ?_
    refine jH rfl (kM 1 (q := (l.length - j)) (news := ((l.drop j).take (l.length - j)).map str) (n' := ((l.take j ++ ([x] : List Str)) ++ (l.drop j).take (l.length - j)).length) (cs' := ((l.take j ++ ([x] : List Str)) ++ (l.drop j).take (l.length - j)).map str) rfl ks ks gO rfl (by' := 16) rfl rfl rfl rfl rfl (fun w hw => Src.sees (subS (hw.seeOut_ hs_a nM) j l.length (by omega) (by omega)) (oneS _)) (by (try simp only [LE]); omega) (by (try simp only [LE]); omega) (by simp only [List.length_append, List.length_take, List.length_drop, List.length_cons, List.length_nil] <;> first | rfl | omega) (by simp only [List.map_append])) ?_
    rintro _ _ ⟨a_17, c_18, rfl, rfl⟩
    refine jA (jG (v := .slice a_17 (((l.take j ++ ([x] : List Str)) ++ (l.drop j).take (l.length - j)).length) c_18) rfl) <| jD <| jB <| jL <| kR (pick_perm [1] (A := [Res.row (.slice a_17 (((l.take j ++ ([x] : List Str)) ++ (l.drop j).take (l.length - j)).length) c_18) 9 1 (((l.take j ++ ([x] : List Str)) ++ (l.drop j).take (l.length - j)).length) (((l.take j ++ ([x] : List Str)) ++ (l.drop j).take (l.length - j)).map str)]) (F := [Res.row (.slice a_14 1 1) 9 1 1 (([x] : List Str).map str)]) rfl).symm <| jR (.inl rfl) rfl (jN (v := .slice a_17 (((l.take j ++ ([x] : List Str)) ++ (l.drop j).take (l.length - j)).length) c_18) rfl) (tS 1 _) ?_
    have he := addSpan_put_ins hlt hN hge hex
    exact .inr ⟨_, _, by rw [← he] <;> rfl, by rw [← he] <;> rfl⟩
  refine jS (b := false) rfl rfl rfl (cB (dF h_6)) <| jS (b := false) rfl rfl rfl (cB (dF h_6)) <| jS (b := false) rfl rfl rfl (cB (dF h_6)) <| jS (b := false) rfl rfl rfl (cB (dF h_6)) <| jS (b := false) rfl rfl rfl (cB (dF h_6)) <| jS (b := false) rfl rfl rfl (cB (dF h_6)) <| jA (jv (v := .bool false) (cB (dF h_6)) rfl) <| jD <| jB <| jP (cB rfl) ?_
  refine jz <| jj <| jj <| kA <| jB <| jC <| jC <| jE <| jA (jF (v := nv j) he_5) <| jA (jF (v := .slice a l.length c) he_2) ?_
  refine jA (jp ks rfl) <| jA (jo rfl rfl) <| jA (jF (v := .bool (decide (((j : Nat) : Int) < ((l.length : Nat) : Int)))) rfl) <| jS (b := false) rfl rfl rfl (cB (dF h_6)) <| jS (b := false) rfl rfl rfl (cB (dF h_6)) <| jS (b := false) rfl rfl rfl (cB (dF h_6)) <| jS (b := false) rfl rfl rfl (cB (dF h_6)) <| jS (b := false) rfl rfl rfl (cB (dF h_6)) <| jS (b := false) rfl rfl rfl (cB (dF h_6)) <| jA (jv (v := .bool false) (cB (dF h_6)) rfl) ?_
  refine jD <| jB <| jP (cB rfl) <| jU <| jB <| jC <| jE ?_
  refine jH rfl (kJ (ps := []) (cur := #[]) ks kw gQ rfl (by kernel_rfl) (by decide) (by decide)) ?_
  rintro _ _ ⟨a_19, rfl, rfl⟩
  refine jA (jF (v := .slice a l.length c) he_2) <| jA (jF (v := nv j) he_5) ?_
  obtain ⟨hf_20m, hf_20x, hf_20s, hf_20l⟩ := sees_fits hs_a
  refine jA (PO.sliceVh (j := j) ks kw hf_20s rfl rfl (by omega)) ?_
  refine jH rfl (kM 0 (q := j) (news := (l.take j).map str) (n' := (l.take j).length) (cs' := (l.take j).map str) rfl ks ks gO rfl (by' := 16) rfl rfl rfl rfl rfl (fun w hw => Src.sees (hiS (hw.seeOut_ hs_a nM) j (by omega)) (oneS _)) (by (try simp only [LE]); omega) (by (try simp only [LE]); omega) (by (try simp only [List.length_take, List.length_drop]); first | rfl | omega) rfl) ?_
  rintro _ _ ⟨a_21, c_22, rfl, rfl⟩
  refine jA (jF (v := str x) he_3) ?_
  refine jH rfl (kJ (ps := [(0, str x)]) (cur := #[str x]) ks kw gQ rfl (by kernel_rfl) (by decide) (by decide)) ?_
  rintro _ _ ⟨a_23, rfl, rfl⟩
  refine jH rfl (kM 1 (q := 1) (news := ([x] : List Str).map str) (n' := (l.take j ++ ([x] : List Str)).length) (cs' := (l.take j ++ ([x] : List Str)).map str) rfl ks ks gO rfl (by' := 16) rfl rfl rfl rfl rfl (fun w hw => Src.sees (hw.see (i := 0) rfl) (oneS _)) (by (try simp only [LE]); omega) (by (try simp only [LE]); omega) (by simp only [List.length_append, List.length_take, List.length_drop, List.length_cons, List.length_nil] <;> first | rfl | omega) (by simp only [List.map_append])) ?_
  rintro _ _ ⟨a_24, c_25, rfl, rfl⟩
  refine jA (jG (v := .slice a_24 ((l.take j ++ ([x] : List Str)).length) c_25) rfl) <| jD <| jB <| jC <| jE <| jA (jF (v := .slice a_24 ((l.take j ++ ([x] : List Str)).length) c_25) rfl) <| jA (jF (v := .slice a l.length c) he_2) <| jA (jF (v := nv j) he_5) <| jA (PO.sliceVl (i := j) ks kw hf_20s rfl rfl (by omega)) ?_
  refine jH rfl (kM 1 (q := (l.length - j)) (news := ((l.drop j).take (l.length - j)).map str) (n' := ((l.take j ++ ([x] : List Str)) ++ (l.drop j).take (l.length - j)).length) (cs' := ((l.take j ++ ([x] : List Str)) ++ (l.drop j).take (l.length - j)).map str) rfl ks ks gO rfl (by' := 16) rfl rfl rfl rfl rfl (fun w hw => Src.sees (subS (hw.seeOut_ hs_a nM) j l.length (by omega) (by omega)) (oneS _)) (by (try simp only [LE]); omega) (by (try simp only [LE]); omega) (by simp only [List.length_append, List.length_take, List.length_drop, List.length_cons, List.length_nil] <;> first | rfl | omega) (by simp only [List.map_append])) ?_
  rintro _ _ ⟨a_26, c_27, rfl, rfl⟩
  refine jA (jG (v := .slice a_26 (((l.take j ++ ([x] : List Str)) ++ (l.drop j).take (l.length - j)).length) c_27) rfl) <| jD <| jB <| jL <| kR (pick_perm [1] (A := [Res.row (.slice a_26 (((l.take j ++ ([x] : List Str)) ++ (l.drop j).take (l.length - j)).length) c_27) 9 1 (((l.take j ++ ([x] : List Str)) ++ (l.drop j).take (l.length - j)).length) (((l.take j ++ ([x] : List Str)) ++ (l.drop j).take (l.length - j)).map str)]) (F := [Res.row (.slice a_23 1 1) 9 1 1 (([x] : List Str).map str)]) rfl).symm <| jR (.inl rfl) rfl (jN (v := .slice a_26 (((l.take j ++ ([x] : List Str)) ++ (l.drop j).take (l.length - j)).length) c_27) rfl) (tS 1 _) ?_
  have he := addSpan_put_end (by omega) hj hN
  exact .inr ⟨_, _, by rw [← he] <;> rfl, by rw [← he] <;> rfl⟩

theorem C_sAddSpan (a : Option Addr) (c : Nat) (l : List Str) (x : Str) (hn : l.length ≤ 10000000000) :
    Ct Tryz.prog 97 [.slice a l.length c, str x] [] (fun w_ => Sees w_ (.slice a l.length c) 1 l.length (l.map str)) (fun v A' => ∃ a' c', v = .slice a' (addSpan l x).length c' ∧ A' = [.row (.slice a' (addSpan l x).length c') 9 1 (addSpan l x).length ((addSpan l x).map str)]) := by
  refine Ct.intro Tryz.func97 rfl Tryz.ntmps97 (lb rfl) fun w0 hpre => ?_
  have hs_a : Sees w0 _ _ _ _ := hpre
  refine jC <| jE <| jA (jG (v := .slice none 0 0) rfl) <| jD <| jB <| jC <| jE ?_
  refine jH rfl (kJ (ps := []) (cur := #[]) ks kw gQ rfl (by kernel_rfl) (by decide) (by decide)) ?_
  rintro _ _ ⟨a_1, rfl, rfl⟩
  refine jA (jF (v := .slice a l.length c) rfl) <| jA (jF (v := str x) rfl) ?_
  refine jH rfl (jM [] Tryz.call168 rfl (C_l02Put a c l x (by omega)) rfl (fun w hw => hw.seeOut_ hs_a nM)) ?_
  rintro _ _ ⟨_, ⟨rfl, hsame, rfl⟩ | ⟨a_2, c_3, rfl, rfl⟩, rfl⟩
  · have hal3 := addSpan_len l x
    refine jH rfl (kM 0 (q := l.length) (news := l.map str) (n' := l.length) (cs' := l.map str) rfl ks ks gO rfl (by' := 16) rfl rfl rfl rfl rfl (fun w hw => Src.sees (hw.seeOut_ hs_a nM) (oneS _)) (by (try simp only [LE]); omega) (by (try simp only [LE]); omega) (by (try simp only [List.length_take, List.length_drop]); first | rfl | omega) rfl) ?_
    rintro _ _ ⟨a_4, c_5, rfl, rfl⟩
    refine jA (jG (v := .slice a_4 l.length c_5) rfl) <| jD <| jB <| jL <| jR (.inl rfl) rfl (jN (v := .slice a_4 l.length c_5) rfl) (List.Sublist.refl _) ?_
    exact ⟨_, _, by rw [hsame] <;> rfl, by rw [hsame] <;> rfl⟩
  have hal3 := addSpan_len l x
  refine jH rfl (kM 1 (q := ((addSpan l x).length)) (news := (addSpan l x).map str) (n' := (addSpan l x).length) (cs' := (addSpan l x).map str) rfl ks ks gO rfl (by' := 16) rfl rfl rfl rfl rfl (fun w hw => Src.sees (hw.see (i := 0) rfl) (oneS _)) (by (try simp only [LE]); omega) (by (try simp only [LE]); omega) (by (try simp only [List.length_take, List.length_drop]); first | rfl | omega) rfl) ?_
  rintro _ _ ⟨a_6, c_7, rfl, rfl⟩
  refine jA (jG (v := .slice a_6 ((addSpan l x).length) c_7) rfl) <| jD <| jB <| jL <| kR (pick_perm [1] (A := [Res.row (.slice a_6 ((addSpan l x).length) c_7) 9 1 ((addSpan l x).length) ((addSpan l x).map str)]) (F := [Res.row (.slice a_2 ((addSpan l x).length) c_3) 9 1 ((addSpan l x).length) ((addSpan l x).map str)]) rfl).symm <| jR (.inl rfl) rfl (jN (v := .slice a_6 ((addSpan l x).length) c_7) rfl) (tS 1 _) ?_
  exact ⟨_, _, rfl, rfl⟩

theorem C_figure (d : Nat) (hd : d < 10) :
    Ct Tryz.prog 230 [.int .i64 ((d : Nat) : Int)] [] (fun _ => True) (fun v A' => v = .int .u8 ((48 + d : Nat) : Int) ∧ A' = []) := by
  refine Ct.intro Tryz.func230 rfl Tryz.ntmps230 (lb rfl) fun w0 hpre => ?_
  refine jC <| jE <| jA (jG (v := .int .u8 0) rfl) <| jD <| jB <| jC <| jC <| jE <| jA (jF (v := nv d) rfl) <| jA (jo rfl rfl) ?_
  refine jD <| jB ?_
  by_cases h_1 : ((d : Nat) : Int) < 10
  · refine jO (cB (dT h_1)) <| jC <| jE <| jA (jF (v := nv d) rfl) <| jA (ji (c := ((48 + d : Nat) : Int)) rfl rfl (wr (by omega))) <| jA (PO.convI (c := ((48 + d : Nat) : Int)) gg gZ rfl (wr8 (by omega))) <| jA (jG (v := .int .u8 ((48 + d : Nat) : Int)) rfl) <| jD <| jB <| jL ?_
    refine jW <| jR (.inl rfl) rfl (jN (v := .int .u8 ((48 + d : Nat) : Int)) rfl) (List.nil_sublist _) ?_
    exact ⟨rfl, rfl⟩
  exfalso; omega

theorem C_sDecN (k : Nat) (h1 : k ≤ 1000000000000000000) :
    Ct Tryz.prog 172 [.int .i64 ((k : Nat) : Int)] [] (fun _ => True) (fun v A' => v = str (dec ((k : Nat) : Int)) ∧ A' = []) := by
  refine Ct.intro Tryz.func172 rfl Tryz.ntmps172 (lb rfl) fun w0 hpre => ?_
  refine jC <| jE <| jA (jG (v := str []) rfl) <| jD <| jB <| jC <| jC <| jE <| jA (jF (v := nv k) rfl) <| jA (jw rfl rfl) ?_
  refine jD <| jB ?_
  by_cases h_1 : ((k : Nat) : Int) = 0
  · refine jO (cB (dT h_1)) <| jC <| jE <| jA (jG (v := str [48]) rfl) <| jD <| jB <| jL <| jW <| jR (.inl rfl) rfl (jN (v := str [48]) rfl) (List.nil_sublist _) ?_
    refine ⟨?_, rfl⟩
    rw [show ((k : Nat) : Int) = 0 by omega, dec_zero]
  refine jP (cB (dF h_1)) <| jU <| jB <| jC <| jE <| jA (jF (v := nv k) rfl) <| jA (jo rfl rfl) <| jA (jG (v := .bool (decide (((k : Nat) : Int) < 0))) rfl) <| jD <| jB ?_
  refine jC <| jE <| jA (jG (v := str []) rfl) <| jD <| jB <| jC <| jg <| kC (fun k_ e_ L_ => ∃ k1 : Nat, ∃ o_ : Str, (k1 ≤ k) ∧ (o_.length + k1 ≤ k) ∧ (mtAcc k1 o_ = mtAcc k []) ∧ e_ 0 = nv k1 ∧ e_ 2 = str [] ∧ e_ 3 = .bool (decide (((k : Nat) : Int) < 0)) ∧ e_ 4 = str o_ ∧ L_ = [] ∧ k_ = k1 + 1) _ ⟨k, [], by omega, (by simp), rfl, rfl, rfl, rfl, rfl, rfl, rfl⟩ ?_
  rintro _ e_2 _ ⟨k1, o_, hk, hl, hR, he_3, he_4, he_5, he_6, rfl, rfl⟩
  refine jC <| jC <| jE <| jA (jF (v := nv k1) he_3) <| jA (kN rfl rfl) <| jD <| jB ?_
  by_cases h_7 : ((k1 : Nat) : Int) = 0
  · refine jP (cB (cN (dT h_7))) <| jz <| jj <| jj <| kA <| jB <| jC <| jC <| jE <| jA (jF (v := .bool (decide (((k : Nat) : Int) < 0))) he_5) ?_
    refine jD <| jB ?_
    by_cases h_8 : ((k : Nat) : Int) < 0
    · exfalso; omega
    refine jP (cB (dF h_8)) <| jU <| jB <| jC <| jE <| jA (jF (v := str o_) he_6) <| jA (jG (v := str o_) rfl) <| jD <| jB <| jL ?_
    refine jR (.inl rfl) rfl (jN (v := str o_) rfl) (List.nil_sublist _) ?_
    refine ⟨?_, rfl⟩
    rw [dec_nat (by omega), ← hR, mtAcc_zero (by omega)]
  refine jO (cB (cN (dF h_7))) <| jU <| jB <| jg <| jC <| jE <| jA (jF (v := nv k1) he_3) <| jA (PO.remN (c := ((k1 % 10 : Nat) : Int)) rfl rfl (by omega) (by omega) (by omega)) <| jA (jG (v := iv ((k1 % 10 : Nat) : Int)) rfl) <| jD ?_
  refine jB <| jC <| jC <| jE <| jA (jF (v := iv ((k1 % 10 : Nat) : Int)) rfl) <| jA (jo rfl rfl) <| jD <| jB ?_
  by_cases h_9 : ((k1 % 10 : Nat) : Int) < 0
  · exfalso; omega
  refine jP (cB (dF h_9)) <| jU <| jB <| jC <| jE <| jA (jF (v := iv ((k1 % 10 : Nat) : Int)) rfl) ?_
  refine jH rfl (jM [] Tryz.call230 rfl (C_figure (k1 % 10) (by omega)) rfl (fun _ _ => trivial)) ?_
  rintro _ _ ⟨_, ⟨rfl, rfl⟩, rfl⟩
  refine jH rfl (kJ (ps := [(0, .int .u8 ((48 + (k1 % 10) : Nat) : Int))]) (cur := #[.int .u8 ((48 + (k1 % 10) : Nat) : Int)]) gM gi gp rfl (by kernel_rfl) (by decide) (by decide)) ?_
  rintro _ _ ⟨a_10, rfl, rfl⟩
  refine jK (LO.toStr 0 [UInt8.ofNat (48 + (k1 % 10))] rfl gM gZ ky rfl (by rw [List.map_cons, List.map_nil, encB_of _ (by omega)])) <| jA (jF (v := str o_) he_6) <| jA (ki rfl rfl (by (try simp only [List.length_append, List.length_cons, List.length_nil, List.length_drop, List.length_take]); omega)) <| jA (jG (v := str ([UInt8.ofNat (48 + (k1 % 10))] ++ o_)) rfl) <| jD <| jB <| jE <| jA (jF (v := nv k1) he_3) <| jA (PO.quoN (c := ((k1 / 10 : Nat) : Int)) rfl rfl (by omega) (by omega) (by omega) (wr (by omega))) <| jA (jG (v := iv ((k1 / 10 : Nat) : Int)) rfl) ?_
  refine jD <| jk <| kH [] (A := []) rfl ?_
  refine ju (k1 / 10 + 1) (by omega) ⟨(k1 / 10), [UInt8.ofNat (48 + (k1 % 10))] ++ o_, by omega, (by simp only [List.length_append, List.length_cons, List.length_nil]; omega), (by rw [mtAcc_step (by omega)]; exact hR), rfl, he_4, he_5, rfl, rfl, rfl⟩

theorem C_sDec (n : Int) (h0 : 0 ≤ n) (h1 : n ≤ 1000000000000000000) : Ct Tryz.prog 172 [.int .i64 n] [] (fun _ => True) (fun v A' => v = str (dec n) ∧ A' = []) := by
  have := C_sDecN n.toNat (by omega)
  rw [Int.toNat_of_nonneg h0] at this
  exact this

end Go.Proofs.YtghfijncihbojaaGreat

set_option linter.unusedSimpArgs false
set_option linter.unusedVariables false
set_option linter.unnecessarySimpa false
namespace Go.Proofs.YtghfijncihbojaaGreat
open Go Go.RowKit
attribute [local irreducible] JL JC JQ JO LO PO JA JX Ct

theorem C_sReadDec (t : Str) (ht : t.length ≤ 281474976710656) :
    Ct Tryz.prog 229 [str t] [] (fun _ => True) (fun v A' => v = .tuple #[.int .i64 (readDec t).1, .bool (readDec t).2] ∧ A' = []) := by
  refine Ct.intro Tryz.func229 rfl Tryz.ntmps229 (lb rfl) fun w0 hpre => ?_
  refine jC <| jE <| jA (jG (v := iv 0) rfl) <| jA (jG (v := .bool false) rfl) <| jD <| jB <| jC <| jC <| jE <| jA (jF (v := str t) rfl) ?_
  refine jA (kV ky rfl) <| jA (ke rfl rfl) <| jD <| jB ?_
  by_cases h_1 : 10 < (t.length : Int)
  · refine jO (cB (dT h_1)) <| jC <| jE <| jA (jG (v := iv 0) rfl) <| jA (jG (v := .bool false) rfl) <| jD <| jB <| jL <| jW <| kB (.inl rfl) rfl (jN (v := iv 0) rfl) (jN (v := .bool false) rfl) (List.nil_sublist _) ?_
    refine ⟨?_, rfl⟩
    rw [readDec_long (by omega)]
  refine jP (cB (dF h_1)) <| jU <| jB <| jC <| jE <| jA (jG (v := iv 0) rfl) <| jD <| jB <| jC <| jC ?_
  refine jE <| jA (jG (v := iv 0) rfl) <| jD <| jB <| jg <| kC (fun k_ e_ L_ => ∃ j : Nat, ∃ n1 : Int, (j ≤ t.length) ∧ (0 ≤ n1) ∧ (n1 < ((10 ^ j : Nat) : Int)) ∧ (figs n1 (t.drop j) = figs 0 t) ∧ e_ 0 = str t ∧ e_ 4 = iv n1 ∧ e_ 5 = nv j ∧ L_ = [] ∧ k_ = t.length - j) _ ⟨0, 0, by omega, by omega, (by decide), rfl, rfl, rfl, rfl, rfl, rfl⟩ ?_
  rintro _ e_2 _ ⟨j, n1, hj, h0, hb, hR, he_3, he_4, he_5, rfl, rfl⟩
  refine jC <| jC <| jE <| jA (jF (v := nv j) he_5) <| jA (jF (v := str t) he_3) <| jA (kV ky rfl) <| jA (jo rfl rfl) <| jD <| jB ?_
  by_cases h_6 : ((j : Nat) : Int) < (t.length : Int)
  · have hlt : j < t.length := by omega
    have hpj : 10 ^ j ≤ 1000000000 := Nat.le_trans (Nat.pow_le_pow_right (by omega) (show j ≤ 9 by omega)) (by decide)
    refine jO (cB (dT h_6)) <| jU <| jB <| jC <| jg <| jC <| jC <| jE <| jA (jF (v := str t) he_3) <| jA (jF (v := nv j) he_5) ?_
    refine jA (PO.indexS (i := j) (c := t.getD j 0) ky rfl rfl (getD_some (by omega))) ?_
    have hu_7 := UInt8.toNat_lt (t.getD j 0)
    refine jA (jo rfl rfl) <| jA (jF (v := .bool (decide (((t.getD j 0).toNat : Int) < 48))) rfl) ?_
    by_cases h_8 : ((t.getD j 0).toNat : Int) < 48
    · refine jS (b := true) rfl rfl rfl (cB (dT h_8)) <| jS (b := true) rfl rfl rfl (cB (dT h_8)) <| jS (b := true) rfl rfl rfl (cB (dT h_8)) <| jS (b := true) rfl rfl rfl (cB (dT h_8)) <| jA (kG (v := .bool true) (cB (dT h_8)) rfl) <| jD <| jB <| jO (cB rfl) <| jC <| jE ?_
      refine jA (jG (v := iv 0) rfl) <| jA (jG (v := .bool false) rfl) <| jD <| jB <| jL <| jW <| jq <| jW <| jW <| jq ?_
      refine jW <| kB (.inl rfl) rfl (jN (v := iv 0) rfl) (jN (v := .bool false) rfl) (List.nil_sublist _) ?_
      refine ⟨?_, rfl⟩
      rw [figs_step hlt, if_neg (by omega)] at hR
      rw [readDec_figs (by omega), ← hR]
    refine jZ rfl rfl rfl (cB (dF h_8)) (ja (jf (jF (v := str t) he_3))) ?_
    rintro _ _ ⟨rfl, rfl⟩
    refine jZ rfl rfl rfl (cB (dF h_8)) (ja (jf (jF (v := nv j) he_5))) ?_
    rintro _ _ ⟨rfl, rfl⟩
    refine jZ rfl rfl rfl (cB (dF h_8)) (ja (jf (PO.indexS (i := j) (c := t.getD j 0) ky rfl rfl (getD_some (by omega))))) ?_
    rintro _ _ ⟨rfl, rfl⟩
    have hu_9 := UInt8.toNat_lt (t.getD j 0)
    refine jZ rfl rfl rfl (cB (dF h_8)) (ja (jf (ke rfl rfl))) ?_
    rintro _ _ ⟨rfl, rfl⟩
    refine jA (jv (v := .bool (decide (57 < ((t.getD j 0).toNat : Int)))) (cB (dF h_8)) rfl) <| jD <| jB ?_
    by_cases h_10 : 57 < ((t.getD j 0).toNat : Int)
    · refine jO (cB (dT h_10)) <| jC <| jE <| jA (jG (v := iv 0) rfl) <| jA (jG (v := .bool false) rfl) <| jD <| jB <| jL <| jW <| jq ?_
      refine jW <| jW <| jq <| jW <| kB (.inl rfl) rfl (jN (v := iv 0) rfl) (jN (v := .bool false) rfl) (List.nil_sublist _) ?_
      refine ⟨?_, rfl⟩
      rw [figs_step hlt, if_neg (by omega)] at hR
      rw [readDec_figs (by omega), ← hR]
    refine jP (cB (dF h_10)) <| jU <| jB <| jE <| jA (jF (v := iv n1) he_4) <| jA (PO.mul (c := 10 * n1) rfl rfl (wr (by omega))) <| jA (jF (v := str t) he_3) <| jA (jF (v := nv j) he_5) <| jA (PO.indexS (i := j) (c := t.getD j 0) ky rfl rfl (getD_some (by omega))) ?_
    have hu_11 := UInt8.toNat_lt (t.getD j 0)
    refine jA (PO.convI (c := ((t.getD j 0).toNat : Int)) gZ gg rfl (wr (by omega))) <| jA (ji (c := (10 * n1) + ((t.getD j 0).toNat : Int)) rfl rfl (wr (by omega))) <| jA (kW (c := ((10 * n1) + ((t.getD j 0).toNat : Int)) - 48) rfl rfl (wr (by omega))) <| jA (jG (v := iv (((10 * n1) + ((t.getD j 0).toNat : Int)) - 48)) rfl) <| jD <| jk <| jB <| jE <| jA (jF (v := nv j) he_5) <| jA (ji (c := ((j + 1 : Nat) : Int)) rfl rfl (wr (by omega))) ?_
    refine jA (jG (v := iv ((j + 1 : Nat) : Int)) rfl) <| jD ?_
    refine ju (t.length - (j + 1)) (by omega) ⟨j + 1, ((10 * n1) + ((t.getD j 0).toNat : Int)) - 48, by omega, by omega, (by rw [Nat.pow_succ]; omega), (by rw [figs_step hlt, if_pos (by omega)] at hR; exact hR), he_3, rfl, rfl, rfl, rfl⟩
  have hpj : 10 ^ j ≤ 10000000000 := Nat.le_trans (Nat.pow_le_pow_right (by omega) (show j ≤ 10 by omega)) (by decide)
  rw [List.drop_of_length_le (by omega), figs] at hR
  refine jP (cB (dF h_6)) <| jz <| jj <| jj <| kA <| jB <| jC <| jC <| jE <| jA (jF (v := iv n1) he_4) ?_
  refine jA (ke rfl rfl) <| jA (jF (v := .bool (decide (1000000000 < n1))) rfl) ?_
  by_cases h_12 : 1000000000 < n1
  · refine jS (b := true) rfl rfl rfl (cB (dT h_12)) <| jS (b := true) rfl rfl rfl (cB (dT h_12)) <| jS (b := true) rfl rfl rfl (cB (dT h_12)) <| jS (b := true) rfl rfl rfl (cB (dT h_12)) <| jA (kG (v := .bool true) (cB (dT h_12)) rfl) <| jD <| jB <| jO (cB rfl) <| jC <| jE ?_
    refine jA (jG (v := iv 0) rfl) <| jA (jG (v := .bool false) rfl) <| jD <| jB <| jL <| jW <| kB (.inl rfl) rfl (jN (v := iv 0) rfl) (jN (v := .bool false) rfl) (List.nil_sublist _) ?_
    refine ⟨?_, rfl⟩
    rw [readDec_figs (by omega), ← hR]
    simp only
    rw [if_neg (fun h => by simp_all <;> omega)]
  refine jZ rfl rfl rfl (cB (dF h_12)) (ja (jf (jF (v := iv n1) he_4))) ?_
  rintro _ _ ⟨rfl, rfl⟩
  refine jZ rfl rfl rfl (cB (dF h_12)) (jM [] Tryz.call172 rfl (C_sDec n1 (by omega) (by omega)) rfl (fun _ _ => trivial)) ?_
  rintro _ _ ⟨_, ⟨rfl, rfl⟩, rfl⟩
  refine jZ rfl rfl rfl (cB (dF h_12)) (ja (jf (jF (v := str t) he_3))) ?_
  rintro _ _ ⟨rfl, rfl⟩
  refine jZ rfl rfl rfl (cB (dF h_12)) (ja (jf (kj rfl rfl))) ?_
  rintro _ _ ⟨rfl, rfl⟩
  refine jA (jv (v := .bool (!(decide ((dec n1) = t)))) (cB (dF h_12)) rfl) <| jD <| jB ?_
  by_cases h_13 : (dec n1) = t
  · refine jP (cB (cN (dT h_13))) <| jU <| jB <| jC <| jE <| jA (jF (v := iv n1) he_4) <| jA (jG (v := iv n1) rfl) <| jA (jG (v := .bool true) rfl) <| jD <| jB ?_
    refine jL <| kB (.inl rfl) rfl (jN (v := iv n1) rfl) (jN (v := .bool true) rfl) (List.nil_sublist _) ?_
    refine ⟨?_, rfl⟩
    rw [readDec_figs (by omega), ← hR]
    simp only
    rw [if_pos (by refine ⟨?_, ?_⟩ <;> first | omega | simp_all)]
  refine jO (cB (cN (dF h_13))) <| jC <| jE <| jA (jG (v := iv 0) rfl) <| jA (jG (v := .bool false) rfl) <| jD <| jB <| jL <| jW <| kB (.inl rfl) rfl (jN (v := iv 0) rfl) (jN (v := .bool false) rfl) (List.nil_sublist _) ?_
  refine ⟨?_, rfl⟩
  rw [readDec_figs (by omega), ← hR]
  simp only
  rw [if_neg (fun h => by simp_all <;> omega)]

theorem C_sNumOf (t : Str) (ht : t.length ≤ 281474976710656) :
    Ct Tryz.prog 170 [str t] [] (fun _ => True) (fun v A' => v = .int .i64 (numOf t) ∧ A' = []) := by
  refine Ct.intro Tryz.func170 rfl Tryz.ntmps170 (lb rfl) fun w0 hpre => ?_
  refine jC <| jE <| jA (jG (v := iv 0) rfl) <| jD <| jB <| jC <| jE <| jA (jF (v := str t) rfl) ?_
  refine jH rfl (jM [] Tryz.call229 rfl (C_sReadDec t ht) rfl (fun _ _ => trivial)) ?_
  rintro _ _ ⟨_, ⟨rfl, rfl⟩, rfl⟩
  refine jA (jF (v := .tuple #[iv ((readDec t).1), .bool ((readDec t).2)]) rfl) <| jA (jb (v := iv ((readDec t).1)) rfl rfl) <| jA (jb (v := .bool ((readDec t).2)) rfl rfl) <| jA (jG (v := iv ((readDec t).1)) rfl) <| jA (jG (v := .bool ((readDec t).2)) rfl) <| jD <| jB <| jC <| jC <| jE ?_
  refine jA (jF (v := .bool ((readDec t).2)) rfl) <| jA (kP rfl) <| jA (jF (v := .bool (!((readDec t).2))) rfl) ?_
  rcases Bool.eq_false_or_eq_true ((readDec t).2) with h_1 | h_1
  · refine jZ rfl rfl rfl (cB (cN h_1)) (ja (jf (jF (v := iv ((readDec t).1)) rfl))) ?_
    rintro _ _ ⟨rfl, rfl⟩
    refine jZ rfl rfl rfl (cB (cN h_1)) (ja (jf (ke rfl rfl))) ?_
    rintro _ _ ⟨rfl, rfl⟩
    refine jA (jv (v := .bool (decide (999 < ((readDec t).1)))) (cB (cN h_1)) rfl) <| jD <| jB ?_
    by_cases h_2 : 999 < ((readDec t).1)
    · refine jO (cB (dT h_2)) <| jC <| jE <| jA (jG (v := iv 0) rfl) <| jD <| jB <| jL <| jW <| jR (.inl rfl) rfl (jN (v := iv 0) rfl) (List.nil_sublist _) ?_
      refine ⟨?_, rfl⟩
      unfold numOf
      first | rw [if_pos (by omega)] | (rw [if_neg (by omega)] <;> first | rfl | (congr 1; omega))
    refine jP (cB (dF h_2)) <| jU <| jB <| jC <| jE <| jA (jF (v := iv ((readDec t).1)) rfl) <| jA (jG (v := iv ((readDec t).1)) rfl) <| jD <| jB <| jL ?_
    refine jR (.inl rfl) rfl (jN (v := iv ((readDec t).1)) rfl) (List.nil_sublist _) ?_
    refine ⟨?_, rfl⟩
    unfold numOf
    first | rw [if_pos (by omega)] | (rw [if_neg (by omega)] <;> first | rfl | (congr 1; omega))
  refine jS (b := true) rfl rfl rfl (cB (cN h_1)) <| jS (b := true) rfl rfl rfl (cB (cN h_1)) <| jA (kG (v := .bool true) (cB (cN h_1)) rfl) <| jD <| jB <| jO (cB rfl) <| jC <| jE <| jA (jG (v := iv 0) rfl) <| jD ?_
  refine jB <| jL <| jW <| jR (.inl rfl) rfl (jN (v := iv 0) rfl) (List.nil_sublist _) ?_
  refine ⟨?_, rfl⟩
  unfold numOf
  have hz := readDec_no h_1
  first | rw [if_pos (by omega)] | (rw [if_neg (by omega)] <;> first | rfl | (congr 1; omega))

theorem C_joinTouch (a1 a2 e1 e2 : Option Addr) (c1 c2 f1 f2 : Nat) (r w r' w' : List Str) (h1 : r.length ≤ 1000000000) (h2 : w.length ≤ 1000000000) (h3 : r'.length ≤ 1000000000) (h4 : w'.length ≤ 1000000000) :
    Ct Tryz.prog 52 [.agg #[.slice a1 r.length c1, .slice a2 w.length c2], .agg #[.slice e1 r'.length f1, .slice e2 w'.length f2]] [] (fun w_ => Sees w_ (.slice a1 r.length c1) 1 r.length (r.map str) ∧ Sees w_ (.slice a2 w.length c2) 1 w.length (w.map str) ∧ Sees w_ (.slice e1 r'.length f1) 1 r'.length (r'.map str) ∧ Sees w_ (.slice e2 w'.length f2) 1 w'.length (w'.map str)) (fun v A' => ∃ x1 y1 x2 y2, v = .agg #[.slice x1 (r'.foldl addSpan r).length y1, .slice x2 (w'.foldl addSpan w).length y2] ∧ A' = [.row (.slice x1 (r'.foldl addSpan r).length y1) 9 1 (r'.foldl addSpan r).length ((r'.foldl addSpan r).map str), .row (.slice x2 (w'.foldl addSpan w).length y2) 9 1 (w'.foldl addSpan w).length ((w'.foldl addSpan w).map str)]) := by
  refine Ct.intro Tryz.func52 rfl Tryz.ntmps52 (lb rfl) fun w0 hpre => ?_
  have hs_a1 : Sees w0 _ _ _ _ := hpre.1
  have hs_a2 : Sees w0 _ _ _ _ := hpre.2.1
  have hs_e1 : Sees w0 _ _ _ _ := hpre.2.2.1
  have hs_e2 : Sees w0 _ _ _ _ := hpre.2.2.2
  refine jC <| jE ?_
  refine jH rfl (jy (cs := [.slice a1 r.length c1, .slice a2 w.length c2]) rfl rfl) ?_
  rintro _ _ ⟨b_1, rfl, rfl⟩
  refine jH rfl (jy (cs := [.slice e1 r'.length f1, .slice e2 w'.length f2]) rfl rfl) ?_
  rintro _ _ ⟨b_2, rfl, rfl⟩
  refine jH rfl (jn (z := .agg #[.slice none 0 0, .slice none 0 0]) (cs := [.slice none 0 0, .slice none 0 0]) gU rfl) ?_
  rintro _ _ ⟨b_3, rfl, rfl⟩
  refine jD <| jB <| jC ?_
  refine JC.cut (fun e_ L_ => ∃ q : Nat, ∃ x1 : Option Addr, ∃ y1 : Nat, ∃ x2 : Option Addr, ∃ y2 : Nat, e_ 3 = .pointer (some ⟨b_2, 0, none⟩) ∧ e_ 4 = .pointer (some ⟨b_3, 0, none⟩) ∧ e_ 5 = .pointer (some ⟨q, 0, none⟩) ∧ L_ = [bk q 28 [.slice x1 r.length y1, .slice x2 w.length y2], Res.row (.slice x1 r.length y1) 9 1 r.length (r.map str), Res.row (.slice x2 w.length y2) 9 1 w.length (w.map str), bk b_3 28 [.slice none 0 0, .slice none 0 0], bk b_2 28 [.slice e1 r'.length f1, .slice e2 w'.length f2]]) ?_ ?_
  · refine jr [bk b_3 28 [.slice none 0 0, .slice none 0 0], bk b_2 28 [.slice e1 r'.length f1, .slice e2 w'.length f2], bk b_1 28 [.slice a1 r.length c1, .slice a2 w.length c2]] 10 mixed (by simp) <| jI 1 rfl (jJ fo28_0 rfl) <| jh 2 rfl (jV 2 (v := .slice a1 r.length c1) rfl rfl gF rfl) <| jI 5 rfl (jJ fo28_1 rfl) <| jh 6 rfl (jV 2 (v := .slice a2 w.length c2) rfl rfl gF rfl) ?_
    refine JA.three (i := 0) (j := 4) (k := 9) (by kernel_rfl) ?_ ?_ ?_
    · refine jY rfl rfl (kJ (ps := []) (cur := #[]) ks kw gQ rfl (by kernel_rfl) (by decide) (by decide)) ?_
      rintro _ _ ⟨a_13, rfl, rfl⟩
      refine ⟨by simp, ?_⟩
      refine JA.three (i := 3) (j := 4) (k := 9) (by kernel_rfl) ?_ ?_ ?_
      · refine jY rfl rfl (kM 0 (q := r.length) (news := r.map str) (n' := r.length) (cs' := r.map str) rfl ks ks gO rfl (by' := 16) rfl rfl rfl rfl rfl (fun w hw => Src.sees (hw.seeOut_ hs_a1 nM) (oneS _)) (by (try simp only [LE]); omega) (by (try simp only [LE]); omega) (by (try simp only [List.length_take, List.length_drop]); first | rfl | omega) rfl) ?_
        rintro _ _ ⟨a_18, c_19, rfl, rfl⟩
        refine ⟨by simp, ?_⟩
        refine kX (i := 4) (j := 9) (by kernel_rfl) ?_ ?_
        · refine jY rfl rfl (kJ (ps := []) (cur := #[]) ks kw gQ rfl (by kernel_rfl) (by decide) (by decide)) ?_
          rintro _ _ ⟨a_22, rfl, rfl⟩
          refine ⟨by simp, ?_⟩
          refine kX (i := 7) (j := 9) (by kernel_rfl) ?_ ?_
          · refine jY rfl rfl (kM 0 (q := w.length) (news := w.map str) (n' := w.length) (cs' := w.map str) rfl ks ks gO rfl (by' := 16) rfl rfl rfl rfl rfl (fun w hw => Src.sees (hw.seeOut_ hs_a2 nM) (oneS _)) (by (try simp only [LE]); omega) (by (try simp only [LE]); omega) (by (try simp only [List.length_take, List.length_drop]); first | rfl | omega) rfl) ?_
            rintro _ _ ⟨a_26, c_27, rfl, rfl⟩
            refine ⟨by simp, ?_⟩
            refine jI 8 rfl (kY (ps := [(0, .slice a_18 r.length c_19), (1, .slice a_26 w.length c_27)]) (cs := [.slice a_18 r.length c_19, .slice a_26 w.length c_27]) rfl (by kernel_rfl)) <| jQ (i := 9) ?_
            refine jY rfl rfl (jn (z := .agg #[.slice none 0 0, .slice none 0 0]) (cs := [.slice none 0 0, .slice none 0 0]) gU rfl) ?_
            rintro _ _ ⟨b_29, rfl, rfl⟩
            refine ⟨by simp, ?_⟩
            refine jQ (i := 10) ?_
            refine jx rfl (jT 0 (vs := [.slice a_18 r.length c_19, .slice a_26 w.length c_27]) (cs' := [.slice a_18 r.length c_19, .slice a_26 w.length c_27]) rfl rfl rfl rfl kx rfl rfl (lb rfl) rfl) ?_
            rintro _ _ rfl
            refine kH [0, 1, 0, 0, 0] (A := [bk b_29 28 [.slice a_18 r.length c_19, .slice a_26 w.length c_27], Res.row (.slice a_18 r.length c_19) 9 1 r.length (r.map str), Res.row (.slice a_26 w.length c_27) 9 1 w.length (w.map str), bk b_3 28 [.slice none 0 0, .slice none 0 0], bk b_2 28 [.slice e1 r'.length f1, .slice e2 w'.length f2]]) rfl ?_
            exact kT ⟨b_29, a_18, c_19, a_26, c_27, rfl, rfl, rfl, rfl⟩
          refine jY rfl rfl (jn (z := .agg #[.slice none 0 0, .slice none 0 0]) (cs := [.slice none 0 0, .slice none 0 0]) gU rfl) ?_
          rintro _ _ ⟨b_30, rfl, rfl⟩
          refine ⟨by simp, ?_⟩
          refine jQ (i := 7) ?_
          refine jY rfl rfl (kM 1 (q := w.length) (news := w.map str) (n' := w.length) (cs' := w.map str) rfl ks ks gO rfl (by' := 16) rfl rfl rfl rfl rfl (fun w hw => Src.sees (hw.seeOut_ hs_a2 nM) (oneS _)) (by (try simp only [LE]); omega) (by (try simp only [LE]); omega) (by (try simp only [List.length_take, List.length_drop]); first | rfl | omega) rfl) ?_
          rintro _ _ ⟨a_33, c_34, rfl, rfl⟩
          refine ⟨by simp, ?_⟩
          refine jI 8 rfl (kY (ps := [(0, .slice a_18 r.length c_19), (1, .slice a_33 w.length c_34)]) (cs := [.slice a_18 r.length c_19, .slice a_33 w.length c_34]) rfl (by kernel_rfl)) <| jQ (i := 10) ?_
          refine jx rfl (jT 0 (vs := [.slice a_18 r.length c_19, .slice a_33 w.length c_34]) (cs' := [.slice a_18 r.length c_19, .slice a_33 w.length c_34]) rfl rfl rfl rfl kx rfl rfl (lb rfl) rfl) ?_
          rintro _ _ rfl
          refine kH [0, 1, 0, 0, 0] (A := [bk b_30 28 [.slice a_18 r.length c_19, .slice a_33 w.length c_34], Res.row (.slice a_18 r.length c_19) 9 1 r.length (r.map str), Res.row (.slice a_33 w.length c_34) 9 1 w.length (w.map str), bk b_3 28 [.slice none 0 0, .slice none 0 0], bk b_2 28 [.slice e1 r'.length f1, .slice e2 w'.length f2]]) rfl ?_
          exact kT ⟨b_30, a_18, c_19, a_33, c_34, rfl, rfl, rfl, rfl⟩
        refine jY rfl rfl (jn (z := .agg #[.slice none 0 0, .slice none 0 0]) (cs := [.slice none 0 0, .slice none 0 0]) gU rfl) ?_
        rintro _ _ ⟨b_35, rfl, rfl⟩
        refine ⟨by simp, ?_⟩
        refine jQ (i := 4) ?_
        refine jY rfl rfl (kJ (ps := []) (cur := #[]) ks kw gQ rfl (by kernel_rfl) (by decide) (by decide)) ?_
        rintro _ _ ⟨a_37, rfl, rfl⟩
        refine ⟨by simp, ?_⟩
        refine jQ (i := 7) ?_
        refine jY rfl rfl (kM 0 (q := w.length) (news := w.map str) (n' := w.length) (cs' := w.map str) rfl ks ks gO rfl (by' := 16) rfl rfl rfl rfl rfl (fun w hw => Src.sees (hw.seeOut_ hs_a2 nM) (oneS _)) (by (try simp only [LE]); omega) (by (try simp only [LE]); omega) (by (try simp only [List.length_take, List.length_drop]); first | rfl | omega) rfl) ?_
        rintro _ _ ⟨a_40, c_41, rfl, rfl⟩
        refine ⟨by simp, ?_⟩
        refine jI 8 rfl (kY (ps := [(0, .slice a_18 r.length c_19), (1, .slice a_40 w.length c_41)]) (cs := [.slice a_18 r.length c_19, .slice a_40 w.length c_41]) rfl (by kernel_rfl)) <| jQ (i := 10) ?_
        refine jx rfl (jT 1 (vs := [.slice a_18 r.length c_19, .slice a_40 w.length c_41]) (cs' := [.slice a_18 r.length c_19, .slice a_40 w.length c_41]) rfl rfl rfl rfl kx rfl rfl (lb rfl) rfl) ?_
        rintro _ _ rfl
        refine kH [1, 1, 0, 0, 0] (A := [bk b_35 28 [.slice a_18 r.length c_19, .slice a_40 w.length c_41], Res.row (.slice a_18 r.length c_19) 9 1 r.length (r.map str), Res.row (.slice a_40 w.length c_41) 9 1 w.length (w.map str), bk b_3 28 [.slice none 0 0, .slice none 0 0], bk b_2 28 [.slice e1 r'.length f1, .slice e2 w'.length f2]]) rfl ?_
        exact kT ⟨b_35, a_18, c_19, a_40, c_41, rfl, rfl, rfl, rfl⟩
      · refine jY rfl rfl (kJ (ps := []) (cur := #[]) ks kw gQ rfl (by kernel_rfl) (by decide) (by decide)) ?_
        rintro _ _ ⟨a_42, rfl, rfl⟩
        refine ⟨by simp, ?_⟩
        refine kX (i := 3) (j := 9) (by kernel_rfl) ?_ ?_
        · refine jY rfl rfl (kM 1 (q := r.length) (news := r.map str) (n' := r.length) (cs' := r.map str) rfl ks ks gO rfl (by' := 16) rfl rfl rfl rfl rfl (fun w hw => Src.sees (hw.seeOut_ hs_a1 nM) (oneS _)) (by (try simp only [LE]); omega) (by (try simp only [LE]); omega) (by (try simp only [List.length_take, List.length_drop]); first | rfl | omega) rfl) ?_
          rintro _ _ ⟨a_46, c_47, rfl, rfl⟩
          refine ⟨by simp, ?_⟩
          refine kX (i := 7) (j := 9) (by kernel_rfl) ?_ ?_
          · refine jY rfl rfl (kM 0 (q := w.length) (news := w.map str) (n' := w.length) (cs' := w.map str) rfl ks ks gO rfl (by' := 16) rfl rfl rfl rfl rfl (fun w hw => Src.sees (hw.seeOut_ hs_a2 nM) (oneS _)) (by (try simp only [LE]); omega) (by (try simp only [LE]); omega) (by (try simp only [List.length_take, List.length_drop]); first | rfl | omega) rfl) ?_
            rintro _ _ ⟨a_51, c_52, rfl, rfl⟩
            refine ⟨by simp, ?_⟩
            refine jI 8 rfl (kY (ps := [(0, .slice a_46 r.length c_47), (1, .slice a_51 w.length c_52)]) (cs := [.slice a_46 r.length c_47, .slice a_51 w.length c_52]) rfl (by kernel_rfl)) <| jQ (i := 9) ?_
            refine jY rfl rfl (jn (z := .agg #[.slice none 0 0, .slice none 0 0]) (cs := [.slice none 0 0, .slice none 0 0]) gU rfl) ?_
            rintro _ _ ⟨b_54, rfl, rfl⟩
            refine ⟨by simp, ?_⟩
            refine jQ (i := 10) ?_
            refine jx rfl (jT 0 (vs := [.slice a_46 r.length c_47, .slice a_51 w.length c_52]) (cs' := [.slice a_46 r.length c_47, .slice a_51 w.length c_52]) rfl rfl rfl rfl kx rfl rfl (lb rfl) rfl) ?_
            rintro _ _ rfl
            refine kH [0, 1, 0, 0, 0] (A := [bk b_54 28 [.slice a_46 r.length c_47, .slice a_51 w.length c_52], Res.row (.slice a_46 r.length c_47) 9 1 r.length (r.map str), Res.row (.slice a_51 w.length c_52) 9 1 w.length (w.map str), bk b_3 28 [.slice none 0 0, .slice none 0 0], bk b_2 28 [.slice e1 r'.length f1, .slice e2 w'.length f2]]) rfl ?_
            exact kT ⟨b_54, a_46, c_47, a_51, c_52, rfl, rfl, rfl, rfl⟩
          refine jY rfl rfl (jn (z := .agg #[.slice none 0 0, .slice none 0 0]) (cs := [.slice none 0 0, .slice none 0 0]) gU rfl) ?_
          rintro _ _ ⟨b_55, rfl, rfl⟩
          refine ⟨by simp, ?_⟩
          refine jQ (i := 7) ?_
          refine jY rfl rfl (kM 1 (q := w.length) (news := w.map str) (n' := w.length) (cs' := w.map str) rfl ks ks gO rfl (by' := 16) rfl rfl rfl rfl rfl (fun w hw => Src.sees (hw.seeOut_ hs_a2 nM) (oneS _)) (by (try simp only [LE]); omega) (by (try simp only [LE]); omega) (by (try simp only [List.length_take, List.length_drop]); first | rfl | omega) rfl) ?_
          rintro _ _ ⟨a_58, c_59, rfl, rfl⟩
          refine ⟨by simp, ?_⟩
          refine jI 8 rfl (kY (ps := [(0, .slice a_46 r.length c_47), (1, .slice a_58 w.length c_59)]) (cs := [.slice a_46 r.length c_47, .slice a_58 w.length c_59]) rfl (by kernel_rfl)) <| jQ (i := 10) ?_
          refine jx rfl (jT 0 (vs := [.slice a_46 r.length c_47, .slice a_58 w.length c_59]) (cs' := [.slice a_46 r.length c_47, .slice a_58 w.length c_59]) rfl rfl rfl rfl kx rfl rfl (lb rfl) rfl) ?_
          rintro _ _ rfl
          refine kH [0, 1, 0, 0, 0] (A := [bk b_55 28 [.slice a_46 r.length c_47, .slice a_58 w.length c_59], Res.row (.slice a_46 r.length c_47) 9 1 r.length (r.map str), Res.row (.slice a_58 w.length c_59) 9 1 w.length (w.map str), bk b_3 28 [.slice none 0 0, .slice none 0 0], bk b_2 28 [.slice e1 r'.length f1, .slice e2 w'.length f2]]) rfl ?_
          exact kT ⟨b_55, a_46, c_47, a_58, c_59, rfl, rfl, rfl, rfl⟩
        refine jY rfl rfl (jn (z := .agg #[.slice none 0 0, .slice none 0 0]) (cs := [.slice none 0 0, .slice none 0 0]) gU rfl) ?_
        rintro _ _ ⟨b_60, rfl, rfl⟩
        refine ⟨by simp, ?_⟩
        refine jQ (i := 3) ?_
        refine jY rfl rfl (kM 2 (q := r.length) (news := r.map str) (n' := r.length) (cs' := r.map str) rfl ks ks gO rfl (by' := 16) rfl rfl rfl rfl rfl (fun w hw => Src.sees (hw.seeOut_ hs_a1 nM) (oneS _)) (by (try simp only [LE]); omega) (by (try simp only [LE]); omega) (by (try simp only [List.length_take, List.length_drop]); first | rfl | omega) rfl) ?_
        rintro _ _ ⟨a_63, c_64, rfl, rfl⟩
        refine ⟨by simp, ?_⟩
        refine jQ (i := 7) ?_
        refine jY rfl rfl (kM 1 (q := w.length) (news := w.map str) (n' := w.length) (cs' := w.map str) rfl ks ks gO rfl (by' := 16) rfl rfl rfl rfl rfl (fun w hw => Src.sees (hw.seeOut_ hs_a2 nM) (oneS _)) (by (try simp only [LE]); omega) (by (try simp only [LE]); omega) (by (try simp only [List.length_take, List.length_drop]); first | rfl | omega) rfl) ?_
        rintro _ _ ⟨a_67, c_68, rfl, rfl⟩
        refine ⟨by simp, ?_⟩
        refine jI 8 rfl (kY (ps := [(0, .slice a_63 r.length c_64), (1, .slice a_67 w.length c_68)]) (cs := [.slice a_63 r.length c_64, .slice a_67 w.length c_68]) rfl (by kernel_rfl)) <| jQ (i := 10) ?_
        refine jx rfl (jT 0 (vs := [.slice a_63 r.length c_64, .slice a_67 w.length c_68]) (cs' := [.slice a_63 r.length c_64, .slice a_67 w.length c_68]) rfl rfl rfl rfl kx rfl rfl (lb rfl) rfl) ?_
        rintro _ _ rfl
        refine kH [0, 1, 0, 0, 0] (A := [bk b_60 28 [.slice a_63 r.length c_64, .slice a_67 w.length c_68], Res.row (.slice a_63 r.length c_64) 9 1 r.length (r.map str), Res.row (.slice a_67 w.length c_68) 9 1 w.length (w.map str), bk b_3 28 [.slice none 0 0, .slice none 0 0], bk b_2 28 [.slice e1 r'.length f1, .slice e2 w'.length f2]]) rfl ?_
        exact kT ⟨b_60, a_63, c_64, a_67, c_68, rfl, rfl, rfl, rfl⟩
      refine jY rfl rfl (jn (z := .agg #[.slice none 0 0, .slice none 0 0]) (cs := [.slice none 0 0, .slice none 0 0]) gU rfl) ?_
      rintro _ _ ⟨b_69, rfl, rfl⟩
      refine ⟨by simp, ?_⟩
      refine kX (i := 3) (j := 4) (by kernel_rfl) ?_ ?_
      · refine jY rfl rfl (kM 1 (q := r.length) (news := r.map str) (n' := r.length) (cs' := r.map str) rfl ks ks gO rfl (by' := 16) rfl rfl rfl rfl rfl (fun w hw => Src.sees (hw.seeOut_ hs_a1 nM) (oneS _)) (by (try simp only [LE]); omega) (by (try simp only [LE]); omega) (by (try simp only [List.length_take, List.length_drop]); first | rfl | omega) rfl) ?_
        rintro _ _ ⟨a_73, c_74, rfl, rfl⟩
        refine ⟨by simp, ?_⟩
        refine jQ (i := 4) ?_
        refine jY rfl rfl (kJ (ps := []) (cur := #[]) ks kw gQ rfl (by kernel_rfl) (by decide) (by decide)) ?_
        rintro _ _ ⟨a_76, rfl, rfl⟩
        refine ⟨by simp, ?_⟩
        refine jQ (i := 7) ?_
        refine jY rfl rfl (kM 0 (q := w.length) (news := w.map str) (n' := w.length) (cs' := w.map str) rfl ks ks gO rfl (by' := 16) rfl rfl rfl rfl rfl (fun w hw => Src.sees (hw.seeOut_ hs_a2 nM) (oneS _)) (by (try simp only [LE]); omega) (by (try simp only [LE]); omega) (by (try simp only [List.length_take, List.length_drop]); first | rfl | omega) rfl) ?_
        rintro _ _ ⟨a_79, c_80, rfl, rfl⟩
        refine ⟨by simp, ?_⟩
        refine jI 8 rfl (kY (ps := [(0, .slice a_73 r.length c_74), (1, .slice a_79 w.length c_80)]) (cs := [.slice a_73 r.length c_74, .slice a_79 w.length c_80]) rfl (by kernel_rfl)) <| jQ (i := 10) ?_
        refine jx rfl (jT 1 (vs := [.slice a_73 r.length c_74, .slice a_79 w.length c_80]) (cs' := [.slice a_73 r.length c_74, .slice a_79 w.length c_80]) rfl rfl rfl rfl kx rfl rfl (lb rfl) rfl) ?_
        rintro _ _ rfl
        refine kH [1, 1, 0, 0, 0] (A := [bk b_69 28 [.slice a_73 r.length c_74, .slice a_79 w.length c_80], Res.row (.slice a_73 r.length c_74) 9 1 r.length (r.map str), Res.row (.slice a_79 w.length c_80) 9 1 w.length (w.map str), bk b_3 28 [.slice none 0 0, .slice none 0 0], bk b_2 28 [.slice e1 r'.length f1, .slice e2 w'.length f2]]) rfl ?_
        exact kT ⟨b_69, a_73, c_74, a_79, c_80, rfl, rfl, rfl, rfl⟩
      refine jY rfl rfl (kJ (ps := []) (cur := #[]) ks kw gQ rfl (by kernel_rfl) (by decide) (by decide)) ?_
      rintro _ _ ⟨a_81, rfl, rfl⟩
      refine ⟨by simp, ?_⟩
      refine jQ (i := 3) ?_
      refine jY rfl rfl (kM 2 (q := r.length) (news := r.map str) (n' := r.length) (cs' := r.map str) rfl ks ks gO rfl (by' := 16) rfl rfl rfl rfl rfl (fun w hw => Src.sees (hw.seeOut_ hs_a1 nM) (oneS _)) (by (try simp only [LE]); omega) (by (try simp only [LE]); omega) (by (try simp only [List.length_take, List.length_drop]); first | rfl | omega) rfl) ?_
      rintro _ _ ⟨a_84, c_85, rfl, rfl⟩
      refine ⟨by simp, ?_⟩
      refine jQ (i := 7) ?_
      refine jY rfl rfl (kM 0 (q := w.length) (news := w.map str) (n' := w.length) (cs' := w.map str) rfl ks ks gO rfl (by' := 16) rfl rfl rfl rfl rfl (fun w hw => Src.sees (hw.seeOut_ hs_a2 nM) (oneS _)) (by (try simp only [LE]); omega) (by (try simp only [LE]); omega) (by (try simp only [List.length_take, List.length_drop]); first | rfl | omega) rfl) ?_
      rintro _ _ ⟨a_88, c_89, rfl, rfl⟩
      refine ⟨by simp, ?_⟩
      refine jI 8 rfl (kY (ps := [(0, .slice a_84 r.length c_85), (1, .slice a_88 w.length c_89)]) (cs := [.slice a_84 r.length c_85, .slice a_88 w.length c_89]) rfl (by kernel_rfl)) <| jQ (i := 10) ?_
      refine jx rfl (jT 1 (vs := [.slice a_84 r.length c_85, .slice a_88 w.length c_89]) (cs' := [.slice a_84 r.length c_85, .slice a_88 w.length c_89]) rfl rfl rfl rfl kx rfl rfl (lb rfl) rfl) ?_
      rintro _ _ rfl
      refine kH [1, 1, 0, 0, 0] (A := [bk b_69 28 [.slice a_84 r.length c_85, .slice a_88 w.length c_89], Res.row (.slice a_84 r.length c_85) 9 1 r.length (r.map str), Res.row (.slice a_88 w.length c_89) 9 1 w.length (w.map str), bk b_3 28 [.slice none 0 0, .slice none 0 0], bk b_2 28 [.slice e1 r'.length f1, .slice e2 w'.length f2]]) rfl ?_
      exact kT ⟨b_69, a_84, c_85, a_88, c_89, rfl, rfl, rfl, rfl⟩
    · refine jY rfl rfl (kJ (ps := []) (cur := #[]) ks kw gQ rfl (by kernel_rfl) (by decide) (by decide)) ?_
      rintro _ _ ⟨a_90, rfl, rfl⟩
      refine ⟨by simp, ?_⟩
      refine kX (i := 0) (j := 9) (by kernel_rfl) ?_ ?_
      · refine jY rfl rfl (kJ (ps := []) (cur := #[]) ks kw gQ rfl (by kernel_rfl) (by decide) (by decide)) ?_
        rintro _ _ ⟨a_93, rfl, rfl⟩
        refine ⟨by simp, ?_⟩
        refine kX (i := 3) (j := 9) (by kernel_rfl) ?_ ?_
        · refine jY rfl rfl (kM 0 (q := r.length) (news := r.map str) (n' := r.length) (cs' := r.map str) rfl ks ks gO rfl (by' := 16) rfl rfl rfl rfl rfl (fun w hw => Src.sees (hw.seeOut_ hs_a1 nM) (oneS _)) (by (try simp only [LE]); omega) (by (try simp only [LE]); omega) (by (try simp only [List.length_take, List.length_drop]); first | rfl | omega) rfl) ?_
          rintro _ _ ⟨a_97, c_98, rfl, rfl⟩
          refine ⟨by simp, ?_⟩
          refine kX (i := 7) (j := 9) (by kernel_rfl) ?_ ?_
          · refine jY rfl rfl (kM 1 (q := w.length) (news := w.map str) (n' := w.length) (cs' := w.map str) rfl ks ks gO rfl (by' := 16) rfl rfl rfl rfl rfl (fun w hw => Src.sees (hw.seeOut_ hs_a2 nM) (oneS _)) (by (try simp only [LE]); omega) (by (try simp only [LE]); omega) (by (try simp only [List.length_take, List.length_drop]); first | rfl | omega) rfl) ?_
            rintro _ _ ⟨a_102, c_103, rfl, rfl⟩
            refine ⟨by simp, ?_⟩
            refine jI 8 rfl (kY (ps := [(0, .slice a_97 r.length c_98), (1, .slice a_102 w.length c_103)]) (cs := [.slice a_97 r.length c_98, .slice a_102 w.length c_103]) rfl (by kernel_rfl)) <| jQ (i := 9) ?_
            refine jY rfl rfl (jn (z := .agg #[.slice none 0 0, .slice none 0 0]) (cs := [.slice none 0 0, .slice none 0 0]) gU rfl) ?_
            rintro _ _ ⟨b_105, rfl, rfl⟩
            refine ⟨by simp, ?_⟩
            refine jQ (i := 10) ?_
            refine jx rfl (jT 0 (vs := [.slice a_97 r.length c_98, .slice a_102 w.length c_103]) (cs' := [.slice a_97 r.length c_98, .slice a_102 w.length c_103]) rfl rfl rfl rfl kx rfl rfl (lb rfl) rfl) ?_
            rintro _ _ rfl
            refine kH [0, 0, 0, 0, 0] (A := [bk b_105 28 [.slice a_97 r.length c_98, .slice a_102 w.length c_103], Res.row (.slice a_97 r.length c_98) 9 1 r.length (r.map str), Res.row (.slice a_102 w.length c_103) 9 1 w.length (w.map str), bk b_3 28 [.slice none 0 0, .slice none 0 0], bk b_2 28 [.slice e1 r'.length f1, .slice e2 w'.length f2]]) rfl ?_
            exact kT ⟨b_105, a_97, c_98, a_102, c_103, rfl, rfl, rfl, rfl⟩
          refine jY rfl rfl (jn (z := .agg #[.slice none 0 0, .slice none 0 0]) (cs := [.slice none 0 0, .slice none 0 0]) gU rfl) ?_
          rintro _ _ ⟨b_106, rfl, rfl⟩
          refine ⟨by simp, ?_⟩
          refine jQ (i := 7) ?_
          refine jY rfl rfl (kM 2 (q := w.length) (news := w.map str) (n' := w.length) (cs' := w.map str) rfl ks ks gO rfl (by' := 16) rfl rfl rfl rfl rfl (fun w hw => Src.sees (hw.seeOut_ hs_a2 nM) (oneS _)) (by (try simp only [LE]); omega) (by (try simp only [LE]); omega) (by (try simp only [List.length_take, List.length_drop]); first | rfl | omega) rfl) ?_
          rintro _ _ ⟨a_109, c_110, rfl, rfl⟩
          refine ⟨by simp, ?_⟩
          refine jI 8 rfl (kY (ps := [(0, .slice a_97 r.length c_98), (1, .slice a_109 w.length c_110)]) (cs := [.slice a_97 r.length c_98, .slice a_109 w.length c_110]) rfl (by kernel_rfl)) <| jQ (i := 10) ?_
          refine jx rfl (jT 0 (vs := [.slice a_97 r.length c_98, .slice a_109 w.length c_110]) (cs' := [.slice a_97 r.length c_98, .slice a_109 w.length c_110]) rfl rfl rfl rfl kx rfl rfl (lb rfl) rfl) ?_
          rintro _ _ rfl
          refine kH [0, 0, 0, 0, 0] (A := [bk b_106 28 [.slice a_97 r.length c_98, .slice a_109 w.length c_110], Res.row (.slice a_97 r.length c_98) 9 1 r.length (r.map str), Res.row (.slice a_109 w.length c_110) 9 1 w.length (w.map str), bk b_3 28 [.slice none 0 0, .slice none 0 0], bk b_2 28 [.slice e1 r'.length f1, .slice e2 w'.length f2]]) rfl ?_
          exact kT ⟨b_106, a_97, c_98, a_109, c_110, rfl, rfl, rfl, rfl⟩
        refine jY rfl rfl (jn (z := .agg #[.slice none 0 0, .slice none 0 0]) (cs := [.slice none 0 0, .slice none 0 0]) gU rfl) ?_
        rintro _ _ ⟨b_111, rfl, rfl⟩
        refine ⟨by simp, ?_⟩
        refine jQ (i := 3) ?_
        refine jY rfl rfl (kM 1 (q := r.length) (news := r.map str) (n' := r.length) (cs' := r.map str) rfl ks ks gO rfl (by' := 16) rfl rfl rfl rfl rfl (fun w hw => Src.sees (hw.seeOut_ hs_a1 nM) (oneS _)) (by (try simp only [LE]); omega) (by (try simp only [LE]); omega) (by (try simp only [List.length_take, List.length_drop]); first | rfl | omega) rfl) ?_
        rintro _ _ ⟨a_114, c_115, rfl, rfl⟩
        refine ⟨by simp, ?_⟩
        refine jQ (i := 7) ?_
        refine jY rfl rfl (kM 2 (q := w.length) (news := w.map str) (n' := w.length) (cs' := w.map str) rfl ks ks gO rfl (by' := 16) rfl rfl rfl rfl rfl (fun w hw => Src.sees (hw.seeOut_ hs_a2 nM) (oneS _)) (by (try simp only [LE]); omega) (by (try simp only [LE]); omega) (by (try simp only [List.length_take, List.length_drop]); first | rfl | omega) rfl) ?_
        rintro _ _ ⟨a_118, c_119, rfl, rfl⟩
        refine ⟨by simp, ?_⟩
        refine jI 8 rfl (kY (ps := [(0, .slice a_114 r.length c_115), (1, .slice a_118 w.length c_119)]) (cs := [.slice a_114 r.length c_115, .slice a_118 w.length c_119]) rfl (by kernel_rfl)) <| jQ (i := 10) ?_
        refine jx rfl (jT 0 (vs := [.slice a_114 r.length c_115, .slice a_118 w.length c_119]) (cs' := [.slice a_114 r.length c_115, .slice a_118 w.length c_119]) rfl rfl rfl rfl kx rfl rfl (lb rfl) rfl) ?_
        rintro _ _ rfl
        refine kH [0, 0, 0, 0, 0] (A := [bk b_111 28 [.slice a_114 r.length c_115, .slice a_118 w.length c_119], Res.row (.slice a_114 r.length c_115) 9 1 r.length (r.map str), Res.row (.slice a_118 w.length c_119) 9 1 w.length (w.map str), bk b_3 28 [.slice none 0 0, .slice none 0 0], bk b_2 28 [.slice e1 r'.length f1, .slice e2 w'.length f2]]) rfl ?_
        exact kT ⟨b_111, a_114, c_115, a_118, c_119, rfl, rfl, rfl, rfl⟩
      refine jY rfl rfl (jn (z := .agg #[.slice none 0 0, .slice none 0 0]) (cs := [.slice none 0 0, .slice none 0 0]) gU rfl) ?_
      rintro _ _ ⟨b_120, rfl, rfl⟩
      refine ⟨by simp, ?_⟩
      refine jQ (i := 0) ?_
      refine jY rfl rfl (kJ (ps := []) (cur := #[]) ks kw gQ rfl (by kernel_rfl) (by decide) (by decide)) ?_
      rintro _ _ ⟨a_122, rfl, rfl⟩
      refine ⟨by simp, ?_⟩
      refine jQ (i := 3) ?_
      refine jY rfl rfl (kM 0 (q := r.length) (news := r.map str) (n' := r.length) (cs' := r.map str) rfl ks ks gO rfl (by' := 16) rfl rfl rfl rfl rfl (fun w hw => Src.sees (hw.seeOut_ hs_a1 nM) (oneS _)) (by (try simp only [LE]); omega) (by (try simp only [LE]); omega) (by (try simp only [List.length_take, List.length_drop]); first | rfl | omega) rfl) ?_
      rintro _ _ ⟨a_125, c_126, rfl, rfl⟩
      refine ⟨by simp, ?_⟩
      refine jQ (i := 7) ?_
      refine jY rfl rfl (kM 2 (q := w.length) (news := w.map str) (n' := w.length) (cs' := w.map str) rfl ks ks gO rfl (by' := 16) rfl rfl rfl rfl rfl (fun w hw => Src.sees (hw.seeOut_ hs_a2 nM) (oneS _)) (by (try simp only [LE]); omega) (by (try simp only [LE]); omega) (by (try simp only [List.length_take, List.length_drop]); first | rfl | omega) rfl) ?_
      rintro _ _ ⟨a_129, c_130, rfl, rfl⟩
      refine ⟨by simp, ?_⟩
      refine jI 8 rfl (kY (ps := [(0, .slice a_125 r.length c_126), (1, .slice a_129 w.length c_130)]) (cs := [.slice a_125 r.length c_126, .slice a_129 w.length c_130]) rfl (by kernel_rfl)) <| jQ (i := 10) ?_
      refine jx rfl (jT 1 (vs := [.slice a_125 r.length c_126, .slice a_129 w.length c_130]) (cs' := [.slice a_125 r.length c_126, .slice a_129 w.length c_130]) rfl rfl rfl rfl kx rfl rfl (lb rfl) rfl) ?_
      rintro _ _ rfl
      refine kH [1, 0, 0, 0, 0] (A := [bk b_120 28 [.slice a_125 r.length c_126, .slice a_129 w.length c_130], Res.row (.slice a_125 r.length c_126) 9 1 r.length (r.map str), Res.row (.slice a_129 w.length c_130) 9 1 w.length (w.map str), bk b_3 28 [.slice none 0 0, .slice none 0 0], bk b_2 28 [.slice e1 r'.length f1, .slice e2 w'.length f2]]) rfl ?_
      exact kT ⟨b_120, a_125, c_126, a_129, c_130, rfl, rfl, rfl, rfl⟩
    refine jY rfl rfl (jn (z := .agg #[.slice none 0 0, .slice none 0 0]) (cs := [.slice none 0 0, .slice none 0 0]) gU rfl) ?_
    rintro _ _ ⟨b_131, rfl, rfl⟩
    refine ⟨by simp, ?_⟩
    refine kX (i := 0) (j := 4) (by kernel_rfl) ?_ ?_
    · refine jY rfl rfl (kJ (ps := []) (cur := #[]) ks kw gQ rfl (by kernel_rfl) (by decide) (by decide)) ?_
      rintro _ _ ⟨a_134, rfl, rfl⟩
      refine ⟨by simp, ?_⟩
      refine kX (i := 3) (j := 4) (by kernel_rfl) ?_ ?_
      · refine jY rfl rfl (kM 0 (q := r.length) (news := r.map str) (n' := r.length) (cs' := r.map str) rfl ks ks gO rfl (by' := 16) rfl rfl rfl rfl rfl (fun w hw => Src.sees (hw.seeOut_ hs_a1 nM) (oneS _)) (by (try simp only [LE]); omega) (by (try simp only [LE]); omega) (by (try simp only [List.length_take, List.length_drop]); first | rfl | omega) rfl) ?_
        rintro _ _ ⟨a_138, c_139, rfl, rfl⟩
        refine ⟨by simp, ?_⟩
        refine jQ (i := 4) ?_
        refine jY rfl rfl (kJ (ps := []) (cur := #[]) ks kw gQ rfl (by kernel_rfl) (by decide) (by decide)) ?_
        rintro _ _ ⟨a_141, rfl, rfl⟩
        refine ⟨by simp, ?_⟩
        refine jQ (i := 7) ?_
        refine jY rfl rfl (kM 0 (q := w.length) (news := w.map str) (n' := w.length) (cs' := w.map str) rfl ks ks gO rfl (by' := 16) rfl rfl rfl rfl rfl (fun w hw => Src.sees (hw.seeOut_ hs_a2 nM) (oneS _)) (by (try simp only [LE]); omega) (by (try simp only [LE]); omega) (by (try simp only [List.length_take, List.length_drop]); first | rfl | omega) rfl) ?_
        rintro _ _ ⟨a_144, c_145, rfl, rfl⟩
        refine ⟨by simp, ?_⟩
        refine jI 8 rfl (kY (ps := [(0, .slice a_138 r.length c_139), (1, .slice a_144 w.length c_145)]) (cs := [.slice a_138 r.length c_139, .slice a_144 w.length c_145]) rfl (by kernel_rfl)) <| jQ (i := 10) ?_
        refine jx rfl (jT 2 (vs := [.slice a_138 r.length c_139, .slice a_144 w.length c_145]) (cs' := [.slice a_138 r.length c_139, .slice a_144 w.length c_145]) rfl rfl rfl rfl kx rfl rfl (lb rfl) rfl) ?_
        rintro _ _ rfl
        refine kH [2, 1, 0, 0, 0] (A := [bk b_131 28 [.slice a_138 r.length c_139, .slice a_144 w.length c_145], Res.row (.slice a_138 r.length c_139) 9 1 r.length (r.map str), Res.row (.slice a_144 w.length c_145) 9 1 w.length (w.map str), bk b_3 28 [.slice none 0 0, .slice none 0 0], bk b_2 28 [.slice e1 r'.length f1, .slice e2 w'.length f2]]) rfl ?_
        exact kT ⟨b_131, a_138, c_139, a_144, c_145, rfl, rfl, rfl, rfl⟩
      refine jY rfl rfl (kJ (ps := []) (cur := #[]) ks kw gQ rfl (by kernel_rfl) (by decide) (by decide)) ?_
      rintro _ _ ⟨a_146, rfl, rfl⟩
      refine ⟨by simp, ?_⟩
      refine jQ (i := 3) ?_
      refine jY rfl rfl (kM 1 (q := r.length) (news := r.map str) (n' := r.length) (cs' := r.map str) rfl ks ks gO rfl (by' := 16) rfl rfl rfl rfl rfl (fun w hw => Src.sees (hw.seeOut_ hs_a1 nM) (oneS _)) (by (try simp only [LE]); omega) (by (try simp only [LE]); omega) (by (try simp only [List.length_take, List.length_drop]); first | rfl | omega) rfl) ?_
      rintro _ _ ⟨a_149, c_150, rfl, rfl⟩
      refine ⟨by simp, ?_⟩
      refine jQ (i := 7) ?_
      refine jY rfl rfl (kM 0 (q := w.length) (news := w.map str) (n' := w.length) (cs' := w.map str) rfl ks ks gO rfl (by' := 16) rfl rfl rfl rfl rfl (fun w hw => Src.sees (hw.seeOut_ hs_a2 nM) (oneS _)) (by (try simp only [LE]); omega) (by (try simp only [LE]); omega) (by (try simp only [List.length_take, List.length_drop]); first | rfl | omega) rfl) ?_
      rintro _ _ ⟨a_153, c_154, rfl, rfl⟩
      refine ⟨by simp, ?_⟩
      refine jI 8 rfl (kY (ps := [(0, .slice a_149 r.length c_150), (1, .slice a_153 w.length c_154)]) (cs := [.slice a_149 r.length c_150, .slice a_153 w.length c_154]) rfl (by kernel_rfl)) <| jQ (i := 10) ?_
      refine jx rfl (jT 2 (vs := [.slice a_149 r.length c_150, .slice a_153 w.length c_154]) (cs' := [.slice a_149 r.length c_150, .slice a_153 w.length c_154]) rfl rfl rfl rfl kx rfl rfl (lb rfl) rfl) ?_
      rintro _ _ rfl
      refine kH [2, 1, 0, 0, 0] (A := [bk b_131 28 [.slice a_149 r.length c_150, .slice a_153 w.length c_154], Res.row (.slice a_149 r.length c_150) 9 1 r.length (r.map str), Res.row (.slice a_153 w.length c_154) 9 1 w.length (w.map str), bk b_3 28 [.slice none 0 0, .slice none 0 0], bk b_2 28 [.slice e1 r'.length f1, .slice e2 w'.length f2]]) rfl ?_
      exact kT ⟨b_131, a_149, c_150, a_153, c_154, rfl, rfl, rfl, rfl⟩
    refine jY rfl rfl (kJ (ps := []) (cur := #[]) ks kw gQ rfl (by kernel_rfl) (by decide) (by decide)) ?_
    rintro _ _ ⟨a_155, rfl, rfl⟩
    refine ⟨by simp, ?_⟩
    refine jQ (i := 0) ?_
    refine jY rfl rfl (kJ (ps := []) (cur := #[]) ks kw gQ rfl (by kernel_rfl) (by decide) (by decide)) ?_
    rintro _ _ ⟨a_157, rfl, rfl⟩
    refine ⟨by simp, ?_⟩
    refine jQ (i := 3) ?_
    refine jY rfl rfl (kM 0 (q := r.length) (news := r.map str) (n' := r.length) (cs' := r.map str) rfl ks ks gO rfl (by' := 16) rfl rfl rfl rfl rfl (fun w hw => Src.sees (hw.seeOut_ hs_a1 nM) (oneS _)) (by (try simp only [LE]); omega) (by (try simp only [LE]); omega) (by (try simp only [List.length_take, List.length_drop]); first | rfl | omega) rfl) ?_
    rintro _ _ ⟨a_160, c_161, rfl, rfl⟩
    refine ⟨by simp, ?_⟩
    refine jQ (i := 7) ?_
    refine jY rfl rfl (kM 1 (q := w.length) (news := w.map str) (n' := w.length) (cs' := w.map str) rfl ks ks gO rfl (by' := 16) rfl rfl rfl rfl rfl (fun w hw => Src.sees (hw.seeOut_ hs_a2 nM) (oneS _)) (by (try simp only [LE]); omega) (by (try simp only [LE]); omega) (by (try simp only [List.length_take, List.length_drop]); first | rfl | omega) rfl) ?_
    rintro _ _ ⟨a_164, c_165, rfl, rfl⟩
    refine ⟨by simp, ?_⟩
    refine jI 8 rfl (kY (ps := [(0, .slice a_160 r.length c_161), (1, .slice a_164 w.length c_165)]) (cs := [.slice a_160 r.length c_161, .slice a_164 w.length c_165]) rfl (by kernel_rfl)) <| jQ (i := 10) ?_
    refine jx rfl (jT 2 (vs := [.slice a_160 r.length c_161, .slice a_164 w.length c_165]) (cs' := [.slice a_160 r.length c_161, .slice a_164 w.length c_165]) rfl rfl rfl rfl kx rfl rfl (lb rfl) rfl) ?_
    rintro _ _ rfl
    refine kH [2, 0, 0, 0, 0] (A := [bk b_131 28 [.slice a_160 r.length c_161, .slice a_164 w.length c_165], Res.row (.slice a_160 r.length c_161) 9 1 r.length (r.map str), Res.row (.slice a_164 w.length c_165) 9 1 w.length (w.map str), bk b_3 28 [.slice none 0 0, .slice none 0 0], bk b_2 28 [.slice e1 r'.length f1, .slice e2 w'.length f2]]) rfl ?_
    exact kT ⟨b_131, a_160, c_161, a_164, c_165, rfl, rfl, rfl, rfl⟩
  rintro e_166 _ ⟨q, x1, y1, x2, y2, he_167, he_168, he_169, rfl⟩
  refine jB <| jC <| jC <| jE <| jA (jG (v := iv 0) rfl) <| jD <| jB <| jg <| kC (fun k_ e_ L_ => ∃ j : Nat, ∃ D : List Str, ∃ x1 : Option Addr, ∃ y1 : Nat, (j ≤ r'.length) ∧ (D = (r'.take j).foldl addSpan r) ∧ (D.length ≤ r.length + j) ∧ e_ 3 = .pointer (some ⟨b_2, 0, none⟩) ∧ e_ 4 = .pointer (some ⟨b_3, 0, none⟩) ∧ e_ 5 = .pointer (some ⟨q, 0, none⟩) ∧ e_ 6 = nv j ∧ L_ = [bk q 28 [.slice x1 D.length y1, .slice x2 w.length y2], Res.row (.slice x1 D.length y1) 9 1 D.length (D.map str), Res.row (.slice x2 w.length y2) 9 1 w.length (w.map str), bk b_3 28 [.slice none 0 0, .slice none 0 0], bk b_2 28 [.slice e1 r'.length f1, .slice e2 w'.length f2]] ∧ k_ = r'.length - j) _ ⟨0, r, x1, y1, by omega, rfl, by omega, he_167, he_168, he_169, rfl, rfl, rfl⟩ ?_
  rintro _ e_170 _ ⟨j, D, x1, y1, hj, hD, hl, he_171, he_172, he_173, he_174, rfl, rfl⟩
  refine jC <| jC <| jE <| jA (jF (v := nv j) he_174) <| jA (jJ fo28_0 he_171) <| jK (jV 4 (v := .slice e1 r'.length f1) rfl rfl gF rfl) <| jA (jp ks rfl) <| jA (jo rfl rfl) <| jD <| jB ?_
  by_cases h_175 : ((j : Nat) : Int) < ((r'.length : Nat) : Int)
  · have hlt : j < r'.length := by omega
    refine jO (cB (dT h_175)) <| jU <| jB <| jC <| jg <| jr [bk q 28 [.slice x1 D.length y1, .slice x2 w.length y2], Res.row (.slice x1 D.length y1) 9 1 D.length (D.map str), Res.row (.slice x2 w.length y2) 9 1 w.length (w.map str), bk b_3 28 [.slice none 0 0, .slice none 0 0], bk b_2 28 [.slice e1 r'.length f1, .slice e2 w'.length f2]] 8 mixed (by simp) <| jI 0 rfl (jJ fo28_0 he_173) <| jh 1 rfl (jV 0 (v := .slice x1 D.length y1) rfl rfl gF rfl) <| jI 2 rfl (jJ fo28_0 he_171) <| jh 3 rfl (jV 4 (v := .slice e1 r'.length f1) rfl rfl gF rfl) ?_
    refine jI 4 rfl (jF (v := nv j) he_174) ?_
    obtain ⟨hr_176, hr_176b, -⟩ := sees_some hs_e1 (by omega)
    refine jI 5 rfl (jl (i := j) ks kw hr_176 hr_176b rfl rfl (by omega)) <| jh 6 rfl (kK (v := str (r'.getD j [])) hs_e1 nM rfl kv (atS (by omega))) <| jQ (i := 7) ?_
    refine jY rfl rfl (jM [] Tryz.call97 rfl (C_sAddSpan x1 y1 D (r'.getD j []) (by omega)) rfl (fun w hw => hw.see (i := 1) rfl)) ?_
    rintro _ _ ⟨_, ⟨a_179, c_180, rfl, rfl⟩, rfl⟩
    refine ⟨by simp, ?_⟩
    refine jI 8 rfl (jJ fo28_0 he_173) <| jQ (i := 9) ?_
    refine jx rfl (jT 1 (vs := [.slice a_179 ((addSpan D (r'.getD j [])).length) c_180]) (cs' := [.slice a_179 ((addSpan D (r'.getD j [])).length) c_180, .slice x2 w.length y2]) rfl rfl rfl rfl gt rfl rfl (lb rfl) rfl) ?_
    rintro _ _ rfl
    refine jk <| jB <| jE <| jA (jF (v := nv j) he_174) <| jA (ji (c := ((j + 1 : Nat) : Int)) rfl rfl (wr (by omega))) <| jA (jG (v := iv ((j + 1 : Nat) : Int)) rfl) <| jD <| kH [1, 0, 1, 1, 1] (A := [bk q 28 [.slice a_179 ((addSpan D (r'.getD j [])).length) c_180, .slice x2 w.length y2], Res.row (.slice a_179 ((addSpan D (r'.getD j [])).length) c_180) 9 1 ((addSpan D (r'.getD j [])).length) ((addSpan D (r'.getD j [])).map str), Res.row (.slice x2 w.length y2) 9 1 w.length (w.map str), bk b_3 28 [.slice none 0 0, .slice none 0 0], bk b_2 28 [.slice e1 r'.length f1, .slice e2 w'.length f2]]) rfl ?_
    refine ju (r'.length - (j + 1)) (by omega) ⟨j + 1, (addSpan D (r'.getD j [])), a_179, c_180, by omega, (by rw [take_at (getD_some (d := []) hlt), List.foldl_append, ← hD]; rfl), (by have := addSpan_len D (r'.getD j []); omega), he_171, he_172, he_173, rfl, rfl, rfl⟩
  rw [List.take_of_length_le (by omega)] at hD
  have hDr := hD
  have hlr := hl
  refine jP (cB (dF h_175)) <| jz <| jj <| jj <| kA <| jB <| jC <| jC <| jE <| jA (jG (v := iv 0) rfl) ?_
  refine jD <| jB <| jg <| kC (fun k_ e_ L_ => ∃ j : Nat, ∃ E : List Str, ∃ x2 : Option Addr, ∃ y2 : Nat, (j ≤ w'.length) ∧ (E = (w'.take j).foldl addSpan w) ∧ (E.length ≤ w.length + j) ∧ e_ 3 = .pointer (some ⟨b_2, 0, none⟩) ∧ e_ 4 = .pointer (some ⟨b_3, 0, none⟩) ∧ e_ 5 = .pointer (some ⟨q, 0, none⟩) ∧ e_ 7 = nv j ∧ L_ = [bk q 28 [.slice x1 D.length y1, .slice x2 E.length y2], Res.row (.slice x1 D.length y1) 9 1 D.length (D.map str), Res.row (.slice x2 E.length y2) 9 1 E.length (E.map str), bk b_3 28 [.slice none 0 0, .slice none 0 0], bk b_2 28 [.slice e1 r'.length f1, .slice e2 w'.length f2]] ∧ k_ = w'.length - j) _ ⟨0, w, x2, y2, by omega, rfl, by omega, he_171, he_172, he_173, rfl, rfl, rfl⟩ ?_
  rintro _ e_181 _ ⟨j, E, x2, y2, hj, hD, hl, he_182, he_183, he_184, he_185, rfl, rfl⟩
  refine jC <| jC <| jE <| jA (jF (v := nv j) he_185) <| jA (jJ fo28_1 he_182) <| jK (jV 4 (v := .slice e2 w'.length f2) rfl rfl gF rfl) <| jA (jp ks rfl) <| jA (jo rfl rfl) <| jD <| jB ?_
  by_cases h_186 : ((j : Nat) : Int) < ((w'.length : Nat) : Int)
  · have hlt : j < w'.length := by omega
    refine jO (cB (dT h_186)) <| jU <| jB <| jC <| jg <| jr [bk q 28 [.slice x1 D.length y1, .slice x2 E.length y2], Res.row (.slice x1 D.length y1) 9 1 D.length (D.map str), Res.row (.slice x2 E.length y2) 9 1 E.length (E.map str), bk b_3 28 [.slice none 0 0, .slice none 0 0], bk b_2 28 [.slice e1 r'.length f1, .slice e2 w'.length f2]] 8 mixed (by simp) <| jI 0 rfl (jJ fo28_1 he_184) <| jh 1 rfl (jV 0 (v := .slice x2 E.length y2) rfl rfl gF rfl) <| jI 2 rfl (jJ fo28_1 he_182) <| jh 3 rfl (jV 4 (v := .slice e2 w'.length f2) rfl rfl gF rfl) ?_
    refine jI 4 rfl (jF (v := nv j) he_185) ?_
    obtain ⟨hr_187, hr_187b, -⟩ := sees_some hs_e2 (by omega)
    refine jI 5 rfl (jl (i := j) ks kw hr_187 hr_187b rfl rfl (by omega)) <| jh 6 rfl (kK (v := str (w'.getD j [])) hs_e2 nM rfl kv (atS (by omega))) <| jQ (i := 7) ?_
    refine jY rfl rfl (jM [] Tryz.call97 rfl (C_sAddSpan x2 y2 E (w'.getD j []) (by omega)) rfl (fun w hw => hw.see (i := 2) rfl)) ?_
    rintro _ _ ⟨_, ⟨a_190, c_191, rfl, rfl⟩, rfl⟩
    refine ⟨by simp, ?_⟩
    refine jI 8 rfl (jJ fo28_1 he_184) <| jQ (i := 9) ?_
    refine jx rfl (jT 1 (vs := [.slice a_190 ((addSpan E (w'.getD j [])).length) c_191]) (cs' := [.slice x1 D.length y1, .slice a_190 ((addSpan E (w'.getD j [])).length) c_191]) rfl rfl rfl rfl gt rfl rfl (lb rfl) rfl) ?_
    rintro _ _ rfl
    refine jk <| jB <| jE <| jA (jF (v := nv j) he_185) <| jA (ji (c := ((j + 1 : Nat) : Int)) rfl rfl (wr (by omega))) <| jA (jG (v := iv ((j + 1 : Nat) : Int)) rfl) <| jD <| kH [1, 1, 0, 1, 1] (A := [bk q 28 [.slice x1 D.length y1, .slice a_190 ((addSpan E (w'.getD j [])).length) c_191], Res.row (.slice x1 D.length y1) 9 1 D.length (D.map str), Res.row (.slice a_190 ((addSpan E (w'.getD j [])).length) c_191) 9 1 ((addSpan E (w'.getD j [])).length) ((addSpan E (w'.getD j [])).map str), bk b_3 28 [.slice none 0 0, .slice none 0 0], bk b_2 28 [.slice e1 r'.length f1, .slice e2 w'.length f2]]) rfl ?_
    refine ju (w'.length - (j + 1)) (by omega) ⟨j + 1, (addSpan E (w'.getD j [])), a_190, c_191, by omega, (by rw [take_at (getD_some (d := []) hlt), List.foldl_append, ← hD]; rfl), (by have := addSpan_len E (w'.getD j []); omega), he_182, he_183, he_184, rfl, rfl, rfl⟩
  rw [List.take_of_length_le (by omega)] at hD
  have hDw := hD
  have hlw := hl
  refine jP (cB (dF h_186)) <| jz <| jj <| jj <| kA <| jB <| jC <| jE <| jK (jX 0 (vs := [.slice x1 D.length y1, .slice x2 E.length y2]) rfl he_184 gL kx rfl rfl) ?_
  refine jH rfl (jT 3 (vs := [.slice x1 D.length y1, .slice x2 E.length y2]) (cs' := [.slice x1 D.length y1, .slice x2 E.length y2]) rfl he_183 rfl rfl kx rfl rfl (lb rfl) rfl) ?_
  rintro _ _ rfl
  refine jD <| jB <| jL <| kR (pick_perm [1, 1] (A := [Res.row (.slice x1 D.length y1) 9 1 D.length (D.map str), Res.row (.slice x2 E.length y2) 9 1 E.length (E.map str)]) (F := [bk q 28 [.slice x1 D.length y1, .slice x2 E.length y2], bk b_3 28 [.slice x1 D.length y1, .slice x2 E.length y2], bk b_2 28 [.slice e1 r'.length f1, .slice e2 w'.length f2]]) rfl).symm <| jR (.inl rfl) rfl (je (jX 3 (vs := [.slice x1 D.length y1, .slice x2 E.length y2]) rfl he_183 gL kx rfl rfl) ⟨_, he_183⟩) (tS 2 _) ?_
  subst hDr
  subst hDw
  exact ⟨_, _, _, _, rfl, rfl⟩


theorem C_sLook (a0 a1 a2 : Option Addr) (c0_ c1 c2 : Nat) (m : MS) (key : Str) (h0 : m.s.length ≤ 5000000000) (h1 : m.r.length ≤ 5000000000) (h2 : m.w.length ≤ 5000000000) :
    Ct Tryz.prog 169 [.agg #[.slice a0 m.s.length c0_, .slice a1 m.r.length c1, .slice a2 m.w.length c2], str key] [Res.row (.slice a0 m.s.length c0_) 167 2 m.s.length (m.s.flatMap encC), Res.row (.slice a1 m.r.length c1) 9 1 m.r.length (m.r.map str), Res.row (.slice a2 m.w.length c2) 9 1 m.w.length (m.w.map str)] (fun _ => True) (fun v A' => ∃ x0 y0 x1 y1 x2 y2, v = .tuple #[.agg #[.slice x0 (((m.look key).1).s.length) y0, .slice x1 (((m.look key).1).r.length) y1, .slice x2 (((m.look key).1).w.length) y2], str (m.look key).2] ∧ A' = [Res.row (.slice x0 (((m.look key).1).s.length) y0) 167 2 ((((m.look key).1).s).length) ((((m.look key).1).s).flatMap encC), Res.row (.slice x1 (((m.look key).1).r.length) y1) 9 1 ((((m.look key).1).r).length) ((((m.look key).1).r).map str), Res.row (.slice x2 (((m.look key).1).w.length) y2) 9 1 ((((m.look key).1).w).length) ((((m.look key).1).w).map str)]) := by
  refine Ct.intro Tryz.func169 rfl Tryz.ntmps169 (lb rfl) fun w0 hpre => ?_
  refine jC <| jE ?_
  refine jH rfl (jy (cs := [.slice a0 m.s.length c0_, .slice a1 m.r.length c1, .slice a2 m.w.length c2]) rfl rfl) ?_
  rintro _ _ ⟨b_1, rfl, rfl⟩
  refine jH rfl (jn (z := zM) (cs := zC) gI rfl) ?_
  rintro _ _ ⟨b_2, rfl, rfl⟩
  refine jA (jG (v := str []) rfl) <| jD <| jB <| jC <| jE <| jA (jJ fo99_1 rfl) <| jA (jJ fo28_0 rfl) <| jK (jV 1 (v := .slice a1 m.r.length c1) rfl rfl gF rfl) <| jA (jF (v := str key) rfl) ?_
  refine jH rfl (jM [] Tryz.call97 rfl (C_sAddSpan a1 c1 m.r key (by omega)) rfl (fun w hw => hw.see (i := 3) rfl)) ?_
  rintro _ _ ⟨_, ⟨a_3, c_4, rfl, rfl⟩, rfl⟩
  refine jA (jJ fo99_1 rfl) <| jA (jJ fo28_0 rfl) ?_
  refine jH rfl (jT 2 (vs := [.slice a_3 ((addSpan m.r key).length) c_4]) (cs' := [.slice a0 m.s.length c0_, .slice a_3 ((addSpan m.r key).length) c_4, .slice a2 m.w.length c2]) rfl rfl rfl rfl gt rfl rfl (lb rfl) rfl) ?_
  rintro _ _ rfl
  refine jD <| jB <| jC <| jr [Res.row (.slice a_3 ((addSpan m.r key).length) c_4) 9 1 ((addSpan m.r key).length) ((addSpan m.r key).map str), bk b_1 99 [.slice a0 m.s.length c0_, .slice a_3 ((addSpan m.r key).length) c_4, .slice a2 m.w.length c2], Res.row (.slice a0 m.s.length c0_) 167 2 m.s.length (m.s.flatMap encC), Res.row (.slice a1 m.r.length c1) 9 1 m.r.length (m.r.map str), Res.row (.slice a2 m.w.length c2) 9 1 m.w.length (m.w.map str)] 6 mixed (by simp) <| jh 0 rfl (jX 1 (vs := [.slice a0 m.s.length c0_, .slice a_3 ((addSpan m.r key).length) c_4, .slice a2 m.w.length c2]) rfl rfl gy gk rfl rfl) <| jI 1 rfl (jJ fo99_0 rfl) <| jh 2 rfl (jV 1 (v := .slice a0 m.s.length c0_) rfl rfl gY rfl) <| jI 3 rfl (jF (v := str key) rfl) <| jQ (i := 4) ?_
  refine jY rfl rfl (jM [] Tryz.call228 rfl (C_sGetKey a0 c0_ m.s key (by omega)) rfl (fun w hw => hw.see (i := 3) rfl)) ?_
  rintro _ _ ⟨_, ⟨rfl, rfl⟩, rfl⟩
  refine ⟨by simp, ?_⟩
  refine jQ (i := 5) ?_
  refine jY rfl rfl (jT 1 (vs := [.slice a0 m.s.length c0_, .slice a_3 ((addSpan m.r key).length) c_4, .slice a2 m.w.length c2]) (cs' := [.slice a0 m.s.length c0_, .slice a_3 ((addSpan m.r key).length) c_4, .slice a2 m.w.length c2]) rfl rfl rfl rfl gk rfl rfl (lb rfl) rfl) ?_
  rintro _ _ rfl
  refine ⟨by simp, ?_⟩
  refine jI 6 rfl (jG (v := str (getKey m.s key)) rfl) <| kI (by kernel_rfl) <| jB <| jL <| kR (pick_perm [3, 0, 3] (A := [Res.row (.slice a0 m.s.length c0_) 167 2 m.s.length (m.s.flatMap encC), Res.row (.slice a_3 ((addSpan m.r key).length) c_4) 9 1 ((addSpan m.r key).length) ((addSpan m.r key).map str), Res.row (.slice a2 m.w.length c2) 9 1 m.w.length (m.w.map str)]) (F := [bk b_2 99 [.slice a0 m.s.length c0_, .slice a_3 ((addSpan m.r key).length) c_4, .slice a2 m.w.length c2], bk b_1 99 [.slice a0 m.s.length c0_, .slice a_3 ((addSpan m.r key).length) c_4, .slice a2 m.w.length c2], Res.row (.slice a1 m.r.length c1) 9 1 m.r.length (m.r.map str)]) rfl).symm <| kB (.inl rfl) rfl (je (jX 3 (vs := [.slice a0 m.s.length c0_, .slice a_3 ((addSpan m.r key).length) c_4, .slice a2 m.w.length c2]) rfl rfl gy gk rfl rfl) ⟨_, rfl⟩) (jN (v := str (getKey m.s key)) rfl) (tS 3 _) ?_
  exact ⟨_, _, _, _, _, _, rfl, rfl⟩

theorem C_sLay (a0 a1 a2 : Option Addr) (c0_ c1 c2 : Nat) (m : MS) (key val : Str) (h0 : m.s.length ≤ 5000000000) (h1 : m.r.length ≤ 5000000000) (h2 : m.w.length ≤ 5000000000) (hk : key.length ≤ 1000000000000) :
    Ct Tryz.prog 171 [.agg #[.slice a0 m.s.length c0_, .slice a1 m.r.length c1, .slice a2 m.w.length c2], str key, str val] [Res.row (.slice a0 m.s.length c0_) 167 2 m.s.length (m.s.flatMap encC), Res.row (.slice a1 m.r.length c1) 9 1 m.r.length (m.r.map str), Res.row (.slice a2 m.w.length c2) 9 1 m.w.length (m.w.map str)] (fun _ => True) (fun v A' => ∃ x0 y0 x1 y1 x2 y2, v = .agg #[.slice x0 ((m.lay key val).s.length) y0, .slice x1 ((m.lay key val).r.length) y1, .slice x2 ((m.lay key val).w.length) y2] ∧ A' = [Res.row (.slice x0 ((m.lay key val).s.length) y0) 167 2 (((m.lay key val).s).length) (((m.lay key val).s).flatMap encC), Res.row (.slice x1 ((m.lay key val).r.length) y1) 9 1 (((m.lay key val).r).length) (((m.lay key val).r).map str), Res.row (.slice x2 ((m.lay key val).w.length) y2) 9 1 (((m.lay key val).w).length) (((m.lay key val).w).map str)]) := by
  refine Ct.intro Tryz.func171 rfl Tryz.ntmps171 (lb rfl) fun w0 hpre => ?_
  refine jC <| jE ?_
  refine jH rfl (jy (cs := [.slice a0 m.s.length c0_, .slice a1 m.r.length c1, .slice a2 m.w.length c2]) rfl rfl) ?_
  rintro _ _ ⟨b_1, rfl, rfl⟩
  refine jH rfl (jn (z := zM) (cs := zC) gI rfl) ?_
  rintro _ _ ⟨b_2, rfl, rfl⟩
  refine jD <| jB <| jC <| jE <| jA (jJ fo99_1 rfl) <| jA (jJ fo28_1 rfl) <| jK (jV 1 (v := .slice a2 m.w.length c2) rfl rfl gF rfl) <| jA (jF (v := str key) rfl) ?_
  refine jH rfl (jM [] Tryz.call97 rfl (C_sAddSpan a2 c2 m.w key (by omega)) rfl (fun w hw => hw.see (i := 4) rfl)) ?_
  rintro _ _ ⟨_, ⟨a_3, c_4, rfl, rfl⟩, rfl⟩
  refine jA (jJ fo99_1 rfl) <| jA (jJ fo28_1 rfl) ?_
  refine jH rfl (jT 2 (vs := [.slice a_3 ((addSpan m.w key).length) c_4]) (cs' := [.slice a0 m.s.length c0_, .slice a1 m.r.length c1, .slice a_3 ((addSpan m.w key).length) c_4]) rfl rfl rfl rfl gt rfl rfl (lb rfl) rfl) ?_
  rintro _ _ rfl
  refine jD <| jB <| jC <| jE <| jA (jJ fo99_0 rfl) <| jK (jV 2 (v := .slice a0 m.s.length c0_) rfl rfl gY rfl) <| jA (jF (v := str key) rfl) <| jA (jF (v := str val) rfl) ?_
  refine jH rfl (jM [] Tryz.call205 rfl (C_sPutKey a0 c0_ m.s key val (by omega) (by omega)) rfl (fun w hw => hw.see (i := 3) rfl)) ?_
  rintro _ _ ⟨_, ⟨a_5, c_6, rfl, rfl⟩, rfl⟩
  refine jA (jJ fo99_0 rfl) ?_
  refine jH rfl (jT 3 (vs := [.slice a_5 ((putKey m.s key val).length) c_6]) (cs' := [.slice a_5 ((putKey m.s key val).length) c_6, .slice a1 m.r.length c1, .slice a_3 ((addSpan m.w key).length) c_4]) rfl rfl rfl rfl Tryz.sizeOf48 rfl rfl (lb rfl) rfl) ?_
  rintro _ _ rfl
  refine jD <| jB <| jC <| jE <| jK (jX 3 (vs := [.slice a_5 ((putKey m.s key val).length) c_6, .slice a1 m.r.length c1, .slice a_3 ((addSpan m.w key).length) c_4]) rfl rfl gy gk rfl rfl) ?_
  refine jH rfl (jT 2 (vs := [.slice a_5 ((putKey m.s key val).length) c_6, .slice a1 m.r.length c1, .slice a_3 ((addSpan m.w key).length) c_4]) (cs' := [.slice a_5 ((putKey m.s key val).length) c_6, .slice a1 m.r.length c1, .slice a_3 ((addSpan m.w key).length) c_4]) rfl rfl rfl rfl gk rfl rfl (lb rfl) rfl) ?_
  rintro _ _ rfl
  refine jD <| jB <| jL <| kR (pick_perm [0, 4, 0] (A := [Res.row (.slice a_5 ((putKey m.s key val).length) c_6) 167 2 ((putKey m.s key val).length) ((putKey m.s key val).flatMap encC), Res.row (.slice a1 m.r.length c1) 9 1 m.r.length (m.r.map str), Res.row (.slice a_3 ((addSpan m.w key).length) c_4) 9 1 ((addSpan m.w key).length) ((addSpan m.w key).map str)]) (F := [bk b_2 99 [.slice a_5 ((putKey m.s key val).length) c_6, .slice a1 m.r.length c1, .slice a_3 ((addSpan m.w key).length) c_4], bk b_1 99 [.slice a_5 ((putKey m.s key val).length) c_6, .slice a1 m.r.length c1, .slice a_3 ((addSpan m.w key).length) c_4], Res.row (.slice a0 m.s.length c0_) 167 2 m.s.length (m.s.flatMap encC), Res.row (.slice a2 m.w.length c2) 9 1 m.w.length (m.w.map str)]) rfl).symm <| jR (.inl rfl) rfl (je (jX 3 (vs := [.slice a_5 ((putKey m.s key val).length) c_6, .slice a1 m.r.length c1, .slice a_3 ((addSpan m.w key).length) c_4]) rfl rfl gy gk rfl rfl) ⟨_, rfl⟩) (tS 3 _) ?_
  exact ⟨_, _, _, _, _, _, rfl, rfl⟩

theorem C_sBump (a0 a1 a2 : Option Addr) (c0_ c1 c2 : Nat) (m : MS) (key : Str) (h0 : m.s.length ≤ 2000000000) (h1 : m.r.length ≤ 2000000000) (h2 : m.w.length ≤ 2000000000) (hv : (getKey m.s key).length ≤ 281474976710656) (hk : key.length ≤ 1000000000000) :
    Ct Tryz.prog 99 [.agg #[.slice a0 m.s.length c0_, .slice a1 m.r.length c1, .slice a2 m.w.length c2], str key] [Res.row (.slice a0 m.s.length c0_) 167 2 m.s.length (m.s.flatMap encC), Res.row (.slice a1 m.r.length c1) 9 1 m.r.length (m.r.map str), Res.row (.slice a2 m.w.length c2) 9 1 m.w.length (m.w.map str)] (fun _ => True) (fun v A' => ∃ x0 y0 x1 y1 x2 y2, v = .tuple #[.agg #[.slice x0 (((m.bump key).1).s.length) y0, .slice x1 (((m.bump key).1).r.length) y1, .slice x2 (((m.bump key).1).w.length) y2], .int .i64 (m.bump key).2] ∧ A' = [Res.row (.slice x0 (((m.bump key).1).s.length) y0) 167 2 ((((m.bump key).1).s).length) ((((m.bump key).1).s).flatMap encC), Res.row (.slice x1 (((m.bump key).1).r.length) y1) 9 1 ((((m.bump key).1).r).length) ((((m.bump key).1).r).map str), Res.row (.slice x2 (((m.bump key).1).w.length) y2) 9 1 ((((m.bump key).1).w).length) ((((m.bump key).1).w).map str)]) := by
  refine Ct.intro Tryz.func99 rfl Tryz.ntmps99 (lb rfl) fun w0 hpre => ?_
  refine jC <| jE ?_
  refine jH rfl (jy (cs := [.slice a0 m.s.length c0_, .slice a1 m.r.length c1, .slice a2 m.w.length c2]) rfl rfl) ?_
  rintro _ _ ⟨b_1, rfl, rfl⟩
  refine jH rfl (jn (z := zM) (cs := zC) gI rfl) ?_
  rintro _ _ ⟨b_2, rfl, rfl⟩
  refine jA (jG (v := iv 0) rfl) <| jD <| jB <| jC <| jE <| jK (jX 1 (vs := [.slice a0 m.s.length c0_, .slice a1 m.r.length c1, .slice a2 m.w.length c2]) rfl rfl gy gk rfl rfl) <| jA (jF (v := str key) rfl) ?_
  refine jH rfl (jM [2, 2, 2] Tryz.call169 rfl (C_sLook a0 a1 a2 c0_ c1 c2 m key (by omega) (by omega) (by omega)) rfl (fun _ _ => trivial)) ?_
  rintro _ _ ⟨_, ⟨a_3, c_4, a_5, c_6, a_7, c_8, rfl, rfl⟩, rfl⟩
  have hlk8 := look_len m key
  refine jA (jF (v := .tuple #[.agg #[.slice a_3 (((MS.look m key).1).s.length) c_4, .slice a_5 (((MS.look m key).1).r.length) c_6, .slice a_7 (((MS.look m key).1).w.length) c_8], str ((MS.look m key).2)]) rfl) <| jA (jb (v := .agg #[.slice a_3 (((MS.look m key).1).s.length) c_4, .slice a_5 (((MS.look m key).1).r.length) c_6, .slice a_7 (((MS.look m key).1).w.length) c_8]) rfl rfl) <| jA (jb (v := str ((MS.look m key).2)) rfl rfl) ?_
  refine jH rfl (jT 4 (vs := [.slice a_3 (((MS.look m key).1).s.length) c_4, .slice a_5 (((MS.look m key).1).r.length) c_6, .slice a_7 (((MS.look m key).1).w.length) c_8]) (cs' := [.slice a_3 (((MS.look m key).1).s.length) c_4, .slice a_5 (((MS.look m key).1).r.length) c_6, .slice a_7 (((MS.look m key).1).w.length) c_8]) rfl rfl rfl rfl gk rfl rfl (lb rfl) rfl) ?_
  rintro _ _ rfl
  refine jA (jG (v := str ((MS.look m key).2)) rfl) <| jD <| jB <| jC <| jE <| jA (jF (v := str ((MS.look m key).2)) rfl) ?_
  refine jH rfl (jM [] Tryz.call170 rfl (C_sNumOf ((MS.look m key).2) hv) rfl (fun _ _ => trivial)) ?_
  rintro _ _ ⟨_, ⟨rfl, rfl⟩, rfl⟩
  have hno8 := numOf_lo ((MS.look m key).2)
  refine jA (ji (c := (numOf ((MS.look m key).2)) + 1) rfl rfl (wr (by omega))) <| jA (jG (v := iv ((numOf ((MS.look m key).2)) + 1)) rfl) <| jD <| jB <| jC <| jC <| jE <| jA (jF (v := iv ((numOf ((MS.look m key).2)) + 1)) rfl) <| jA (ke rfl rfl) <| jD ?_
  refine jB ?_
  by_cases h_9 : 999 < ((numOf ((MS.look m key).2)) + 1)
  · refine jO (cB (dT h_9)) <| jC <| jE <| jK (jX 4 (vs := [.slice a_3 (((MS.look m key).1).s.length) c_4, .slice a_5 (((MS.look m key).1).r.length) c_6, .slice a_7 (((MS.look m key).1).w.length) c_8]) rfl rfl gy gk rfl rfl) ?_
    refine jH rfl (jT 3 (vs := [.slice a_3 (((MS.look m key).1).s.length) c_4, .slice a_5 (((MS.look m key).1).r.length) c_6, .slice a_7 (((MS.look m key).1).w.length) c_8]) (cs' := [.slice a_3 (((MS.look m key).1).s.length) c_4, .slice a_5 (((MS.look m key).1).r.length) c_6, .slice a_7 (((MS.look m key).1).w.length) c_8]) rfl rfl rfl rfl gk rfl rfl (lb rfl) rfl) ?_
    rintro _ _ rfl
    refine jA (jG (v := iv 0) rfl) <| jD <| jB <| jL <| jW <| kB (.inl rfl) rfl (je (jX 3 (vs := [.slice a_3 (((MS.look m key).1).s.length) c_4, .slice a_5 (((MS.look m key).1).r.length) c_6, .slice a_7 (((MS.look m key).1).w.length) c_8]) rfl rfl gy gk rfl rfl) ⟨_, rfl⟩) (jN (v := iv 0) rfl) (tS 3 _) ?_
    have hq : (m.num key).2 = numOf (m.look key).2 := rfl
    have hb : m.bump key = ((m.num key).1, 0) := by unfold MS.bump; rw [if_pos (by omega)]
    rw [hb]
    exact ⟨_, _, _, _, _, _, rfl, rfl⟩
  refine jP (cB (dF h_9)) <| jU <| jB <| jC <| jr [bk b_1 99 [.slice a_3 (((MS.look m key).1).s.length) c_4, .slice a_5 (((MS.look m key).1).r.length) c_6, .slice a_7 (((MS.look m key).1).w.length) c_8]] 6 mixed (by simp) <| jh 0 rfl (jX 0 (vs := [.slice a_3 (((MS.look m key).1).s.length) c_4, .slice a_5 (((MS.look m key).1).r.length) c_6, .slice a_7 (((MS.look m key).1).w.length) c_8]) rfl rfl gy gk rfl rfl) <| jI 1 rfl (jF (v := str key) rfl) <| jI 2 rfl (jF (v := iv ((numOf ((MS.look m key).2)) + 1)) rfl) <| jI 5 rfl (jF (v := iv ((numOf ((MS.look m key).2)) + 1)) rfl) <| jQ (i := 3) ?_
  refine jY rfl rfl (jM [] Tryz.call172 rfl (C_sDec ((numOf ((MS.look m key).2)) + 1) (by omega) (by omega)) rfl (fun _ _ => trivial)) ?_
  rintro _ _ ⟨_, ⟨rfl, rfl⟩, rfl⟩
  refine ⟨by simp, ?_⟩
  refine jQ (i := 4) ?_
  refine jY rfl rfl (jM [0, 0, 0] Tryz.call171 rfl (C_sLay a_3 a_5 a_7 c_4 c_6 c_8 ((MS.look m key).1) key (dec ((numOf ((MS.look m key).2)) + 1)) (by omega) (by omega) (by omega) (by omega)) rfl (fun _ _ => trivial)) ?_
  rintro _ _ ⟨_, ⟨a_16, c_17, a_18, c_19, a_20, c_21, rfl, rfl⟩, rfl⟩
  have hly21 := lay_len ((MS.look m key).1) key (dec ((numOf ((MS.look m key).2)) + 1))
  refine ⟨by simp, ?_⟩
  refine jQ (i := 6) ?_
  refine kF rfl (jT 3 (vs := [.slice a_16 ((MS.lay ((MS.look m key).1) key (dec ((numOf ((MS.look m key).2)) + 1))).s.length) c_17, .slice a_18 ((MS.lay ((MS.look m key).1) key (dec ((numOf ((MS.look m key).2)) + 1))).r.length) c_19, .slice a_20 ((MS.lay ((MS.look m key).1) key (dec ((numOf ((MS.look m key).2)) + 1))).w.length) c_21]) (cs' := [.slice a_16 ((MS.lay ((MS.look m key).1) key (dec ((numOf ((MS.look m key).2)) + 1))).s.length) c_17, .slice a_18 ((MS.lay ((MS.look m key).1) key (dec ((numOf ((MS.look m key).2)) + 1))).r.length) c_19, .slice a_20 ((MS.lay ((MS.look m key).1) key (dec ((numOf ((MS.look m key).2)) + 1))).w.length) c_21]) rfl rfl rfl rfl gk rfl rfl (lb rfl) rfl) ?_
  rintro _ _ rfl
  refine jI 7 rfl (jG (v := iv ((numOf ((MS.look m key).2)) + 1)) rfl) <| kI (by kernel_rfl) <| jB <| jL <| kB (.inl rfl) rfl (je (jX 3 (vs := [.slice a_16 ((MS.lay ((MS.look m key).1) key (dec ((numOf ((MS.look m key).2)) + 1))).s.length) c_17, .slice a_18 ((MS.lay ((MS.look m key).1) key (dec ((numOf ((MS.look m key).2)) + 1))).r.length) c_19, .slice a_20 ((MS.lay ((MS.look m key).1) key (dec ((numOf ((MS.look m key).2)) + 1))).w.length) c_21]) rfl rfl gy gk rfl rfl) ⟨_, rfl⟩) (jN (v := iv ((numOf ((MS.look m key).2)) + 1)) rfl) (tS 3 _) ?_
  have hq : (m.num key).2 = numOf (m.look key).2 := rfl
  have hb : m.bump key = ((m.look key).1.lay key (dec (numOf (m.look key).2 + 1)), numOf (m.look key).2 + 1) := by unfold MS.bump; rw [if_neg (by omega)]; unfold MS.setNum; rw [if_pos (by omega)]; rfl
  rw [hb]
  exact ⟨_, _, _, _, _, _, rfl, rfl⟩

end Go.Proofs.YtghfijncihbojaaGreat

set_option linter.unusedSimpArgs false
set_option linter.unusedVariables false
set_option linter.unnecessarySimpa false
namespace Go.Proofs.YtghfijncihbojaaGreat
open Go Go.RowKit

/-- Where the three lists of a machine lie. -/
structure MA where
  a0 : Option Addr
  c0 : Nat
  a1 : Option Addr
  c1 : Nat
  a2 : Option Addr
  c2 : Nat
@[reducible] def mc (x : MA) (m : MS) : List Value := [.slice x.a0 m.s.length x.c0, .slice x.a1 m.r.length x.c1, .slice x.a2 m.w.length x.c2]
@[reducible] def mv (x : MA) (m : MS) : Value := .agg #[.slice x.a0 m.s.length x.c0, .slice x.a1 m.r.length x.c1, .slice x.a2 m.w.length x.c2]
@[reducible] def mr (x : MA) (m : MS) : List Res := [rC x.a0 x.c0 m.s, rS x.a1 x.c1 m.r, rS x.a2 x.c2 m.w]
@[reducible] def mb (p : Nat) (x : MA) (m : MS) : Res := bk p 99 [.slice x.a0 m.s.length x.c0, .slice x.a1 m.r.length x.c1, .slice x.a2 m.w.length x.c2]
section
variable {n : Nat} {w0 : World} {D : List Nat} {L : List Res} {e : Env} {d : Option Tmp} {ty : TypeId} {pos : String} {aft : Array Edge} {gd : Option (Nat × Bool)}
/-- A machine read from its block, and laid there. -/
theorem jc (i : Nat) {x : Operand} {b : Nat} (X : MA) (M : MS) (hL : L[i]? = some (mb b X M)) (hx : rd n e x = .pointer (some ⟨b, 0, none⟩)) : LO Tryz.prog n w0 D L e ⟨d, .load 99 x, ty, pos, aft, gd⟩ (mv X M) := jX i (vs := mc X M) hL hx Tryz.isAgg99 Tryz.sizeOf99 rfl rfl
theorem jm (i : Nat) {x y : Operand} {b : Nat} {cs : List Value} (X : MA) (M : MS) (hL : L[i]? = some (bk b 99 cs)) (hx : rd n e x = .pointer (some ⟨b, 0, none⟩)) (hy : rd n e y = mv X M) (hc : cs.length = 3) :
    JO Tryz.prog n w0 D L e ⟨d, .store 99 x y, ty, pos, aft, gd⟩ (fun _ L' => L' = L.set i (mb b X M)) := by
  match cs, hc with
  | [c1, c2, c3], _ => exact jT i (vs := mc X M) (cs' := mc X M) hL hx hy rfl Tryz.sizeOf99 rfl rfl (Nat.le_of_ble_eq_true rfl) rfl
end

theorem N_sLook (x : MA) (m : MS) {S T : Nat} (hk : m.ok S T) (hS : S ≤ 1000000000) (hT : T ≤ 1000000000) (key : Str) :
    Ct Tryz.prog 169 [mv x m, str key] (mr x m) (fun _ => True) (fun v A' => ∃ x' m' u, m.look key = (m', u) ∧ m'.ok S (T + 1) ∧ u.length ≤ 1048576 ∧ v = .tuple #[mv x' m', str u] ∧ A' = mr x' m') :=
  (C_sLook x.a0 x.a1 x.a2 x.c0 x.c1 x.c2 m key (by have := hk.1; omega) (by have := hk.2.1; omega) (by have := hk.2.2.1; omega)).weak (fun _ h => h) fun v A' ⟨x0, y0, x1, y1, x2, y2, hv, hA⟩ => ⟨⟨x0, y0, x1, y1, x2, y2⟩, (m.look key).1, (m.look key).2, rfl, hk.look key, hk.getKey key, hv, hA⟩

theorem N_sLay (x : MA) (m : MS) {S T : Nat} (hk : m.ok S T) (hS : S ≤ 1000000000) (hT : T ≤ 1000000000) (key : Str) (val : Str) (hkey : key.length ≤ 1000000000000) :
    Ct Tryz.prog 171 [mv x m, str key, str val] (mr x m) (fun _ => True) (fun v A' => ∃ x' m', m.lay key val = m' ∧ m'.ok (S + 1) (T + 1) ∧ v = mv x' m' ∧ A' = mr x' m') :=
  (C_sLay x.a0 x.a1 x.a2 x.c0 x.c1 x.c2 m key val (by have := hk.1; omega) (by have := hk.2.1; omega) (by have := hk.2.2.1; omega) hkey).weak (fun _ h => h) fun v A' ⟨x0, y0, x1, y1, x2, y2, hv, hA⟩ => ⟨⟨x0, y0, x1, y1, x2, y2⟩, m.lay key val, rfl, hk.lay key val, hv, hA⟩

theorem N_sLayNil (x : MA) (m : MS) {S T : Nat} (hk : m.ok S T) (hS : S ≤ 1000000000) (hT : T ≤ 1000000000) (key : Str) (hkey : key.length ≤ 1000000000000) :
    Ct Tryz.prog 171 [mv x m, str key, str []] (mr x m) (fun _ => True) (fun v A' => ∃ x' m', m.lay key [] = m' ∧ m'.ok S (T + 1) ∧ v = mv x' m' ∧ A' = mr x' m') :=
  (C_sLay x.a0 x.a1 x.a2 x.c0 x.c1 x.c2 m key [] (by have := hk.1; omega) (by have := hk.2.1; omega) (by have := hk.2.2.1; omega) hkey).weak (fun _ h => h) fun v A' ⟨x0, y0, x1, y1, x2, y2, hv, hA⟩ => ⟨⟨x0, y0, x1, y1, x2, y2⟩, m.lay key [], rfl, hk.layNil key, hv, hA⟩

theorem N_sBump (x : MA) (m : MS) {S T : Nat} (hk : m.ok S T) (hS : S ≤ 1000000000) (hT : T ≤ 1000000000) (key : Str) (hkey : key.length ≤ 1000000000000) :
    Ct Tryz.prog 99 [mv x m, str key] (mr x m) (fun _ => True) (fun v A' => ∃ x' m' n, m.bump key = (m', n) ∧ m'.ok (S + 1) (T + 1) ∧ (0 ≤ n ∧ n ≤ 999) ∧ v = .tuple #[mv x' m', .int .i64 n] ∧ A' = mr x' m') :=
  (C_sBump x.a0 x.a1 x.a2 x.c0 x.c1 x.c2 m key (by have := hk.1; omega) (by have := hk.2.1; omega) (by have := hk.2.2.1; omega) (Nat.le_trans (hk.getKey key) (by decide)) hkey).weak (fun _ h => h) fun v A' ⟨x0, y0, x1, y1, x2, y2, hv, hA⟩ => ⟨⟨x0, y0, x1, y1, x2, y2⟩, (m.bump key).1, (m.bump key).2, rfl, hk.bump key, (bump_lo m key), hv, hA⟩

end Go.Proofs.YtghfijncihbojaaGreat

set_option linter.unusedSimpArgs false
set_option linter.unusedVariables false
set_option linter.unnecessarySimpa false
namespace Go.Proofs.YtghfijncihbojaaGreat
open Go Go.RowKit
attribute [local irreducible] JL JC JQ JO LO PO JA JX Ct

theorem tmod10 (k : Nat) : (-((k : Nat) : Int)).tmod 10 = -((k % 10 : Nat) : Int) := by
  rw [Int.neg_tmod]; rfl
theorem tdiv10 (k : Nat) : (-((k : Nat) : Int)).tdiv 10 = -((k / 10 : Nat) : Int) := by
  rw [Int.neg_tdiv]; rfl
theorem dec_neg {k : Nat} (h : 0 < k) : dec (-((k : Nat) : Int)) = 45 :: mtAcc k [] := by
  unfold dec Lib.itoa
  rw [if_pos (by omega), show (-((k : Nat) : Int)).natAbs = k by omega, mtAcc_dec k k h (Nat.le_refl _)]

theorem C_sDecM (k : Nat) (h0 : 0 < k) (h1 : k ≤ 9223372036854775808) :
    Ct Tryz.prog 172 [.int .i64 (-((k : Nat) : Int))] [] (fun _ => True) (fun v A' => v = str (dec (-((k : Nat) : Int))) ∧ A' = []) := by
  refine Ct.intro Tryz.func172 rfl Tryz.ntmps172 (lb rfl) fun w0 hpre => ?_
  refine jC <| jE <| jA (jG (v := str []) rfl) <| jD <| jB <| jC <| jC <| jE <| jA (jF (v := iv (-((k : Nat) : Int))) rfl) <| jA (jw rfl rfl) ?_
  refine jD <| jB ?_
  by_cases h_1 : (-((k : Nat) : Int)) = 0
  · exfalso; omega
  refine jP (cB (dF h_1)) <| jU <| jB <| jC <| jE <| jA (jF (v := iv (-((k : Nat) : Int))) rfl) <| jA (jo rfl rfl) <| jA (jG (v := .bool (decide ((-((k : Nat) : Int)) < 0))) rfl) <| jD <| jB ?_
  refine jC <| jE <| jA (jG (v := str []) rfl) <| jD <| jB <| jC <| jg <| kC (fun k_ e_ L_ => ∃ k1 : Nat, ∃ o_ : Str, (k1 ≤ k) ∧ (o_.length = 0 ∨ o_.length + k1 ≤ k / 2 + 1) ∧ (mtAcc k1 o_ = mtAcc k []) ∧ e_ 0 = iv (-((k1 : Nat) : Int)) ∧ e_ 2 = str [] ∧ e_ 3 = .bool (decide ((-((k : Nat) : Int)) < 0)) ∧ e_ 4 = str o_ ∧ L_ = [] ∧ k_ = k1 + 1) _ ⟨k, [], by omega, (by simp), rfl, rfl, rfl, rfl, rfl, rfl, rfl⟩ ?_
  rintro _ e_2 _ ⟨k1, o_, hk, hl, hR, he_3, he_4, he_5, he_6, rfl, rfl⟩
  refine jC <| jC <| jE <| jA (jF (v := iv (-((k1 : Nat) : Int))) he_3) <| jA (kN rfl rfl) <| jD <| jB ?_
  by_cases h_7 : (-((k1 : Nat) : Int)) = 0
  · refine jP (cB (cN (dT h_7))) <| jz <| jj <| jj <| kA <| jB <| jC <| jC <| jE <| jA (jF (v := .bool (decide ((-((k : Nat) : Int)) < 0))) he_5) ?_
    refine jD <| jB ?_
    by_cases h_8 : (-((k : Nat) : Int)) < 0
    · refine jO (cB (dT h_8)) <| jC <| jE <| jA (jF (v := str o_) he_6) <| jA (ki rfl rfl (by (try simp only [List.length_append, List.length_cons, List.length_nil, List.length_drop, List.length_take]); omega)) <| jA (jG (v := str ([45] ++ o_)) rfl) <| jD <| jB <| jL <| jW ?_
      refine jR (.inl rfl) rfl (jN (v := str ([45] ++ o_)) rfl) (List.nil_sublist _) ?_
      refine ⟨?_, rfl⟩
      rw [dec_neg (by omega), ← hR, mtAcc_zero (by omega)]
      rfl
    exfalso; omega
  refine jO (cB (cN (dF h_7))) <| jU <| jB <| jg <| jC <| jE <| jA (jF (v := iv (-((k1 : Nat) : Int))) he_3) <| jA (PO.rem (c := -((k1 % 10 : Nat) : Int)) rfl rfl (by omega) (tmod10 k1)) <| jA (jG (v := iv (-((k1 % 10 : Nat) : Int))) rfl) <| jD ?_
  refine jB <| jC <| jC <| jE <| jA (jF (v := iv (-((k1 % 10 : Nat) : Int))) rfl) <| jA (jo rfl rfl) <| jD <| jB ?_
  by_cases h_9 : (-((k1 % 10 : Nat) : Int)) < 0
  · refine jO (cB (dT h_9)) <| jE <| jA (jF (v := iv (-((k1 % 10 : Nat) : Int))) rfl) <| jA (PO.neg (c := ((k1 % 10 : Nat) : Int)) rfl (wr (by omega))) <| jA (jG (v := iv ((k1 % 10 : Nat) : Int)) rfl) <| jD <| jB <| jC <| jE <| jA (jF (v := iv ((k1 % 10 : Nat) : Int)) rfl) ?_
    refine jH rfl (jM [] Tryz.call230 rfl (C_figure (k1 % 10) (by omega)) rfl (fun _ _ => trivial)) ?_
    rintro _ _ ⟨_, ⟨rfl, rfl⟩, rfl⟩
    refine jH rfl (kJ (ps := [(0, .int .u8 ((48 + (k1 % 10) : Nat) : Int))]) (cur := #[.int .u8 ((48 + (k1 % 10) : Nat) : Int)]) gM gi gp rfl (by kernel_rfl) (by decide) (by decide)) ?_
    rintro _ _ ⟨a_10, rfl, rfl⟩
    refine jK (LO.toStr 0 [UInt8.ofNat (48 + (k1 % 10))] rfl gM gZ ky rfl (by rw [List.map_cons, List.map_nil, encB_of _ (by omega)])) <| jA (jF (v := str o_) he_6) <| jA (ki rfl rfl (by (try simp only [List.length_append, List.length_cons, List.length_nil, List.length_drop, List.length_take]); omega)) <| jA (jG (v := str ([UInt8.ofNat (48 + (k1 % 10))] ++ o_)) rfl) <| jD <| jB <| jE <| jA (jF (v := iv (-((k1 : Nat) : Int))) he_3) <| jA (PO.quo (c := -((k1 / 10 : Nat) : Int)) rfl rfl (by omega) ((congrArg _ (tdiv10 k1)).trans (wr (by omega)))) <| jA (jG (v := iv (-((k1 / 10 : Nat) : Int))) rfl) ?_
    refine jD <| jk <| kH [] (A := []) rfl ?_
    refine ju (k1 / 10 + 1) (by omega) ⟨(k1 / 10), [UInt8.ofNat (48 + (k1 % 10))] ++ o_, by omega, (by simp only [List.length_append, List.length_cons, List.length_nil]; omega), (by rw [mtAcc_step (by omega)]; exact hR), rfl, he_4, he_5, rfl, rfl, rfl⟩
  have hz_11 : -((k1 % 10 : Nat) : Int) = ((k1 % 10 : Nat) : Int) := by omega
  have hz_12 : -((k1 % 10 : Nat) : Int) = ((k1 % 10 : Nat) : Int) := by omega
  have hz_13 : -((k1 % 10 : Nat) : Int) = ((k1 % 10 : Nat) : Int) := by omega
  refine jP (cB (dF h_9)) <| jU <| jB <| jC <| jE <| jA (jF (v := iv ((k1 % 10 : Nat) : Int)) (congrArg (Value.int .i64) hz_12)) ?_
  refine jH rfl (jM [] Tryz.call230 rfl (C_figure (k1 % 10) (by omega)) rfl (fun _ _ => trivial)) ?_
  rintro _ _ ⟨_, ⟨rfl, rfl⟩, rfl⟩
  refine jH rfl (kJ (ps := [(0, .int .u8 ((48 + (k1 % 10) : Nat) : Int))]) (cur := #[.int .u8 ((48 + (k1 % 10) : Nat) : Int)]) gM gi gp rfl (by kernel_rfl) (by decide) (by decide)) ?_
  rintro _ _ ⟨a_14, rfl, rfl⟩
  refine jK (LO.toStr 0 [UInt8.ofNat (48 + (k1 % 10))] rfl gM gZ ky rfl (by rw [List.map_cons, List.map_nil, encB_of _ (by omega)])) <| jA (jF (v := str o_) he_6) <| jA (ki rfl rfl (by (try simp only [List.length_append, List.length_cons, List.length_nil, List.length_drop, List.length_take]); omega)) <| jA (jG (v := str ([UInt8.ofNat (48 + (k1 % 10))] ++ o_)) rfl) <| jD <| jB <| jE <| jA (jF (v := iv (-((k1 : Nat) : Int))) he_3) <| jA (PO.quo (c := -((k1 / 10 : Nat) : Int)) rfl rfl (by omega) ((congrArg _ (tdiv10 k1)).trans (wr (by omega)))) <| jA (jG (v := iv (-((k1 / 10 : Nat) : Int))) rfl) ?_
  refine jD <| jk <| kH [] (A := []) rfl ?_
  refine ju (k1 / 10 + 1) (by omega) ⟨(k1 / 10), [UInt8.ofNat (48 + (k1 % 10))] ++ o_, by omega, (by simp only [List.length_append, List.length_cons, List.length_nil]; omega), (by rw [mtAcc_step (by omega)]; exact hR), rfl, he_4, he_5, rfl, rfl, rfl⟩

theorem C_sDecP (k : Nat) (h1 : k ≤ 9223372036854775807) :
    Ct Tryz.prog 172 [.int .i64 ((k : Nat) : Int)] [] (fun _ => True) (fun v A' => v = str (dec ((k : Nat) : Int)) ∧ A' = []) := by
  refine Ct.intro Tryz.func172 rfl Tryz.ntmps172 (lb rfl) fun w0 hpre => ?_
  refine jC <| jE <| jA (jG (v := str []) rfl) <| jD <| jB <| jC <| jC <| jE <| jA (jF (v := nv k) rfl) <| jA (jw rfl rfl) ?_
  refine jD <| jB ?_
  by_cases h_1 : ((k : Nat) : Int) = 0
  · refine jO (cB (dT h_1)) <| jC <| jE <| jA (jG (v := str [48]) rfl) <| jD <| jB <| jL <| jW <| jR (.inl rfl) rfl (jN (v := str [48]) rfl) (List.nil_sublist _) ?_
    refine ⟨?_, rfl⟩
    rw [show ((k : Nat) : Int) = 0 by omega, dec_zero]
  refine jP (cB (dF h_1)) <| jU <| jB <| jC <| jE <| jA (jF (v := nv k) rfl) <| jA (jo rfl rfl) <| jA (jG (v := .bool (decide (((k : Nat) : Int) < 0))) rfl) <| jD <| jB ?_
  refine jC <| jE <| jA (jG (v := str []) rfl) <| jD <| jB <| jC <| jg <| kC (fun k_ e_ L_ => ∃ k1 : Nat, ∃ o_ : Str, (k1 ≤ k) ∧ (o_.length + k1 ≤ k) ∧ (mtAcc k1 o_ = mtAcc k []) ∧ e_ 0 = nv k1 ∧ e_ 2 = str [] ∧ e_ 3 = .bool (decide (((k : Nat) : Int) < 0)) ∧ e_ 4 = str o_ ∧ L_ = [] ∧ k_ = k1 + 1) _ ⟨k, [], by omega, (by simp), rfl, rfl, rfl, rfl, rfl, rfl, rfl⟩ ?_
  rintro _ e_2 _ ⟨k1, o_, hk, hl, hR, he_3, he_4, he_5, he_6, rfl, rfl⟩
  refine jC <| jC <| jE <| jA (jF (v := nv k1) he_3) <| jA (kN rfl rfl) <| jD <| jB ?_
  by_cases h_7 : ((k1 : Nat) : Int) = 0
  · refine jP (cB (cN (dT h_7))) <| jz <| jj <| jj <| kA <| jB <| jC <| jC <| jE <| jA (jF (v := .bool (decide (((k : Nat) : Int) < 0))) he_5) ?_
    refine jD <| jB ?_
    by_cases h_8 : ((k : Nat) : Int) < 0
    · exfalso; omega
    refine jP (cB (dF h_8)) <| jU <| jB <| jC <| jE <| jA (jF (v := str o_) he_6) <| jA (jG (v := str o_) rfl) <| jD <| jB <| jL ?_
    refine jR (.inl rfl) rfl (jN (v := str o_) rfl) (List.nil_sublist _) ?_
    refine ⟨?_, rfl⟩
    rw [dec_nat (by omega), ← hR, mtAcc_zero (by omega)]
  refine jO (cB (cN (dF h_7))) <| jU <| jB <| jg <| jC <| jE <| jA (jF (v := nv k1) he_3) <| jA (PO.remN (c := ((k1 % 10 : Nat) : Int)) rfl rfl (by omega) (by omega) (by omega)) <| jA (jG (v := iv ((k1 % 10 : Nat) : Int)) rfl) <| jD ?_
  refine jB <| jC <| jC <| jE <| jA (jF (v := iv ((k1 % 10 : Nat) : Int)) rfl) <| jA (jo rfl rfl) <| jD <| jB ?_
  by_cases h_9 : ((k1 % 10 : Nat) : Int) < 0
  · exfalso; omega
  refine jP (cB (dF h_9)) <| jU <| jB <| jC <| jE <| jA (jF (v := iv ((k1 % 10 : Nat) : Int)) rfl) ?_
  refine jH rfl (jM [] Tryz.call230 rfl (C_figure (k1 % 10) (by omega)) rfl (fun _ _ => trivial)) ?_
  rintro _ _ ⟨_, ⟨rfl, rfl⟩, rfl⟩
  refine jH rfl (kJ (ps := [(0, .int .u8 ((48 + (k1 % 10) : Nat) : Int))]) (cur := #[.int .u8 ((48 + (k1 % 10) : Nat) : Int)]) gM gi gp rfl (by kernel_rfl) (by decide) (by decide)) ?_
  rintro _ _ ⟨a_10, rfl, rfl⟩
  refine jK (LO.toStr 0 [UInt8.ofNat (48 + (k1 % 10))] rfl gM gZ ky rfl (by rw [List.map_cons, List.map_nil, encB_of _ (by omega)])) <| jA (jF (v := str o_) he_6) <| jA (ki rfl rfl (by (try simp only [List.length_append, List.length_cons, List.length_nil, List.length_drop, List.length_take]); omega)) <| jA (jG (v := str ([UInt8.ofNat (48 + (k1 % 10))] ++ o_)) rfl) <| jD <| jB <| jE <| jA (jF (v := nv k1) he_3) <| jA (PO.quoN (c := ((k1 / 10 : Nat) : Int)) rfl rfl (by omega) (by omega) (by omega) (wr (by omega))) <| jA (jG (v := iv ((k1 / 10 : Nat) : Int)) rfl) ?_
  refine jD <| jk <| kH [] (A := []) rfl ?_
  refine ju (k1 / 10 + 1) (by omega) ⟨(k1 / 10), [UInt8.ofNat (48 + (k1 % 10))] ++ o_, by omega, (by simp only [List.length_append, List.length_cons, List.length_nil]; omega), (by rw [mtAcc_step (by omega)]; exact hR), rfl, he_4, he_5, rfl, rfl, rfl⟩

theorem N_sDec (n : Int) (hn : -9223372036854775808 ≤ n ∧ n ≤ 9223372036854775807) : Ct Tryz.prog 172 [.int .i64 n] [] (fun _ => True) (fun v A' => ∃ r0, dec n = r0 ∧ r0.length ≤ 21 ∧ v = str r0 ∧ A' = []) := by
  have h21 := dec_len21 hn.1 hn.2
  by_cases h : 0 ≤ n
  · have := C_sDecP n.toNat (by omega)
    rw [Int.toNat_of_nonneg h] at this
    exact this.weak (fun _ h => h) fun v A' ⟨h1, h2⟩ => ⟨_, rfl, h21, h1, h2⟩
  · have := C_sDecM (-n).toNat (by omega) (by omega)
    rw [Int.toNat_of_nonneg (by omega), Int.neg_neg] at this
    exact this.weak (fun _ h => h) fun v A' ⟨h1, h2⟩ => ⟨_, rfl, h21, h1, h2⟩

theorem N_sNumOf (t : Str) (ht : t.length ≤ 1000000000000) : Ct Tryz.prog 170 [str t] [] (fun _ => True) (fun v A' => ∃ r0, numOf t = r0 ∧ (0 ≤ r0 ∧ r0 ≤ 999) ∧ v = .int .i64 r0 ∧ A' = []) :=
  (C_sNumOf t (by omega)).weak (fun _ h => h) fun v A' ⟨h1, h2⟩ => ⟨_, rfl, numOf_lo t, h1, h2⟩

theorem N_sNumAt (x : MA) (m : MS) {S T : Nat} (hk : m.ok S T) (hS : S ≤ 900000000) (hT : T ≤ 900000000) (key : Str) :
    Ct Tryz.prog 98 [mv x m, str key] (mr x m) (fun _ => True) (fun v A' => ∃ x' m' r0, MS.num m key = (m', r0) ∧ m'.ok (S) (T + 1) ∧ (0 ≤ r0 ∧ r0 ≤ 999) ∧ v = .tuple #[mv x' m', .int .i64 r0] ∧ A' = mr x' m') := by
  refine Ct.intro Tryz.func98 rfl Tryz.ntmps98 (lb rfl) fun w0 hpre => ?_
  refine jC <| jE ?_
  refine jH rfl (jy (cs := (mc x m)) rfl rfl) ?_
  rintro _ _ ⟨b_1, rfl, rfl⟩
  refine jH rfl (jn (z := zM) (cs := zC) gI rfl) ?_
  rintro _ _ ⟨b_2, rfl, rfl⟩
  refine jA (jG (v := iv 0) rfl) <| jD <| jB <| jC <| jE <| jK (jc 1 x m rfl rfl) <| jA (jF (v := str key) rfl) ?_
  refine jH rfl (jM [2, 2, 2] Tryz.call169 rfl (N_sLook x m hk (by omega) (by omega) key) rfl (fun _ _ => trivial)) ?_
  rintro _ _ ⟨_, ⟨x_5, m_6, u_7, e_3, k_4, f_8, rfl, rfl⟩, rfl⟩
  refine jA (jF (v := .tuple #[mv x_5 m_6, str u_7]) rfl) <| jA (jb (v := mv x_5 m_6) rfl rfl) <| jA (jb (v := str u_7) rfl rfl) ?_
  refine jH rfl (jm 4 x_5 m_6 rfl rfl rfl rfl) ?_
  rintro _ _ rfl
  refine jA (jG (v := str u_7) rfl) <| jD <| jB <| jC <| jr [mb b_1 x_5 m_6] 3 mixed (by simp) <| jh 0 rfl (jc 0 x_5 m_6 rfl rfl) <| jI 1 rfl (jF (v := str u_7) rfl) <| jQ (i := 2) ?_
  refine jY rfl rfl (jM [] Tryz.call170 rfl (N_sNumOf u_7 (by omega)) rfl (fun _ _ => trivial)) ?_
  rintro _ _ ⟨_, ⟨n_15, e_13, f_16, rfl, rfl⟩, rfl⟩
  refine ⟨(by simp), ?_⟩
  refine jQ (i := 3) ?_
  refine kF rfl (jm 3 x_5 m_6 rfl rfl rfl rfl) ?_
  rintro _ _ rfl
  refine jI 4 rfl (jG (v := iv n_15) rfl) <| kI (by kernel_rfl) <| jB <| jL <| kB (.inl rfl) rfl (je (jc 3 x_5 m_6 rfl rfl) ⟨_, rfl⟩) (jN (v := iv n_15) rfl) (tS 3 _) ?_
  exact ⟨x_5, m_6, n_15, (by simp only [MS.num, e_3, e_13, SB]; (repeat (first | rw [if_pos (by omega)] | rw [if_neg (by omega)])); all_goals (first | rfl | simp only [SB, e_3, e_13])), (k_4.mono (by omega) (by omega)), (by first | omega | (simp only [LE]; omega)), rfl, rfl⟩

theorem N_sSetNum (x : MA) (m : MS) {S T : Nat} (hk : m.ok S T) (hS : S ≤ 900000000) (hT : T ≤ 900000000) (key : Str) (n : Int) (hkey : key.length ≤ 1000000000000) (hn : -9223372036854775808 ≤ n ∧ n ≤ 9223372036854775807) :
    Ct Tryz.prog 100 [mv x m, str key, .int .i64 n] (mr x m) (fun _ => True) (fun v A' => ∃ x' m', MS.setNum m key n = m' ∧ m'.ok (S + 1) (T + 1) ∧ v = mv x' m' ∧ A' = mr x' m') := by
  refine Ct.intro Tryz.func100 rfl Tryz.ntmps100 (lb rfl) fun w0 hpre => ?_
  refine jC <| jE ?_
  refine jH rfl (jy (cs := (mc x m)) rfl rfl) ?_
  rintro _ _ ⟨b_1, rfl, rfl⟩
  refine jH rfl (jn (z := zM) (cs := zC) gI rfl) ?_
  rintro _ _ ⟨b_2, rfl, rfl⟩
  refine jD <| jB <| jC <| jC <| jE <| jA (jF (v := iv n) rfl) ?_
  refine jH rfl (jM [] Tryz.call40 rfl (C_l01In n 1 999) rfl (fun _ _ => trivial)) ?_
  rintro _ _ ⟨_, ⟨rfl, rfl⟩, rfl⟩
  refine jA (kP rfl) <| jD <| jB ?_
  rcases Bool.eq_false_or_eq_true (decide (1 ≤ n) && decide (n ≤ 999)) with h_3 | h_3
  · have h_3d := h_3
    simp only [Bool.and_eq_true, Bool.and_eq_false_iff, decide_eq_true_eq, decide_eq_false_iff_not] at h_3d
    refine jP (cB (cN h_3)) <| jU <| jB <| jC <| jr [mb b_1 x m] 4 mixed (by simp) <| jh 0 rfl (jc 0 x m rfl rfl) <| jI 1 rfl (jF (v := str key) rfl) <| jI 2 rfl (jF (v := iv n) rfl) <| jQ (i := 3) ?_
    refine jY rfl rfl (jM [] Tryz.call172 rfl (N_sDec n (by omega)) rfl (fun _ _ => trivial)) ?_
    rintro _ _ ⟨_, ⟨u_10, e_8, f_11, rfl, rfl⟩, rfl⟩
    refine ⟨(by simp), ?_⟩
    refine jQ (i := 4) ?_
    refine kF rfl (jM [2, 2, 2] Tryz.call171 rfl (N_sLay x m hk (by omega) (by omega) key u_10 (by omega)) rfl (fun _ _ => trivial)) ?_
    rintro _ _ ⟨_, ⟨x_18, m_19, e_16, k_17, rfl, rfl⟩, rfl⟩
    refine jQ (i := 5) ?_
    refine jx rfl (jm 3 x_18 m_19 rfl rfl rfl rfl) ?_
    rintro _ _ rfl
    refine jB <| jL <| jR (.inl rfl) rfl (je (jc 3 x_18 m_19 rfl rfl) ⟨_, rfl⟩) (tS 3 _) ?_
    exact ⟨x_18, m_19, (by simp only [MS.setNum, h_3, e_8, e_16, SB]; (repeat (first | rw [if_pos (by omega)] | rw [if_neg (by omega)])); all_goals (first | rfl | simp only [SB, h_3, e_8, e_16])), (k_17.mono (by omega) (by omega)), rfl, rfl⟩
  have h_3d := h_3
  simp only [Bool.and_eq_true, Bool.and_eq_false_iff, decide_eq_true_eq, decide_eq_false_iff_not] at h_3d
  refine jO (cB (cN h_3)) <| jC <| jE <| jK (jc 1 x m rfl rfl) <| jA (jF (v := str key) rfl) ?_
  refine jH rfl (jM [2, 2, 2] Tryz.call171 rfl (N_sLayNil x m hk (by omega) (by omega) key (by omega)) rfl (fun _ _ => trivial)) ?_
  rintro _ _ ⟨_, ⟨x_22, m_23, e_20, k_21, rfl, rfl⟩, rfl⟩
  refine jH rfl (jm 3 x_22 m_23 rfl rfl rfl rfl) ?_
  rintro _ _ rfl
  refine jD <| jB <| jL <| jW <| jR (.inl rfl) rfl (je (jc 3 x_22 m_23 rfl rfl) ⟨_, rfl⟩) (tS 3 _) ?_
  exact ⟨x_22, m_23, (by simp only [MS.setNum, h_3, e_20, SB]; (repeat (first | rw [if_pos (by omega)] | rw [if_neg (by omega)])); all_goals (first | rfl | simp only [SB, h_3, e_20])), (k_21.mono (by omega) (by omega)), rfl, rfl⟩

theorem N_sKeyNum {hb tb : Nat} (h : Str) (n : Int) (t : Str) (hh : h.length ≤ hb) (hn : -9223372036854775808 ≤ n ∧ n ≤ 9223372036854775807) (ht : t.length ≤ tb) (hq : hb + tb ≤ 1000000) :
    Ct Tryz.prog 173 [str h, .int .i64 n, str t] ([]) (fun _ => True) (fun v A' => ∃ r0, keyNum h n t = r0 ∧ r0.length ≤ hb + 21 + tb ∧ v = str r0 ∧ A' = []) := by
  refine Ct.intro Tryz.func173 rfl Tryz.ntmps173 (lb rfl) fun w0 hpre => ?_
  refine jC <| jE <| jA (jG (v := str []) rfl) <| jD <| jB <| jC <| jE <| jA (jF (v := str h) rfl) <| jA (jF (v := iv n) rfl) ?_
  refine jH rfl (jM [] Tryz.call172 rfl (N_sDec n (by omega)) rfl (fun _ _ => trivial)) ?_
  rintro _ _ ⟨_, ⟨u_3, e_1, f_4, rfl, rfl⟩, rfl⟩
  refine jA (ki rfl rfl (by (try simp only [List.length_append, List.length_cons, List.length_nil, List.length_drop, List.length_take]); omega)) <| jA (jF (v := str t) rfl) <| jA (ki rfl rfl (by (try simp only [List.length_append, List.length_cons, List.length_nil, List.length_drop, List.length_take]); omega)) <| jA (jG (v := str ((h ++ u_3) ++ t)) rfl) <| jD <| jB <| jL <| jR (.inl rfl) rfl (jN (v := str ((h ++ u_3) ++ t)) rfl) (List.nil_sublist _) ?_
  exact ⟨((h ++ u_3) ++ t), (by simp only [keyNum, e_1, SB]; (repeat (first | rw [if_pos (by omega)] | rw [if_neg (by omega)])); all_goals (first | rfl | simp only [SB, e_1])), (by first | omega | (simp only [LE]; omega)), rfl, rfl⟩

theorem N_l08Key {tb : Nat} (id : Int) (t : Str) (hid : -9223372036854775808 ≤ id ∧ id ≤ 9223372036854775807) (ht : t.length ≤ tb) (hq : tb ≤ 900000) :
    Ct Tryz.prog 214 [.int .i64 id, str t] ([]) (fun _ => True) (fun v A' => ∃ r0, keyNum ([112, 47] : Str) id t = r0 ∧ r0.length ≤ 2 + 21 + tb ∧ v = str r0 ∧ A' = []) := by
  refine Ct.intro Tryz.func214 rfl Tryz.ntmps214 (lb rfl) fun w0 hpre => ?_
  refine jC <| jE <| jA (jG (v := str []) rfl) <| jD <| jB <| jC <| jE <| jA (jF (v := iv id) rfl) <| jA (jF (v := str t) rfl) ?_
  refine jH rfl (jM [] Tryz.call173 rfl (N_sKeyNum [112, 47] id t (show List.length ([112, 47] : Str) ≤ 2 by decide) (by omega) (Nat.le_refl _) (by omega)) rfl (fun _ _ => trivial)) ?_
  rintro _ _ ⟨_, ⟨u_3, e_1, f_4, rfl, rfl⟩, rfl⟩
  refine jA (jG (v := str u_3) rfl) <| jD <| jB <| jL <| jR (.inl rfl) rfl (jN (v := str u_3) rfl) (List.nil_sublist _) ?_
  exact ⟨u_3, (by simp only [if_true, e_1, SB]; (repeat (first | rw [if_pos (by omega)] | rw [if_neg (by omega)])); all_goals (first | rfl | simp only [SB, e_1])), (by first | omega | (simp only [LE]; omega)), rfl, rfl⟩

theorem N_l09Key {tb : Nat} (id : Int) (t : Str) (hid : -9223372036854775808 ≤ id ∧ id ≤ 9223372036854775807) (ht : t.length ≤ tb) (hq : tb ≤ 900000) :
    Ct Tryz.prog 101 [.int .i64 id, str t] ([]) (fun _ => True) (fun v A' => ∃ r0, keyNum ([114, 47] : Str) id t = r0 ∧ r0.length ≤ 2 + 21 + tb ∧ v = str r0 ∧ A' = []) := by
  refine Ct.intro Tryz.func101 rfl Tryz.ntmps101 (lb rfl) fun w0 hpre => ?_
  refine jC <| jE <| jA (jG (v := str []) rfl) <| jD <| jB <| jC <| jE <| jA (jF (v := iv id) rfl) <| jA (jF (v := str t) rfl) ?_
  refine jH rfl (jM [] Tryz.call173 rfl (N_sKeyNum [114, 47] id t (show List.length ([114, 47] : Str) ≤ 2 by decide) (by omega) (Nat.le_refl _) (by omega)) rfl (fun _ _ => trivial)) ?_
  rintro _ _ ⟨_, ⟨u_3, e_1, f_4, rfl, rfl⟩, rfl⟩
  refine jA (jG (v := str u_3) rfl) <| jD <| jB <| jL <| jR (.inl rfl) rfl (jN (v := str u_3) rfl) (List.nil_sublist _) ?_
  exact ⟨u_3, (by simp only [if_true, e_1, SB]; (repeat (first | rw [if_pos (by omega)] | rw [if_neg (by omega)])); all_goals (first | rfl | simp only [SB, e_1])), (by first | omega | (simp only [LE]; omega)), rfl, rfl⟩

theorem N_l10Key {tb : Nat} (id : Int) (t : Str) (hid : -9223372036854775808 ≤ id ∧ id ≤ 9223372036854775807) (ht : t.length ≤ tb) (hq : tb ≤ 900000) :
    Ct Tryz.prog 219 [.int .i64 id, str t] ([]) (fun _ => True) (fun v A' => ∃ r0, keyNum ([103, 47] : Str) id t = r0 ∧ r0.length ≤ 2 + 21 + tb ∧ v = str r0 ∧ A' = []) := by
  refine Ct.intro Tryz.func219 rfl Tryz.ntmps219 (lb rfl) fun w0 hpre => ?_
  refine jC <| jE <| jA (jG (v := str []) rfl) <| jD <| jB <| jC <| jE <| jA (jF (v := iv id) rfl) <| jA (jF (v := str t) rfl) ?_
  refine jH rfl (jM [] Tryz.call173 rfl (N_sKeyNum [103, 47] id t (show List.length ([103, 47] : Str) ≤ 2 by decide) (by omega) (Nat.le_refl _) (by omega)) rfl (fun _ _ => trivial)) ?_
  rintro _ _ ⟨_, ⟨u_3, e_1, f_4, rfl, rfl⟩, rfl⟩
  refine jA (jG (v := str u_3) rfl) <| jD <| jB <| jL <| jR (.inl rfl) rfl (jN (v := str u_3) rfl) (List.nil_sublist _) ?_
  exact ⟨u_3, (by simp only [if_true, e_1, SB]; (repeat (first | rw [if_pos (by omega)] | rw [if_neg (by omega)])); all_goals (first | rfl | simp only [SB, e_1])), (by first | omega | (simp only [LE]; omega)), rfl, rfl⟩

theorem N_l11Head (id : Int) (hid : -9223372036854775808 ≤ id ∧ id ≤ 9223372036854775807) :
    Ct Tryz.prog 222 [.int .i64 id] ([]) (fun _ => True) (fun v A' => ∃ r0, (fun i => keyNum ([109, 47] : Str) i ([47] : Str)) id = r0 ∧ r0.length ≤ 30 ∧ v = str r0 ∧ A' = []) := by
  refine Ct.intro Tryz.func222 rfl Tryz.ntmps222 (lb rfl) fun w0 hpre => ?_
  refine jC <| jE <| jA (jG (v := str []) rfl) <| jD <| jB <| jC <| jE <| jA (jF (v := iv id) rfl) ?_
  refine jH rfl (jM [] Tryz.call173 rfl (N_sKeyNum [109, 47] id [47] (show List.length ([109, 47] : Str) ≤ 2 by decide) (by omega) (show List.length ([47] : Str) ≤ 1 by decide) (by omega)) rfl (fun _ _ => trivial)) ?_
  rintro _ _ ⟨_, ⟨u_3, e_1, f_4, rfl, rfl⟩, rfl⟩
  refine jA (jG (v := str u_3) rfl) <| jD <| jB <| jL <| jR (.inl rfl) rfl (jN (v := str u_3) rfl) (List.nil_sublist _) ?_
  exact ⟨u_3, (by simp only [if_true, e_1, SB]; (repeat (first | rw [if_pos (by omega)] | rw [if_neg (by omega)])); all_goals (first | rfl | simp only [SB, e_1])), (by first | omega | (simp only [LE]; omega)), rfl, rfl⟩

theorem N_l07Block (id : Int) (k : Int) (hid : -9223372036854775808 ≤ id ∧ id ≤ 9223372036854775807) (hk : -9223372036854775808 ≤ k ∧ k ≤ 9223372036854775807) :
    Ct Tryz.prog 251 [.int .i64 id, .int .i64 k] ([]) (fun _ => True) (fun v A' => ∃ r0, (fun i k => keyNum (keyNum ([105, 47] : Str) i ([47, 98, 47] : Str)) k []) id k = r0 ∧ r0.length ≤ 60 ∧ v = str r0 ∧ A' = []) := by
  refine Ct.intro Tryz.func251 rfl Tryz.ntmps251 (lb rfl) fun w0 hpre => ?_
  refine jC <| jE <| jA (jG (v := str []) rfl) <| jD <| jB <| jC <| jE <| jA (jF (v := iv id) rfl) ?_
  refine jH rfl (jM [] Tryz.call173 rfl (N_sKeyNum [105, 47] id [47, 98, 47] (show List.length ([105, 47] : Str) ≤ 2 by decide) (by omega) (show List.length ([47, 98, 47] : Str) ≤ 3 by decide) (by omega)) rfl (fun _ _ => trivial)) ?_
  rintro _ _ ⟨_, ⟨u_3, e_1, f_4, rfl, rfl⟩, rfl⟩
  refine jA (jF (v := iv k) rfl) ?_
  refine jH rfl (jM [] Tryz.call173 rfl (N_sKeyNum u_3 k [] (Nat.le_refl _) (by omega) (show List.length ([] : Str) ≤ 0 by decide) (by omega)) rfl (fun _ _ => trivial)) ?_
  rintro _ _ ⟨_, ⟨u_7, e_5, f_8, rfl, rfl⟩, rfl⟩
  refine jA (jG (v := str u_7) rfl) <| jD <| jB <| jL <| jR (.inl rfl) rfl (jN (v := str u_7) rfl) (List.nil_sublist _) ?_
  exact ⟨u_7, (by simp only [if_true, e_1, e_5, SB]; (repeat (first | rw [if_pos (by omega)] | rw [if_neg (by omega)])); all_goals (first | rfl | simp only [SB, e_1, e_5])), (by first | omega | (simp only [LE]; omega)), rfl, rfl⟩

theorem N_l08Message (id : Int) (k : Int) (hid : -9223372036854775808 ≤ id ∧ id ≤ 9223372036854775807) (hk : -9223372036854775808 ≤ k ∧ k ≤ 9223372036854775807) :
    Ct Tryz.prog 217 [.int .i64 id, .int .i64 k] ([]) (fun _ => True) (fun v A' => ∃ r0, (fun i k => keyNum (keyNum ([112, 47] : Str) i ([47, 113, 47] : Str)) k []) id k = r0 ∧ r0.length ≤ 60 ∧ v = str r0 ∧ A' = []) := by
  refine Ct.intro Tryz.func217 rfl Tryz.ntmps217 (lb rfl) fun w0 hpre => ?_
  refine jC <| jE <| jA (jG (v := str []) rfl) <| jD <| jB <| jC <| jE <| jA (jF (v := iv id) rfl) ?_
  refine jH rfl (jM [] Tryz.call214 rfl (N_l08Key id [47, 113, 47] (by omega) (show List.length ([47, 113, 47] : Str) ≤ 3 by decide) (by omega)) rfl (fun _ _ => trivial)) ?_
  rintro _ _ ⟨_, ⟨u_3, e_1, f_4, rfl, rfl⟩, rfl⟩
  refine jA (jF (v := iv k) rfl) ?_
  refine jH rfl (jM [] Tryz.call173 rfl (N_sKeyNum u_3 k [] (Nat.le_refl _) (by omega) (show List.length ([] : Str) ≤ 0 by decide) (by omega)) rfl (fun _ _ => trivial)) ?_
  rintro _ _ ⟨_, ⟨u_7, e_5, f_8, rfl, rfl⟩, rfl⟩
  refine jA (jG (v := str u_7) rfl) <| jD <| jB <| jL <| jR (.inl rfl) rfl (jN (v := str u_7) rfl) (List.nil_sublist _) ?_
  exact ⟨u_7, (by simp only [if_true, e_1, e_5, SB]; (repeat (first | rw [if_pos (by omega)] | rw [if_neg (by omega)])); all_goals (first | rfl | simp only [SB, e_1, e_5])), (by first | omega | (simp only [LE]; omega)), rfl, rfl⟩

theorem N_l10Signal (id : Int) (k : Int) (hid : -9223372036854775808 ≤ id ∧ id ≤ 9223372036854775807) (hk : -9223372036854775808 ≤ k ∧ k ≤ 9223372036854775807) :
    Ct Tryz.prog 220 [.int .i64 id, .int .i64 k] ([]) (fun _ => True) (fun v A' => ∃ r0, (fun i k => keyNum (keyNum ([103, 47] : Str) i ([47, 113, 47] : Str)) k []) id k = r0 ∧ r0.length ≤ 60 ∧ v = str r0 ∧ A' = []) := by
  refine Ct.intro Tryz.func220 rfl Tryz.ntmps220 (lb rfl) fun w0 hpre => ?_
  refine jC <| jE <| jA (jG (v := str []) rfl) <| jD <| jB <| jC <| jE <| jA (jF (v := iv id) rfl) ?_
  refine jH rfl (jM [] Tryz.call219 rfl (N_l10Key id [47, 113, 47] (by omega) (show List.length ([47, 113, 47] : Str) ≤ 3 by decide) (by omega)) rfl (fun _ _ => trivial)) ?_
  rintro _ _ ⟨_, ⟨u_3, e_1, f_4, rfl, rfl⟩, rfl⟩
  refine jA (jF (v := iv k) rfl) ?_
  refine jH rfl (jM [] Tryz.call173 rfl (N_sKeyNum u_3 k [] (Nat.le_refl _) (by omega) (show List.length ([] : Str) ≤ 0 by decide) (by omega)) rfl (fun _ _ => trivial)) ?_
  rintro _ _ ⟨_, ⟨u_7, e_5, f_8, rfl, rfl⟩, rfl⟩
  refine jA (jG (v := str u_7) rfl) <| jD <| jB <| jL <| jR (.inl rfl) rfl (jN (v := str u_7) rfl) (List.nil_sublist _) ?_
  exact ⟨u_7, (by simp only [if_true, e_1, e_5, SB]; (repeat (first | rw [if_pos (by omega)] | rw [if_neg (by omega)])); all_goals (first | rfl | simp only [SB, e_1, e_5])), (by first | omega | (simp only [LE]; omega)), rfl, rfl⟩

theorem N_sNameOk (key : Str) (hkey : key.length ≤ 1000000000000) :
    Ct Tryz.prog 207 [str key] ([]) (fun _ => True) (fun v A' => ∃ r0, nameOk key = r0 ∧ v = .bool r0 ∧ A' = []) := by
  refine Ct.intro Tryz.func207 rfl Tryz.ntmps207 (lb rfl) fun w0 hpre => ?_
  refine jC <| jE <| jA (jG (v := .bool false) rfl) <| jD <| jB <| jC <| jC <| jE <| jA (jG (v := iv 0) rfl) <| jD ?_
  refine jB <| jg <| kC (fun k_ e_ L_ => ∃ j : Nat, (j ≤ key.length) ∧ (∀ i, i < j → i < key.length → nameByte (key.getD i 0) = true) ∧ e_ 0 = str key ∧ e_ 3 = nv j ∧ L_ = [] ∧ k_ = key.length - j) _ ⟨0, by omega, (fun i hi => absurd hi (Nat.not_lt_zero i)), rfl, rfl, rfl, rfl⟩ ?_
  rintro _ e_1 _ ⟨j, hj, hN, he_2, he_3, rfl, rfl⟩
  refine jC <| jC <| jE <| jA (jF (v := nv j) he_3) <| jA (jF (v := str key) he_2) <| jA (kV ky rfl) <| jA (jo rfl rfl) <| jD <| jB ?_
  by_cases h_4 : ((j : Nat) : Int) < (key.length : Int)
  · refine jO (cB (dT h_4)) <| jU <| jB <| jC <| jg <| jC <| jE <| jA (jF (v := str key) he_2) <| jA (jF (v := nv j) he_3) <| jA (PO.indexS (i := j) (c := key.getD j 0) ky rfl rfl (getD_some (by omega))) ?_
    have hu_5 := UInt8.toNat_lt (key.getD j 0)
    refine jA (jG (v := .int .u8 ((key.getD j 0).toNat : Int)) rfl) <| jD <| jB <| jC <| jE <| jA (jF (v := .int .u8 ((key.getD j 0).toNat : Int)) rfl) <| jA (PO.convI (c := ((key.getD j 0).toNat : Int)) gZ gg rfl (wr (by omega))) ?_
    refine jH rfl (jM [] Tryz.call40 rfl (C_l01In ((key.getD j 0).toNat : Int) 97 122) rfl (fun _ _ => trivial)) ?_
    rintro _ _ ⟨_, ⟨rfl, rfl⟩, rfl⟩
    refine jA (kP rfl) <| jA (jF (v := .bool (!(decide (97 ≤ ((key.getD j 0).toNat : Int)) && decide (((key.getD j 0).toNat : Int) ≤ 122)))) rfl) ?_
    rcases Bool.eq_false_or_eq_true (decide (97 ≤ ((key.getD j 0).toNat : Int)) && decide (((key.getD j 0).toNat : Int) ≤ 122)) with h_6 | h_6
    · have h_6d := h_6
      simp only [Bool.and_eq_true, Bool.and_eq_false_iff, decide_eq_true_eq, decide_eq_false_iff_not] at h_6d
      refine jS (b := false) rfl rfl rfl (cB (cN h_6)) <| jS (b := false) rfl rfl rfl (cB (cN h_6)) <| jS (b := false) rfl rfl rfl (cB (cN h_6)) <| jS (b := false) rfl rfl rfl (cB (cN h_6)) <| jA (jv (v := .bool false) (cB (cN h_6)) rfl) <| jA (jF (v := .bool false) rfl) <| jS (b := false) rfl rfl rfl (cB rfl) <| jS (b := false) rfl rfl rfl (cB rfl) <| jA (jv (v := .bool false) (cB rfl) rfl) <| jA (jF (v := .bool false) rfl) ?_
      refine jS (b := false) rfl rfl rfl (cB rfl) <| jS (b := false) rfl rfl rfl (cB rfl) <| jA (jv (v := .bool false) (cB rfl) rfl) <| jD <| jB <| jP (cB rfl) <| jU <| jk <| jB <| jE ?_
      refine jA (jF (v := nv j) he_3) <| jA (ji (c := ((j + 1 : Nat) : Int)) rfl rfl (wr (by omega))) <| jA (jG (v := iv ((j + 1 : Nat) : Int)) rfl) <| jD ?_
      refine ju (key.length - (j + 1)) (by omega) ⟨j + 1, by omega, (fun i hi hl => if h : i = j then h ▸ (by simp only [nameByte, Bool.and_eq_true, Bool.and_eq_false_iff, Bool.or_eq_true, Bool.or_eq_false_iff, decide_eq_true_eq, decide_eq_false_iff_not, Bool.not_eq_true', Bool.not_eq_false']; omega : nameByte (key.getD j 0) = true) else hN i (by omega) hl), he_2, rfl, rfl, rfl⟩
    have h_6d := h_6
    simp only [Bool.and_eq_true, Bool.and_eq_false_iff, decide_eq_true_eq, decide_eq_false_iff_not] at h_6d
    refine jZ rfl rfl rfl (cB (cN h_6)) (ja (jf (jF (v := .int .u8 ((key.getD j 0).toNat : Int)) rfl))) ?_
    rintro _ _ ⟨rfl, rfl⟩
    refine jZ rfl rfl rfl (cB (cN h_6)) (ja (jf (PO.convI (c := ((key.getD j 0).toNat : Int)) gZ gg rfl (wr (by omega))))) ?_
    rintro _ _ ⟨rfl, rfl⟩
    refine jZ rfl rfl rfl (cB (cN h_6)) (jM [] Tryz.call40 rfl (C_l01In ((key.getD j 0).toNat : Int) 48 57) rfl (fun _ _ => trivial)) ?_
    rintro _ _ ⟨_, ⟨rfl, rfl⟩, rfl⟩
    refine jZ rfl rfl rfl (cB (cN h_6)) (ja (jf (kP rfl))) ?_
    rintro _ _ ⟨rfl, rfl⟩
    refine jA (kG (v := .bool (!(decide (48 ≤ ((key.getD j 0).toNat : Int)) && decide (((key.getD j 0).toNat : Int) ≤ 57)))) (cB (cN h_6)) rfl) <| jA (jF (v := .bool (!(decide (48 ≤ ((key.getD j 0).toNat : Int)) && decide (((key.getD j 0).toNat : Int) ≤ 57)))) rfl) ?_
    rcases Bool.eq_false_or_eq_true (decide (48 ≤ ((key.getD j 0).toNat : Int)) && decide (((key.getD j 0).toNat : Int) ≤ 57)) with h_7 | h_7
    · have h_7d := h_7
      simp only [Bool.and_eq_true, Bool.and_eq_false_iff, decide_eq_true_eq, decide_eq_false_iff_not] at h_7d
      refine jS (b := false) rfl rfl rfl (cB (cN h_7)) <| jS (b := false) rfl rfl rfl (cB (cN h_7)) <| jA (jv (v := .bool false) (cB (cN h_7)) rfl) <| jA (jF (v := .bool false) rfl) <| jS (b := false) rfl rfl rfl (cB rfl) <| jS (b := false) rfl rfl rfl (cB rfl) <| jA (jv (v := .bool false) (cB rfl) rfl) <| jD <| jB <| jP (cB rfl) ?_
      refine jU <| jk <| jB <| jE <| jA (jF (v := nv j) he_3) <| jA (ji (c := ((j + 1 : Nat) : Int)) rfl rfl (wr (by omega))) <| jA (jG (v := iv ((j + 1 : Nat) : Int)) rfl) <| jD ?_
      refine ju (key.length - (j + 1)) (by omega) ⟨j + 1, by omega, (fun i hi hl => if h : i = j then h ▸ (by simp only [nameByte, Bool.and_eq_true, Bool.and_eq_false_iff, Bool.or_eq_true, Bool.or_eq_false_iff, decide_eq_true_eq, decide_eq_false_iff_not, Bool.not_eq_true', Bool.not_eq_false']; omega : nameByte (key.getD j 0) = true) else hN i (by omega) hl), he_2, rfl, rfl, rfl⟩
    have h_7d := h_7
    simp only [Bool.and_eq_true, Bool.and_eq_false_iff, decide_eq_true_eq, decide_eq_false_iff_not] at h_7d
    refine jZ rfl rfl rfl (cB (cN h_7)) (ja (jf (jF (v := .int .u8 ((key.getD j 0).toNat : Int)) rfl))) ?_
    rintro _ _ ⟨rfl, rfl⟩
    refine jZ rfl rfl rfl (cB (cN h_7)) (ja (jf (kN rfl rfl))) ?_
    rintro _ _ ⟨rfl, rfl⟩
    refine jA (kG (v := .bool (!(decide (((key.getD j 0).toNat : Int) = 46)))) (cB (cN h_7)) rfl) <| jA (jF (v := .bool (!(decide (((key.getD j 0).toNat : Int) = 46)))) rfl) ?_
    by_cases h_8 : ((key.getD j 0).toNat : Int) = 46
    · refine jS (b := false) rfl rfl rfl (cB (cN (dT h_8))) <| jS (b := false) rfl rfl rfl (cB (cN (dT h_8))) <| jA (jv (v := .bool false) (cB (cN (dT h_8))) rfl) <| jD <| jB <| jP (cB rfl) <| jU <| jk <| jB <| jE ?_
      refine jA (jF (v := nv j) he_3) <| jA (ji (c := ((j + 1 : Nat) : Int)) rfl rfl (wr (by omega))) <| jA (jG (v := iv ((j + 1 : Nat) : Int)) rfl) <| jD ?_
      refine ju (key.length - (j + 1)) (by omega) ⟨j + 1, by omega, (fun i hi hl => if h : i = j then h ▸ (by simp only [nameByte, Bool.and_eq_true, Bool.and_eq_false_iff, Bool.or_eq_true, Bool.or_eq_false_iff, decide_eq_true_eq, decide_eq_false_iff_not, Bool.not_eq_true', Bool.not_eq_false']; omega : nameByte (key.getD j 0) = true) else hN i (by omega) hl), he_2, rfl, rfl, rfl⟩
    refine jZ rfl rfl rfl (cB (cN (dF h_8))) (ja (jf (jF (v := .int .u8 ((key.getD j 0).toNat : Int)) rfl))) ?_
    rintro _ _ ⟨rfl, rfl⟩
    refine jZ rfl rfl rfl (cB (cN (dF h_8))) (ja (jf (kN rfl rfl))) ?_
    rintro _ _ ⟨rfl, rfl⟩
    refine jA (kG (v := .bool (!(decide (((key.getD j 0).toNat : Int) = 45)))) (cB (cN (dF h_8))) rfl) <| jD <| jB ?_
    by_cases h_9 : ((key.getD j 0).toNat : Int) = 45
    · refine jP (cB (cN (dT h_9))) <| jU <| jk <| jB <| jE <| jA (jF (v := nv j) he_3) <| jA (ji (c := ((j + 1 : Nat) : Int)) rfl rfl (wr (by omega))) <| jA (jG (v := iv ((j + 1 : Nat) : Int)) rfl) <| jD ?_
      refine ju (key.length - (j + 1)) (by omega) ⟨j + 1, by omega, (fun i hi hl => if h : i = j then h ▸ (by simp only [nameByte, Bool.and_eq_true, Bool.and_eq_false_iff, Bool.or_eq_true, Bool.or_eq_false_iff, decide_eq_true_eq, decide_eq_false_iff_not, Bool.not_eq_true', Bool.not_eq_false']; omega : nameByte (key.getD j 0) = true) else hN i (by omega) hl), he_2, rfl, rfl, rfl⟩
    refine jO (cB (cN (dF h_9))) <| jC <| jE <| jA (jG (v := .bool false) rfl) <| jD <| jB <| jL <| jq <| jW <| jW ?_
    refine jq <| jW <| jR (.inl rfl) rfl (jN (v := .bool false) rfl) (List.nil_sublist _) ?_
    refine ⟨_, ?_, rfl, rfl⟩
    rw [nameOk_bad (j := j) (by omega) (by simp only [nameByte, Bool.and_eq_true, Bool.and_eq_false_iff, Bool.or_eq_true, Bool.or_eq_false_iff, decide_eq_true_eq, decide_eq_false_iff_not, Bool.not_eq_true', Bool.not_eq_false']; omega)]
  refine jP (cB (dF h_4)) <| jz <| jj <| jj <| kA <| jB <| jC <| jE <| jA (jF (v := str key) he_2) <| jA (kV ky rfl) ?_
  refine jH rfl (jM [] Tryz.call40 rfl (C_l01In (key.length : Int) 1 12) rfl (fun _ _ => trivial)) ?_
  rintro _ _ ⟨_, ⟨rfl, rfl⟩, rfl⟩
  refine jA (jG (v := .bool (decide (1 ≤ (key.length : Int)) && decide ((key.length : Int) ≤ 12))) rfl) <| jD <| jB <| jL <| jR (.inl rfl) rfl (jN (v := .bool (decide (1 ≤ (key.length : Int)) && decide ((key.length : Int) ≤ 12))) rfl) (List.nil_sublist _) ?_
  refine ⟨_, ?_, rfl, rfl⟩
  rw [nameOk_good (j := j) (by omega) hN]
  congr 1 <;> exact decide_eq_decide.2 (by omega)

end Go.Proofs.YtghfijncihbojaaGreat

set_option linter.unusedSimpArgs false
set_option linter.unusedVariables false
set_option linter.unnecessarySimpa false
namespace Go.Proofs.YtghfijncihbojaaGreat
open Go Go.RowKit

def underL (p : Str) : List Cell → List Str → List Str
  | [], out => out
  | c :: s, out => if prefixB c.1 p = true then underL p s (out ++ [c.1]) else underL p s out
theorem underL_app (p : Str) : ∀ (s : List Cell) (out : List Str), underL p s out = out ++ keysUnder s p
  | [], out => by simp [underL, keysUnder]
  | c :: s, out => by
    unfold underL
    cases h : prefixB c.1 p with
    | true => rw [if_pos rfl, underL_app p s]; simp [keysUnder, h]
    | false => rw [if_neg (by simp), underL_app p s]; simp [keysUnder, h]
theorem underL_nil (p : Str) (s : List Cell) : underL p s [] = keysUnder s p := by rw [underL_app]; rfl
theorem begins_eq (s p : Str) : prefixB s p = (decide ((p.length : Int) ≤ s.length) && decide (s.take p.length = p)) := by
  unfold prefixB
  congr 1
  exact decide_eq_decide.2 (by omega)
theorem isKid_short {k : Str} (h : ¬ (5 : Int) ≤ (k.length : Int)) : MS.isKid k = false := by
  unfold MS.isKid
  rw [decide_eq_false (by omega)]; rfl
theorem isKid_short' {k : Str} (h : (k.length : Int) < 5) : MS.isKid k = false := isKid_short (by omega)
theorem isKid_yes {k : Str} (h : (5 : Int) ≤ (k.length : Int)) (h2 : k.drop (k.length - 2) = [47, 112]) : MS.isKid k = true := by
  unfold MS.isKid
  rw [decide_eq_true (by omega), decide_eq_true h2]; rfl
theorem isKid_no {k : Str} (h2 : ¬ k.drop (k.length - 2) = [47, 112]) : MS.isKid k = false := by
  unfold MS.isKid
  rw [decide_eq_false h2, Bool.and_false]
theorem drop_take2 (k : Str) (n : Nat) : (k.take n).drop 2 = (k.drop 2).take (n - 2) := by rw [List.drop_take]
end Go.Proofs.YtghfijncihbojaaGreat
