/-
  Texts of the walk, joined: what each one proves stands at its theorems.
-/
import Derived.Test.YtghfijncihbojaaGreatS17NAMES
import Derived.Lib.MinMax
import Derived.Test.YtghfijncihbojaaGreatDatC
set_option linter.unusedSimpArgs false
set_option linter.unusedVariables false
set_option linter.unnecessarySimpa false
namespace Go.Proofs.YtghfijncihbojaaGreat
open Go Go.RowKit
attribute [local irreducible] JL JC JQ JO LO PO JA JX Ct

theorem N_figure (k : Nat) (h : k < 16) :
    Ct Tryz.prog 230 [.int .i64 ((k : Nat) : Int)] [] (fun _ => True) (fun v A' => v = .int .u8 (((hexFig k).toNat : Nat) : Int) ∧ A' = []) := by
  refine Ct.intro Tryz.func230 rfl Tryz.ntmps230 (lb rfl) fun w0 hpre => ?_
  refine jC <| jE <| jA (jG (v := .int .u8 0) rfl) <| jD <| jB <| jC <| jC <| jE <| jA (jF (v := nv k) rfl) <| jA (jo rfl rfl) ?_
  refine jD <| jB ?_
  by_cases h_1 : ((k : Nat) : Int) < 10
  · refine jO (cB (dT h_1)) <| jC <| jE <| jA (jF (v := nv k) rfl) <| jA (ji (c := ((48 + k : Nat) : Int)) rfl rfl (wr (by omega))) <| jA (PO.convI (c := (((UInt8.ofNat (48 + k)).toNat : Nat) : Int)) gg gZ rfl (wr8u (c := UInt8.ofNat (48 + k)) (by omega) (by rw [Int.toNat_natCast]))) <| jA (jG (v := .int .u8 (((UInt8.ofNat (48 + k)).toNat : Nat) : Int)) rfl) <| jD <| jB <| jL ?_
    refine jW <| jR (.inl rfl) rfl (jN (v := .int .u8 (((UInt8.ofNat (48 + k)).toNat : Nat) : Int)) rfl) (List.nil_sublist _) ?_
    refine ⟨?_, rfl⟩
    exact congrArg (fun q : Nat => Value.int .u8 (q : Int)) (by first | (rw [hexFig_lo (by omega), UInt8.toNat_ofNat_of_lt' (by show _ < 256; omega)]) | (rw [hexFig_hi (by omega) (by omega), UInt8.toNat_ofNat_of_lt' (by show _ < 256; omega)]; omega))
  refine jP (cB (dF h_1)) <| jU <| jB <| jC <| jE <| jA (jF (v := nv k) rfl) <| jA (ji (c := ((97 + k : Nat) : Int)) rfl rfl (wr (by omega))) <| jA (kW (c := ((97 + k : Nat) : Int) - 10) rfl rfl (wr (by omega))) <| jA (PO.convI (c := (((UInt8.ofNat (((97 + k : Nat) : Int) - 10).toNat).toNat : Nat) : Int)) gg gZ rfl (wr8u (by omega) rfl)) <| jA (jG (v := .int .u8 (((UInt8.ofNat (((97 + k : Nat) : Int) - 10).toNat).toNat : Nat) : Int)) rfl) ?_
  refine jD <| jB <| jL <| jR (.inl rfl) rfl (jN (v := .int .u8 (((UInt8.ofNat (((97 + k : Nat) : Int) - 10).toNat).toNat : Nat) : Int)) rfl) (List.nil_sublist _) ?_
  refine ⟨?_, rfl⟩
  exact congrArg (fun q : Nat => Value.int .u8 (q : Int)) (by first | (rw [hexFig_lo (by omega), UInt8.toNat_ofNat_of_lt' (by show _ < 256; omega)]) | (rw [hexFig_hi (by omega) (by omega), UInt8.toNat_ofNat_of_lt' (by show _ < 256; omega)]; omega))

theorem N_value (c : UInt8) :
    Ct Tryz.prog 252 [.int .u8 ((c.toNat : Nat) : Int)] [] (fun _ => True) (fun v A' => ∃ r0, hexV c = r0 ∧ (-1 ≤ r0 ∧ r0 ≤ 15) ∧ v = .int .i64 r0 ∧ A' = []) := by
  have hc8 := UInt8.toNat_lt c
  refine Ct.intro Tryz.func252 rfl Tryz.ntmps252 (lb rfl) fun w0 hpre => ?_
  refine jC <| jE <| jA (jG (v := iv 0) rfl) <| jD <| jB <| jC <| jC <| jE <| jA (jF (v := .int .u8 ((c.toNat : Nat) : Int)) rfl) <| jA (kh rfl rfl) ?_
  refine jA (jF (v := .bool (decide (48 ≤ ((c.toNat : Nat) : Int)))) rfl) ?_
  by_cases h_1 : 48 ≤ ((c.toNat : Nat) : Int)
  · refine jZ rfl rfl rfl (cB (dT h_1)) (ja (jf (jF (v := .int .u8 ((c.toNat : Nat) : Int)) rfl))) ?_
    rintro _ _ ⟨rfl, rfl⟩
    refine jZ rfl rfl rfl (cB (dT h_1)) (ja (jf (PO.leq rfl rfl))) ?_
    rintro _ _ ⟨rfl, rfl⟩
    refine jA (kG (v := .bool (decide (((c.toNat : Nat) : Int) ≤ 57))) (cB (dT h_1)) rfl) <| jD <| jB ?_
    by_cases h_2 : ((c.toNat : Nat) : Int) ≤ 57
    · refine jO (cB (dT h_2)) <| jC <| jE <| jA (jF (v := .int .u8 ((c.toNat : Nat) : Int)) rfl) <| jA (PO.convI (c := ((c.toNat : Nat) : Int)) gZ gg rfl (wr (by omega))) <| jA (kW (c := ((c.toNat : Nat) : Int) - 48) rfl rfl (wr (by omega))) <| jA (jG (v := iv (((c.toNat : Nat) : Int) - 48)) rfl) <| jD <| jB <| jL ?_
      refine jW <| jR (.inl rfl) rfl (jN (v := iv (((c.toNat : Nat) : Int) - 48)) rfl) (List.nil_sublist _) ?_
      refine ⟨_, ?_, ?_, rfl, rfl⟩
      · first | exact hexV_a (by omega) (by omega) | exact hexV_b (by omega) (by omega) | exact hexV_c (by omega) (by omega)
      omega
    refine jP (cB (dF h_2)) <| jU <| jB <| jC <| jC <| jE <| jA (jF (v := .int .u8 ((c.toNat : Nat) : Int)) rfl) <| jA (kh rfl rfl) <| jA (jF (v := .bool (decide (97 ≤ ((c.toNat : Nat) : Int)))) rfl) ?_
    by_cases h_3 : 97 ≤ ((c.toNat : Nat) : Int)
    · refine jZ rfl rfl rfl (cB (dT h_3)) (ja (jf (jF (v := .int .u8 ((c.toNat : Nat) : Int)) rfl))) ?_
      rintro _ _ ⟨rfl, rfl⟩
      refine jZ rfl rfl rfl (cB (dT h_3)) (ja (jf (PO.leq rfl rfl))) ?_
      rintro _ _ ⟨rfl, rfl⟩
      refine jA (kG (v := .bool (decide (((c.toNat : Nat) : Int) ≤ 102))) (cB (dT h_3)) rfl) <| jD <| jB ?_
      by_cases h_4 : ((c.toNat : Nat) : Int) ≤ 102
      · refine jO (cB (dT h_4)) <| jC <| jE <| jA (jF (v := .int .u8 ((c.toNat : Nat) : Int)) rfl) <| jA (PO.convI (c := ((c.toNat : Nat) : Int)) gZ gg rfl (wr (by omega))) <| jA (kW (c := ((c.toNat : Nat) : Int) - 97) rfl rfl (wr (by omega))) <| jA (ji (c := (((c.toNat : Nat) : Int) - 97) + 10) rfl rfl (wr (by omega))) <| jA (jG (v := iv ((((c.toNat : Nat) : Int) - 97) + 10)) rfl) <| jD <| jB ?_
        refine jL <| jW <| jR (.inl rfl) rfl (jN (v := iv ((((c.toNat : Nat) : Int) - 97) + 10)) rfl) (List.nil_sublist _) ?_
        refine ⟨_, ?_, ?_, rfl, rfl⟩
        · first | exact hexV_a (by omega) (by omega) | exact hexV_b (by omega) (by omega) | exact hexV_c (by omega) (by omega)
        omega
      refine jP (cB (dF h_4)) <| jU <| jB <| jC <| jE <| jA (jG (v := iv (-1)) rfl) <| jD <| jB <| jL <| jR (.inl rfl) rfl (jN (v := iv (-1)) rfl) (List.nil_sublist _) ?_
      refine ⟨_, ?_, ?_, rfl, rfl⟩
      · first | exact hexV_a (by omega) (by omega) | exact hexV_b (by omega) (by omega) | exact hexV_c (by omega) (by omega)
      omega
    refine jS (b := false) rfl rfl rfl (cB (dF h_3)) <| jS (b := false) rfl rfl rfl (cB (dF h_3)) <| jA (jv (v := .bool false) (cB (dF h_3)) rfl) <| jD <| jB <| jP (cB rfl) <| jU <| jB <| jC <| jE ?_
    refine jA (jG (v := iv (-1)) rfl) <| jD <| jB <| jL <| jR (.inl rfl) rfl (jN (v := iv (-1)) rfl) (List.nil_sublist _) ?_
    refine ⟨_, ?_, ?_, rfl, rfl⟩
    · first | exact hexV_a (by omega) (by omega) | exact hexV_b (by omega) (by omega) | exact hexV_c (by omega) (by omega)
    omega
  refine jS (b := false) rfl rfl rfl (cB (dF h_1)) <| jS (b := false) rfl rfl rfl (cB (dF h_1)) <| jA (jv (v := .bool false) (cB (dF h_1)) rfl) <| jD <| jB <| jP (cB rfl) <| jU <| jB <| jC <| jC ?_
  refine jE <| jA (jF (v := .int .u8 ((c.toNat : Nat) : Int)) rfl) <| jA (kh rfl rfl) <| jA (jF (v := .bool (decide (97 ≤ ((c.toNat : Nat) : Int)))) rfl) ?_
  by_cases h_5 : 97 ≤ ((c.toNat : Nat) : Int)
  · refine jZ rfl rfl rfl (cB (dT h_5)) (ja (jf (jF (v := .int .u8 ((c.toNat : Nat) : Int)) rfl))) ?_
    rintro _ _ ⟨rfl, rfl⟩
    refine jZ rfl rfl rfl (cB (dT h_5)) (ja (jf (PO.leq rfl rfl))) ?_
    rintro _ _ ⟨rfl, rfl⟩
    refine jA (kG (v := .bool (decide (((c.toNat : Nat) : Int) ≤ 102))) (cB (dT h_5)) rfl) <| jD <| jB ?_
    by_cases h_6 : ((c.toNat : Nat) : Int) ≤ 102
    · refine jO (cB (dT h_6)) <| jC <| jE <| jA (jF (v := .int .u8 ((c.toNat : Nat) : Int)) rfl) <| jA (PO.convI (c := ((c.toNat : Nat) : Int)) gZ gg rfl (wr (by omega))) <| jA (kW (c := ((c.toNat : Nat) : Int) - 97) rfl rfl (wr (by omega))) <| jA (ji (c := (((c.toNat : Nat) : Int) - 97) + 10) rfl rfl (wr (by omega))) <| jA (jG (v := iv ((((c.toNat : Nat) : Int) - 97) + 10)) rfl) <| jD <| jB ?_
      refine jL <| jW <| jR (.inl rfl) rfl (jN (v := iv ((((c.toNat : Nat) : Int) - 97) + 10)) rfl) (List.nil_sublist _) ?_
      refine ⟨_, ?_, ?_, rfl, rfl⟩
      · first | exact hexV_a (by omega) (by omega) | exact hexV_b (by omega) (by omega) | exact hexV_c (by omega) (by omega)
      omega
    refine jP (cB (dF h_6)) <| jU <| jB <| jC <| jE <| jA (jG (v := iv (-1)) rfl) <| jD <| jB <| jL <| jR (.inl rfl) rfl (jN (v := iv (-1)) rfl) (List.nil_sublist _) ?_
    refine ⟨_, ?_, ?_, rfl, rfl⟩
    · first | exact hexV_a (by omega) (by omega) | exact hexV_b (by omega) (by omega) | exact hexV_c (by omega) (by omega)
    omega
  refine jS (b := false) rfl rfl rfl (cB (dF h_5)) <| jS (b := false) rfl rfl rfl (cB (dF h_5)) <| jA (jv (v := .bool false) (cB (dF h_5)) rfl) <| jD <| jB <| jP (cB rfl) <| jU <| jB <| jC <| jE ?_
  refine jA (jG (v := iv (-1)) rfl) <| jD <| jB <| jL <| jR (.inl rfl) rfl (jN (v := iv (-1)) rfl) (List.nil_sublist _) ?_
  refine ⟨_, ?_, ?_, rfl, rfl⟩
  · first | exact hexV_a (by omega) (by omega) | exact hexV_b (by omega) (by omega) | exact hexV_c (by omega) (by omega)
  omega

theorem N_sHex (s : Str) (hs : s.length ≤ 1000000000000) :
    Ct Tryz.prog 216 [str s] ([]) (fun _ => True) (fun v A' => ∃ r0 r1, hexP s = (r0, r1) ∧ r0.length ≤ 40000 ∧ v = .tuple #[str r0, .bool r1] ∧ A' = []) := by
  refine Ct.intro Tryz.func216 rfl Tryz.ntmps216 (lb rfl) fun w0 hpre => ?_
  refine jC <| jE <| jA (jG (v := str []) rfl) <| jA (jG (v := .bool false) rfl) <| jD <| jB <| jC <| jC <| jE <| jA (jF (v := str s) rfl) ?_
  refine jA (kV ky rfl) <| jA (ke rfl rfl) <| jD <| jB ?_
  by_cases h_1 : 20000 < (s.length : Int)
  · refine jO (cB (dT h_1)) <| jC <| jE <| jA (jG (v := str []) rfl) <| jA (jG (v := .bool false) rfl) <| jD <| jB <| jL <| jW <| kB (.inl rfl) rfl (jN (v := str []) rfl) (jN (v := .bool false) rfl) (List.nil_sublist _) ?_
    exact ⟨[], false, (by first | exact hexP_yes (by assumption) | (rw [hexP_no (by assumption), ← hexAcc_nil, hE])), (by first | omega | (simp only [LE]; omega)), rfl, rfl⟩
  refine jP (cB (dF h_1)) <| jU <| jB <| jC <| jE ?_
  refine jH rfl (kJ (ps := []) (cur := #[]) gM gi gp rfl (by kernel_rfl) (by decide) (by decide)) ?_
  rintro _ _ ⟨a_2, rfl, rfl⟩
  refine jA (jG (v := .slice a_2 0 0) rfl) <| jD <| jB <| jC <| jC <| jE <| jA (jG (v := iv 0) rfl) <| jD <| jB <| jg ?_
  refine kC (fun k_ e_ L_ => ∃ j : Nat, ∃ out_a : Option Addr, ∃ out_c : Nat, ∃ out_ : Str, (j ≤ s.length) ∧ (out_.length ≤ 2 * j) ∧ (hexAcc (s.drop j) out_ = hexAcc s ([] : List UInt8)) ∧ e_ 0 = str s ∧ e_ 2 = str [] ∧ e_ 3 = .bool false ∧ e_ 4 = .slice out_a out_.length out_c ∧ e_ 5 = nv j ∧ L_ = [Res.row (.slice out_a out_.length out_c) 5 1 out_.length (out_.map encB)] ∧ k_ = s.length - j) _ ⟨0, a_2, 0, ([] : List UInt8), by omega, (by first | omega | (simp only [LE]; omega)), rfl, rfl, rfl, rfl, rfl, rfl, rfl, rfl⟩ ?_
  rintro _ e_3 _ ⟨j, out_a, out_c, out_, hj, ho, hR, he_4, he_5, he_6, he_7, he_8, rfl, rfl⟩
  refine jC <| jC <| jE <| jA (jF (v := nv j) he_8) <| jA (jF (v := str s) he_4) <| jA (kV ky rfl) <| jA (jo rfl rfl) <| jD <| jB ?_
  by_cases h_9 : ((j : Nat) : Int) < (s.length : Int)
  · have hlt : j < s.length := by omega
    have hu8 := UInt8.toNat_lt (s.getD j 0)
    refine jO (cB (dT h_9)) <| jU <| jB <| jC <| jg <| jr [] 15 mixed (by simp) <| jI 0 rfl (jF (v := .slice out_a out_.length out_c) he_7) <| jI 1 rfl (jF (v := str s) he_4) <| jI 2 rfl (jF (v := nv j) he_8) <| jI 3 rfl (PO.indexS (i := j) (c := s.getD j 0) ky rfl rfl (getD_some (by omega))) ?_
    refine jI 4 rfl (PO.convI (c := ((s.getD j 0).toNat : Int)) gZ gg rfl (wr (by omega))) <| jI 5 rfl (PO.quoN (c := ((((s.getD j 0).toNat) / 16 : Nat) : Int)) rfl rfl (by omega) (by omega) (by omega) (wr (by omega))) <| jI 7 rfl (jF (v := str s) he_4) <| jI 8 rfl (jF (v := nv j) he_8) <| jI 9 rfl (PO.indexS (i := j) (c := s.getD j 0) ky rfl rfl (getD_some (by omega))) <| jI 10 rfl (PO.convI (c := ((s.getD j 0).toNat : Int)) gZ gg rfl (wr (by omega))) <| jI 11 rfl (PO.remN (c := ((((s.getD j 0).toNat) % 16 : Nat) : Int)) rfl rfl (by omega) (by omega) (by omega)) <| jQ (i := 6) ?_
    refine jY rfl rfl (jM [] Tryz.call230 rfl (N_figure (((s.getD j 0).toNat) / 16) (by omega)) rfl (fun _ _ => trivial)) ?_
    rintro _ _ ⟨_, ⟨rfl, rfl⟩, rfl⟩
    refine ⟨(fun _ h => by cases h), ?_⟩
    refine jQ (i := 12) ?_
    refine jY rfl rfl (jM [] Tryz.call230 rfl (N_figure (((s.getD j 0).toNat) % 16) (by omega)) rfl (fun _ _ => trivial)) ?_
    rintro _ _ ⟨_, ⟨rfl, rfl⟩, rfl⟩
    refine ⟨(fun _ h => by cases h), ?_⟩
    refine jQ (i := 13) ?_
    refine jY rfl rfl (kJ (ps := [(0, .int .u8 (((hexFig (((s.getD j 0).toNat) / 16)).toNat : Nat) : Int)), (1, .int .u8 (((hexFig (((s.getD j 0).toNat) % 16)).toNat : Nat) : Int))]) (cur := #[.int .u8 (((hexFig (((s.getD j 0).toNat) / 16)).toNat : Nat) : Int), .int .u8 (((hexFig (((s.getD j 0).toNat) % 16)).toNat : Nat) : Int)]) gM gi gp rfl (by kernel_rfl) (by decide) (by decide)) ?_
    rintro _ _ ⟨a_11, rfl, rfl⟩
    refine ⟨(fun _ h => by cases h), ?_⟩
    refine jQ (i := 14) ?_
    refine jY rfl rfl (kM 1 (q := 2) (news := ([hexFig (((s.getD j 0).toNat) / 16), hexFig (((s.getD j 0).toNat) % 16)] : List UInt8).map encB) (n' := (out_ ++ ([hexFig (((s.getD j 0).toNat) / 16), hexFig (((s.getD j 0).toNat) % 16)] : List UInt8)).length) (cs' := (out_ ++ ([hexFig (((s.getD j 0).toNat) / 16), hexFig (((s.getD j 0).toNat) % 16)] : List UInt8)).map encB) rfl gM gM Tryz.typeInfo5 rfl (by' := 1) rfl rfl rfl rfl rfl (fun w hw => Src.sees (hw.see (i := 0) rfl) (oneB _)) (by (try simp only [LE]); omega) (by (try simp only [LE]); omega) (by simp only [List.length_append, List.length_take, List.length_drop, List.length_cons, List.length_nil] <;> first | rfl | omega) (by simp only [List.map_append])) ?_
    rintro _ _ ⟨a_14, c_15, rfl, rfl⟩
    refine ⟨(fun _ h => by cases h), ?_⟩
    refine jI 15 rfl (jG (v := .slice a_14 ((out_ ++ ([hexFig (((s.getD j 0).toNat) / 16), hexFig (((s.getD j 0).toNat) % 16)] : List UInt8)).length) c_15) rfl) <| kI (by kernel_rfl) <| jk <| jB <| jE <| jA (jF (v := nv j) he_8) <| jA (ji (c := ((j + 1 : Nat) : Int)) rfl rfl (wr (by omega))) <| jA (jG (v := iv ((j + 1 : Nat) : Int)) rfl) <| jD <| kH [1] (A := [Res.row (.slice a_14 ((out_ ++ ([hexFig (((s.getD j 0).toNat) / 16), hexFig (((s.getD j 0).toNat) % 16)] : List UInt8)).length) c_15) 5 1 ((out_ ++ ([hexFig (((s.getD j 0).toNat) / 16), hexFig (((s.getD j 0).toNat) % 16)] : List UInt8)).length) ((out_ ++ ([hexFig (((s.getD j 0).toNat) / 16), hexFig (((s.getD j 0).toNat) % 16)] : List UInt8)).map encB)]) rfl ?_
    refine ju (s.length - (j + 1)) (by omega) ⟨j + 1, a_14, c_15, (out_ ++ ([hexFig (((s.getD j 0).toNat) / 16), hexFig (((s.getD j 0).toNat) % 16)] : List UInt8)), by omega, (by first | omega | (simp only [LE]; omega)), (by rw [drop_at (getD_some (d := 0) hlt)] at hR; simp only [hexAcc, h_1, h_9, SB] at hR; (repeat (first | rw [if_pos (by omega)] at hR | rw [if_neg (by omega)] at hR)); exact hR), he_4, he_5, he_6, rfl, rfl, rfl, rfl⟩
  rw [List.drop_of_length_le (by omega)] at hR
  simp only [hexAcc] at hR
  have hE := hR.symm
  refine jP (cB (dF h_9)) <| jz <| jj <| jj <| kA <| jB <| jC <| jE <| jA (jF (v := .slice out_a out_.length out_c) he_7) <| jK (LO.toStr 0 out_ rfl gM gZ ky rfl rfl) ?_
  refine jA (jG (v := str out_) rfl) <| jA (jG (v := .bool true) rfl) <| jD <| jB <| jL <| kB (.inl rfl) rfl (jN (v := str out_) rfl) (jN (v := .bool true) rfl) (List.nil_sublist _) ?_
  exact ⟨out_, true, (by first | exact hexP_yes (by assumption) | (rw [hexP_no (by assumption), ← hexAcc_nil, hE])), (by first | omega | (simp only [LE]; omega)), rfl, rfl⟩

theorem N_sUnhex (t : Str) (ht : t.length ≤ 1000000000000) :
    Ct Tryz.prog 218 [str t] ([]) (fun _ => True) (fun v A' => ∃ r0 r1, unhex t = (r0, r1) ∧ r0.length ≤ 20000 ∧ v = .tuple #[str r0, .bool r1] ∧ A' = []) := by
  refine Ct.intro Tryz.func218 rfl Tryz.ntmps218 (lb rfl) fun w0 hpre => ?_
  refine jC <| jE <| jA (jG (v := str []) rfl) <| jA (jG (v := .bool false) rfl) <| jD <| jB <| jC <| jC <| jE <| jA (jF (v := str t) rfl) ?_
  refine jA (kV ky rfl) <| jA (ke rfl rfl) <| jA (jF (v := .bool (decide (40000 < (t.length : Int)))) rfl) ?_
  by_cases h_1 : 40000 < (t.length : Int)
  · refine jS (b := true) rfl rfl rfl (cB (dT h_1)) <| jS (b := true) rfl rfl rfl (cB (dT h_1)) <| jS (b := true) rfl rfl rfl (cB (dT h_1)) <| jS (b := true) rfl rfl rfl (cB (dT h_1)) <| jA (kG (v := .bool true) (cB (dT h_1)) rfl) <| jD <| jB <| jO (cB rfl) <| jC <| jE ?_
    refine jA (jG (v := str []) rfl) <| jA (jG (v := .bool false) rfl) <| jD <| jB <| jL <| jW <| kB (.inl rfl) rfl (jN (v := str []) rfl) (jN (v := .bool false) rfl) (List.nil_sublist _) ?_
    exact ⟨[], false, (by first | exact unhex_bad (by omega) | exact unhex_some (by rw [List.drop_of_length_le (by omega)] at hR; rw [← hR]; simp [unhexL]) (by assumption) | exact unhex_none (by rw [unhexL_step (by omega)] at hR; simp only [if_true] at hR; rw [if_pos (by omega)] at hR; exact hR.symm)), (by first | omega | (simp only [LE]; omega)), rfl, rfl⟩
  refine jZ rfl rfl rfl (cB (dF h_1)) (ja (jf (jF (v := str t) rfl))) ?_
  rintro _ _ ⟨rfl, rfl⟩
  refine jZ rfl rfl rfl (cB (dF h_1)) (ja (jf (kV ky rfl))) ?_
  rintro _ _ ⟨rfl, rfl⟩
  refine jZ rfl rfl rfl (cB (dF h_1)) (ja (jf (PO.remN (c := ((t.length % 2 : Nat) : Int)) rfl rfl (by omega) (by omega) (by omega)))) ?_
  rintro _ _ ⟨rfl, rfl⟩
  refine jZ rfl rfl rfl (cB (dF h_1)) (ja (jf (kN rfl rfl))) ?_
  rintro _ _ ⟨rfl, rfl⟩
  refine jA (jv (v := .bool (!(decide (((t.length % 2 : Nat) : Int) = 0)))) (cB (dF h_1)) rfl) <| jD <| jB ?_
  by_cases h_2 : ((t.length % 2 : Nat) : Int) = 0
  · refine jP (cB (cN (dT h_2))) <| jU <| jB <| jC <| jE ?_
    refine jH rfl (kJ (ps := []) (cur := #[]) gM gi gp rfl (by kernel_rfl) (by decide) (by decide)) ?_
    rintro _ _ ⟨a_3, rfl, rfl⟩
    refine jA (jG (v := .slice a_3 0 0) rfl) <| jD <| jB <| jC <| jC <| jE <| jA (jG (v := iv 0) rfl) <| jD <| jB <| jg ?_
    refine kC (fun k_ e_ L_ => ∃ j : Nat, ∃ oa : Option Addr, ∃ oc : Nat, ∃ o_ : Str, (j ≤ t.length) ∧ ((t.length - j) % 2 = 0) ∧ (o_.length * 2 ≤ j) ∧ ((unhexL (t.drop j)).map (o_ ++ ·) = unhexL t) ∧ e_ 0 = str t ∧ e_ 4 = .slice oa o_.length oc ∧ e_ 5 = nv j ∧ L_ = [Res.row (.slice oa o_.length oc) 5 1 o_.length (o_.map encB)] ∧ k_ = t.length - j) _ ⟨0, a_3, 0, [], by omega, by omega, (by simp), (by simp), rfl, rfl, rfl, rfl, rfl⟩ ?_
    rintro _ e_4 _ ⟨j, oa, oc, o_, hj, hj2, ho, hR, he_5, he_6, he_7, rfl, rfl⟩
    refine jC <| jC <| jE <| jA (jF (v := nv j) he_7) <| jA (jF (v := str t) he_5) <| jA (kV ky rfl) <| jA (jo rfl rfl) <| jD <| jB ?_
    by_cases h_8 : ((j : Nat) : Int) < (t.length : Int)
    · refine jO (cB (dT h_8)) <| jU <| jB <| jC <| jg <| jC <| jE <| jA (jF (v := str t) he_5) <| jA (jF (v := nv j) he_7) <| jA (PO.indexS (i := j) (c := t.getD j 0) ky rfl rfl (getD_some (by omega))) ?_
      have hu_9 := UInt8.toNat_lt (t.getD j 0)
      refine jH rfl (jM [] Tryz.call252 rfl (N_value (t.getD j 0)) rfl (fun _ _ => trivial)) ?_
      rintro _ _ ⟨_, ⟨n_10, e_11, f_12, rfl, rfl⟩, rfl⟩
      refine jA (jG (v := iv n_10) rfl) <| jD <| jB <| jC <| jE <| jA (jF (v := str t) he_5) <| jA (jF (v := nv j) he_7) <| jA (ji (c := ((j + 1 : Nat) : Int)) rfl rfl (wr (by omega))) <| jA (PO.indexS (i := j + 1) (c := t.getD (j + 1) 0) ky rfl rfl (getD_some (by omega))) ?_
      have hu_13 := UInt8.toNat_lt (t.getD (j + 1) 0)
      refine jH rfl (jM [] Tryz.call252 rfl (N_value (t.getD (j + 1) 0)) rfl (fun _ _ => trivial)) ?_
      rintro _ _ ⟨_, ⟨n_14, e_15, f_16, rfl, rfl⟩, rfl⟩
      refine jA (jG (v := iv n_14) rfl) <| jD <| jB <| jC <| jC <| jE <| jA (jF (v := iv n_10) rfl) <| jA (jo rfl rfl) <| jA (jF (v := .bool (decide (n_10 < 0))) rfl) ?_
      by_cases h_17 : n_10 < 0
      · refine jS (b := true) rfl rfl rfl (cB (dT h_17)) <| jS (b := true) rfl rfl rfl (cB (dT h_17)) <| jA (kG (v := .bool true) (cB (dT h_17)) rfl) <| jD <| jB <| jO (cB rfl) <| jC <| jE <| jA (jG (v := str []) rfl) <| jA (jG (v := .bool false) rfl) ?_
        refine jD <| jB <| jL <| jW <| jq <| jW <| jW <| jq <| jW <| kB (.inl rfl) rfl (jN (v := str []) rfl) (jN (v := .bool false) rfl) (List.nil_sublist _) ?_
        exact ⟨[], false, (by first | exact unhex_bad (by omega) | exact unhex_some (by rw [List.drop_of_length_le (by omega)] at hR; rw [← hR]; simp [unhexL]) (by assumption) | exact unhex_none (by rw [unhexL_step (by omega)] at hR; simp only [e_11, e_15] at hR; rw [if_pos (by omega)] at hR; exact hR.symm)), (by first | omega | (simp only [LE]; omega)), rfl, rfl⟩
      refine jZ rfl rfl rfl (cB (dF h_17)) (ja (jf (jF (v := iv n_14) rfl))) ?_
      rintro _ _ ⟨rfl, rfl⟩
      refine jZ rfl rfl rfl (cB (dF h_17)) (ja (jf (jo rfl rfl))) ?_
      rintro _ _ ⟨rfl, rfl⟩
      refine jA (jv (v := .bool (decide (n_14 < 0))) (cB (dF h_17)) rfl) <| jD <| jB ?_
      by_cases h_18 : n_14 < 0
      · refine jO (cB (dT h_18)) <| jC <| jE <| jA (jG (v := str []) rfl) <| jA (jG (v := .bool false) rfl) <| jD <| jB <| jL <| jW <| jq ?_
        refine jW <| jW <| jq <| jW <| kB (.inl rfl) rfl (jN (v := str []) rfl) (jN (v := .bool false) rfl) (List.nil_sublist _) ?_
        exact ⟨[], false, (by first | exact unhex_bad (by omega) | exact unhex_some (by rw [List.drop_of_length_le (by omega)] at hR; rw [← hR]; simp [unhexL]) (by assumption) | exact unhex_none (by rw [unhexL_step (by omega)] at hR; simp only [e_11, e_15] at hR; rw [if_pos (by omega)] at hR; exact hR.symm)), (by first | omega | (simp only [LE]; omega)), rfl, rfl⟩
      refine jP (cB (dF h_18)) <| jU <| jB <| jE <| jA (jF (v := .slice oa o_.length oc) he_6) <| jA (jF (v := iv n_10) rfl) <| jA (PO.mul (c := 16 * n_10) rfl rfl (wr (by omega))) <| jA (jF (v := iv n_14) rfl) <| jA (ji (c := (16 * n_10) + n_14) rfl rfl (wr (by omega))) <| jA (PO.convI (c := (((UInt8.ofNat ((16 * n_10) + n_14).toNat).toNat : Nat) : Int)) gg gZ rfl (wr8u (by omega) rfl)) ?_
      refine jH rfl (kJ (ps := [(0, .int .u8 (((UInt8.ofNat ((16 * n_10) + n_14).toNat).toNat : Nat) : Int))]) (cur := #[.int .u8 (((UInt8.ofNat ((16 * n_10) + n_14).toNat).toNat : Nat) : Int)]) gM gi gp rfl (by kernel_rfl) (by decide) (by decide)) ?_
      rintro _ _ ⟨a_19, rfl, rfl⟩
      refine jH rfl (kM 1 (q := 1) (news := ([UInt8.ofNat ((16 * n_10) + n_14).toNat] : List UInt8).map encB) (n' := (o_ ++ ([UInt8.ofNat ((16 * n_10) + n_14).toNat] : List UInt8)).length) (cs' := (o_ ++ ([UInt8.ofNat ((16 * n_10) + n_14).toNat] : List UInt8)).map encB) rfl gM gM Tryz.typeInfo5 rfl (by' := 1) rfl rfl rfl rfl rfl (fun w hw => Src.sees (hw.see (i := 0) rfl) (oneB _)) (by (try simp only [LE]); omega) (by (try simp only [LE]); omega) (by simp only [List.length_append, List.length_take, List.length_drop, List.length_cons, List.length_nil] <;> first | rfl | omega) (by simp only [List.map_append])) ?_
      rintro _ _ ⟨a_20, c_21, rfl, rfl⟩
      refine jA (jG (v := .slice a_20 ((o_ ++ ([UInt8.ofNat ((16 * n_10) + n_14).toNat] : List UInt8)).length) c_21) rfl) <| jD <| jk <| jB <| jE <| jA (jF (v := nv j) he_7) <| jA (ji (c := ((j + 2 : Nat) : Int)) rfl rfl (wr (by omega))) <| jA (jG (v := iv ((j + 2 : Nat) : Int)) rfl) <| jD <| kH [1] (A := [Res.row (.slice a_20 ((o_ ++ ([UInt8.ofNat ((16 * n_10) + n_14).toNat] : List UInt8)).length) c_21) 5 1 ((o_ ++ ([UInt8.ofNat ((16 * n_10) + n_14).toNat] : List UInt8)).length) ((o_ ++ ([UInt8.ofNat ((16 * n_10) + n_14).toNat] : List UInt8)).map encB)]) rfl ?_
      refine ju (t.length - (j + 2)) (by omega) ⟨j + 2, a_20, c_21, (o_ ++ ([UInt8.ofNat ((16 * n_10) + n_14).toNat] : List UInt8)), by omega, by omega, (by simp only [List.length_append, List.length_cons, List.length_nil]; omega), (by rw [unhexL_step (by omega)] at hR; simp only [e_11, e_15] at hR; rw [if_neg (by omega)] at hR; exact hR), he_5, rfl, rfl, rfl, rfl⟩
    refine jP (cB (dF h_8)) <| jz <| jj <| jj <| kA <| jB <| jC <| jE <| jA (jF (v := .slice oa o_.length oc) he_6) <| jK (LO.toStr 0 o_ rfl gM gZ ky rfl rfl) ?_
    refine jA (jG (v := str o_) rfl) <| jA (jG (v := .bool true) rfl) <| jD <| jB <| jL <| kB (.inl rfl) rfl (jN (v := str o_) rfl) (jN (v := .bool true) rfl) (List.nil_sublist _) ?_
    exact ⟨o_, true, (unhex_some (by rw [List.drop_of_length_le (by omega)] at hR; exact hR.symm.trans (by simp [unhexL])) (by omega)), (by first | omega | (simp only [LE]; omega)), rfl, rfl⟩
  refine jO (cB (cN (dF h_2))) <| jC <| jE <| jA (jG (v := str []) rfl) <| jA (jG (v := .bool false) rfl) <| jD <| jB <| jL <| jW <| kB (.inl rfl) rfl (jN (v := str []) rfl) (jN (v := .bool false) rfl) (List.nil_sublist _) ?_
  exact ⟨[], false, (by first | exact unhex_bad (by omega) | exact unhex_some (by rw [List.drop_of_length_le (by omega)] at hR; rw [← hR]; simp [unhexL]) (by assumption) | exact unhex_none (by rw [unhexL_step (by omega)] at hR; simp only [if_true] at hR; rw [if_pos (by omega)] at hR; exact hR.symm)), (by first | omega | (simp only [LE]; omega)), rfl, rfl⟩

end Go.Proofs.YtghfijncihbojaaGreat

set_option linter.unusedSimpArgs false
set_option linter.unusedVariables false
set_option linter.unnecessarySimpa false
namespace Go.Proofs.YtghfijncihbojaaGreat
open Go Go.RowKit
attribute [local irreducible] JL JC JQ JO LO PO JA JX Ct

theorem M_putOut (x : MA) (m : MS) {S T : Nat} (hk : m.ok S T) (hS : S ≤ 300000000) (hT : T ≤ 300000000) (text : Str) (htext : text.length ≤ 1000000000000) :
    Ct Tryz.prog 166 [mv x m, str text] (mr x m) (fun _ => True) (fun v A' => ∃ x' m' r0, MS.putOut m text = (m', r0) ∧ m'.ok (S + 2) (T + 3) ∧ (0 ≤ r0 ∧ r0 ≤ 9) ∧ v = .tuple #[mv x' m', .int .i64 r0] ∧ A' = mr x' m') := by
  refine Ct.intro Tryz.func166 rfl Tryz.ntmps166 (lb rfl) fun w0 hpre => ?_
  refine jC <| jE ?_
  refine jH rfl (jy (cs := (mc x m)) rfl rfl) ?_
  rintro _ _ ⟨b_1, rfl, rfl⟩
  refine jH rfl (jn (z := zM) (cs := zC) gI rfl) ?_
  rintro _ _ ⟨b_2, rfl, rfl⟩
  refine jA (jG (v := iv 0) rfl) <| jD <| jB <| jC <| jC <| jE <| jA (jF (v := str text) rfl) <| jA (PO.eqlS rfl rfl) <| jA (jF (v := .bool (decide (text = []))) rfl) ?_
  by_cases h_3 : text = []
  · have h_3l : text.length = 0 := by rw [h_3]; rfl
    refine jS (b := true) rfl rfl rfl (cB (dT h_3)) <| jS (b := true) rfl rfl rfl (cB (dT h_3)) <| jS (b := true) rfl rfl rfl (cB (dT h_3)) <| jA (kG (v := .bool true) (cB (dT h_3)) rfl) <| jD <| jB <| jO (cB rfl) <| jC <| jE <| jK (jc 1 x m rfl rfl) ?_
    refine jH rfl (jm 0 x m rfl rfl rfl rfl) ?_
    rintro _ _ rfl
    refine jA (jG (v := iv 4) rfl) <| jD <| jB <| jL <| jW <| kR (pick_perm [2, 2, 2] (A := [rC x.a0 x.c0 m.s, rS x.a1 x.c1 m.r, rS x.a2 x.c2 m.w]) (F := [mb b_2 x m, mb b_1 x m]) rfl).symm <| kB (.inl rfl) rfl (je (jc 3 x m rfl rfl) ⟨_, rfl⟩) (jN (v := iv 4) rfl) (tS 3 _) ?_
    exact ⟨x, m, 4, (by simp only [MS.putOut, hexS_P, h_3, SB]; (repeat (first | rw [if_pos (by omega)] | rw [if_neg (by omega)])); all_goals (first | rfl | simp only [SB, h_3])), (hk.mono (by omega) (by omega)), (by first | omega | (simp only [LE]; omega)), rfl, rfl⟩
  have h_3l := List.length_pos_iff.2 h_3
  refine jZ rfl rfl rfl (cB (dF h_3)) (ja (jf (jF (v := str text) rfl))) ?_
  rintro _ _ ⟨rfl, rfl⟩
  refine jZ rfl rfl rfl (cB (dF h_3)) (ja (jf (kV ky rfl))) ?_
  rintro _ _ ⟨rfl, rfl⟩
  refine jZ rfl rfl rfl (cB (dF h_3)) (ja (jf (ke rfl rfl))) ?_
  rintro _ _ ⟨rfl, rfl⟩
  refine jA (jv (v := .bool (decide (20 < (text.length : Int)))) (cB (dF h_3)) rfl) <| jD <| jB ?_
  by_cases h_4 : 20 < (text.length : Int)
  · refine jO (cB (dT h_4)) <| jC <| jE <| jK (jc 1 x m rfl rfl) ?_
    refine jH rfl (jm 0 x m rfl rfl rfl rfl) ?_
    rintro _ _ rfl
    refine jA (jG (v := iv 4) rfl) <| jD <| jB <| jL <| jW <| kR (pick_perm [2, 2, 2] (A := [rC x.a0 x.c0 m.s, rS x.a1 x.c1 m.r, rS x.a2 x.c2 m.w]) (F := [mb b_2 x m, mb b_1 x m]) rfl).symm <| kB (.inl rfl) rfl (je (jc 3 x m rfl rfl) ⟨_, rfl⟩) (jN (v := iv 4) rfl) (tS 3 _) ?_
    exact ⟨x, m, 4, (by simp only [MS.putOut, hexS_P, h_3, h_4, SB]; (repeat (first | rw [if_pos (by omega)] | rw [if_neg (by omega)])); all_goals (first | rfl | simp only [SB, h_3, h_4])), (hk.mono (by omega) (by omega)), (by first | omega | (simp only [LE]; omega)), rfl, rfl⟩
  refine jP (cB (dF h_4)) <| jU <| jB <| jC <| jE <| jK (jc 1 x m rfl rfl) ?_
  refine jH rfl (jM [2, 2, 2] Tryz.call98 rfl (N_sNumAt x m hk (by omega) (by omega) [100, 47, 110]) rfl (fun _ _ => trivial)) ?_
  rintro _ _ ⟨_, ⟨x_7, m_8, n_9, e_5, k_6, f_10, rfl, rfl⟩, rfl⟩
  refine jA (jF (v := .tuple #[mv x_7 m_8, iv n_9]) rfl) <| jA (jb (v := mv x_7 m_8) rfl rfl) <| jA (jb (v := iv n_9) rfl rfl) ?_
  refine jH rfl (jm 4 x_7 m_8 rfl rfl rfl rfl) ?_
  rintro _ _ rfl
  refine jA (jG (v := iv n_9) rfl) <| jD <| jB <| jC <| jC <| jE <| jA (jF (v := iv n_9) rfl) <| jA (kh rfl rfl) <| jD <| jB ?_
  by_cases h_11 : 40 ≤ n_9
  · refine jO (cB (dT h_11)) <| jC <| jE <| jK (jc 4 x_7 m_8 rfl rfl) ?_
    refine jH rfl (jm 3 x_7 m_8 rfl rfl rfl rfl) ?_
    rintro _ _ rfl
    refine jA (jG (v := iv 3) rfl) <| jD <| jB <| jL <| jW <| kB (.inl rfl) rfl (je (jc 3 x_7 m_8 rfl rfl) ⟨_, rfl⟩) (jN (v := iv 3) rfl) (tS 3 _) ?_
    exact ⟨x_7, m_8, 3, (by simp only [MS.putOut, hexS_P, h_3, h_4, e_5, h_11, SB]; (repeat (first | rw [if_pos (by omega)] | rw [if_neg (by omega)])); all_goals (first | rfl | simp only [SB, h_3, h_4, e_5, h_11])), (k_6.mono (by omega) (by omega)), (by first | omega | (simp only [LE]; omega)), rfl, rfl⟩
  refine jP (cB (dF h_11)) <| jU <| jB <| jC <| jE <| jA (jF (v := str text) rfl) ?_
  refine jH rfl (jM [] Tryz.call216 rfl (N_sHex text (by omega)) rfl (fun _ _ => trivial)) ?_
  rintro _ _ ⟨_, ⟨u_14, b_16, e_12, f_15, rfl, rfl⟩, rfl⟩
  refine jA (jF (v := .tuple #[str u_14, .bool b_16]) rfl) <| jA (jb (v := str u_14) rfl rfl) <| jA (jb (v := .bool b_16) rfl rfl) <| jA (jG (v := str u_14) rfl) <| jA (jG (v := .bool b_16) rfl) <| jD <| jB <| jC <| jE <| jK (jc 4 x_7 m_8 rfl rfl) ?_
  refine jA (jF (v := iv n_9) rfl) <| jA (ji (c := n_9 + 1) rfl rfl (wr (by omega))) ?_
  refine jH rfl (jM [0, 0, 0] Tryz.call100 rfl (N_sSetNum x_7 m_8 k_6 (by omega) (by omega) [100, 47, 110] (n_9 + 1) (by decide) (by omega)) rfl (fun _ _ => trivial)) ?_
  rintro _ _ ⟨_, ⟨x_19, m_20, e_17, k_18, rfl, rfl⟩, rfl⟩
  refine jH rfl (jm 4 x_19 m_20 rfl rfl rfl rfl) ?_
  rintro _ _ rfl
  refine jD <| jB <| jC <| jr [mb b_1 x_19 m_20] 6 mixed (by simp) <| jh 0 rfl (jc 0 x_19 m_20 rfl rfl) <| jI 1 rfl (jF (v := iv n_9) rfl) <| jI 2 rfl (ji (c := n_9 + 1) rfl rfl (wr (by omega))) <| jI 4 rfl (jF (v := str u_14) rfl) <| jI 5 rfl (ki rfl rfl (by (try simp only [List.length_append, List.length_cons, List.length_nil, List.length_drop, List.length_take]); omega)) <| jQ (i := 3) ?_
  refine jY rfl rfl (jM [] Tryz.call173 rfl (N_sKeyNum [100, 47] (n_9 + 1) [] (show List.length ([100, 47] : Str) ≤ 2 by decide) (by omega) (show List.length ([] : Str) ≤ 0 by decide) (by omega)) rfl (fun _ _ => trivial)) ?_
  rintro _ _ ⟨_, ⟨u_35, e_33, f_36, rfl, rfl⟩, rfl⟩
  refine ⟨(by simp), ?_⟩
  refine jQ (i := 6) ?_
  refine kF rfl (jM [0, 0, 0] Tryz.call171 rfl (N_sLay x_19 m_20 k_18 (by omega) (by omega) u_35 ([45] ++ u_14) (by omega)) rfl (fun _ _ => trivial)) ?_
  rintro _ _ ⟨_, ⟨x_43, m_44, e_41, k_42, rfl, rfl⟩, rfl⟩
  refine jQ (i := 7) ?_
  refine kF rfl (jm 3 x_43 m_44 rfl rfl rfl rfl) ?_
  rintro _ _ rfl
  refine jI 8 rfl (jG (v := iv 0) rfl) <| kI (by kernel_rfl) <| jB <| jL <| kB (.inl rfl) rfl (je (jc 3 x_43 m_44 rfl rfl) ⟨_, rfl⟩) (jN (v := iv 0) rfl) (tS 3 _) ?_
  exact ⟨x_43, m_44, 0, (by simp only [MS.putOut, hexS_P, h_3, h_4, e_5, h_11, e_12, e_17, e_33, e_41, SB]; (repeat (first | rw [if_pos (by omega)] | rw [if_neg (by omega)])); all_goals (first | rfl | simp only [SB, h_3, h_4, e_5, h_11, e_12, e_17, e_33, e_41])), (k_42.mono (by omega) (by omega)), (by first | omega | (simp only [LE]; omega)), rfl, rfl⟩

theorem M_putPipe (x : MA) (m : MS) {S T : Nat} (hk : m.ok S T) (hS : S ≤ 300000000) (hT : T ≤ 300000000) (id : Int) (text : Str) (hid : -9223372036854775808 ≤ id ∧ id ≤ 9223372036854775807) (htext : text.length ≤ 1000000000000) :
    Ct Tryz.prog 158 [mv x m, .int .i64 id, str text] (mr x m) (fun _ => True) (fun v A' => ∃ x' m' r0, MS.putPipe m id text = (m', r0) ∧ m'.ok (S + 2) (T + 5) ∧ (0 ≤ r0 ∧ r0 ≤ 9) ∧ v = .tuple #[mv x' m', .int .i64 r0] ∧ A' = mr x' m') := by
  refine Ct.intro Tryz.func158 rfl Tryz.ntmps158 (lb rfl) fun w0 hpre => ?_
  refine jC <| jE ?_
  refine jH rfl (jy (cs := (mc x m)) rfl rfl) ?_
  rintro _ _ ⟨b_1, rfl, rfl⟩
  refine jH rfl (jn (z := zM) (cs := zC) gI rfl) ?_
  rintro _ _ ⟨b_2, rfl, rfl⟩
  refine jA (jG (v := iv 0) rfl) <| jD <| jB <| jC <| jE <| jK (jc 1 x m rfl rfl) <| jA (jF (v := iv id) rfl) ?_
  refine jH rfl (jM [2, 2, 2] Tryz.call215 rfl (M_isPipe x m hk (by omega) (by omega) id (by omega)) rfl (fun _ _ => trivial)) ?_
  rintro _ _ ⟨_, ⟨x_5, m_6, b_7, e_3, k_4, rfl, rfl⟩, rfl⟩
  refine jA (jF (v := .tuple #[mv x_5 m_6, .bool b_7]) rfl) <| jA (jb (v := mv x_5 m_6) rfl rfl) <| jA (jb (v := .bool b_7) rfl rfl) ?_
  refine jH rfl (jm 4 x_5 m_6 rfl rfl rfl rfl) ?_
  rintro _ _ rfl
  refine jA (jG (v := .bool b_7) rfl) <| jD <| jB <| jC <| jC <| jE <| jA (jF (v := .bool b_7) rfl) <| jA (kP rfl) <| jD <| jB ?_
  rcases Bool.eq_false_or_eq_true (b_7) with h_8 | h_8
  · refine jP (cB (cN h_8)) <| jU <| jB <| jC <| jC <| jE <| jA (jF (v := str text) rfl) <| jA (kV ky rfl) <| jA (ke rfl rfl) <| jD ?_
    refine jB ?_
    by_cases h_9 : 20 < (text.length : Int)
    · refine jO (cB (dT h_9)) <| jC <| jE <| jK (jc 4 x_5 m_6 rfl rfl) ?_
      refine jH rfl (jm 3 x_5 m_6 rfl rfl rfl rfl) ?_
      rintro _ _ rfl
      refine jA (jG (v := iv 4) rfl) <| jD <| jB <| jL <| jW <| kB (.inl rfl) rfl (je (jc 3 x_5 m_6 rfl rfl) ⟨_, rfl⟩) (jN (v := iv 4) rfl) (tS 3 _) ?_
      exact ⟨x_5, m_6, 4, (by simp only [MS.putPipe, hexS_P, e_3, h_8, h_9, SB]; (repeat (first | rw [if_pos (by omega)] | rw [if_neg (by omega)])); all_goals (first | rfl | simp only [SB, e_3, h_8, h_9])), (k_4.mono (by omega) (by omega)), (by first | omega | (simp only [LE]; omega)), rfl, rfl⟩
    refine jP (cB (dF h_9)) <| jU <| jB <| jC <| jr [mb b_1 x_5 m_6] 7 mixed (by simp) <| jh 0 rfl (jc 0 x_5 m_6 rfl rfl) <| jI 1 rfl (jF (v := iv id) rfl) <| jQ (i := 2) ?_
    refine jY rfl rfl (jM [] Tryz.call214 rfl (N_l08Key id [47, 116] (by omega) (show List.length ([47, 116] : Str) ≤ 2 by decide) (by omega)) rfl (fun _ _ => trivial)) ?_
    rintro _ _ ⟨_, ⟨u_16, e_14, f_17, rfl, rfl⟩, rfl⟩
    refine ⟨(by simp), ?_⟩
    refine jQ (i := 3) ?_
    refine jY rfl rfl (jM [0, 0, 0] Tryz.call98 rfl (N_sNumAt x_5 m_6 k_4 (by omega) (by omega) u_16) rfl (fun _ _ => trivial)) ?_
    rintro _ _ ⟨_, ⟨x_26, m_27, n_28, e_24, k_25, f_29, rfl, rfl⟩, rfl⟩
    refine ⟨(by simp), ?_⟩
    refine jI 4 rfl (jF (v := .tuple #[mv x_26 m_27, iv n_28]) rfl) <| jI 5 rfl (jb (v := mv x_26 m_27) rfl rfl) <| jI 6 rfl (jb (v := iv n_28) rfl rfl) <| jQ (i := 7) ?_
    refine kF rfl (jm 4 x_26 m_27 rfl rfl rfl rfl) ?_
    rintro _ _ rfl
    refine jI 8 rfl (jG (v := iv n_28) rfl) <| kI (by kernel_rfl) <| jB <| jC <| jr [mb b_1 x_26 m_27] 7 mixed (by simp) <| jh 0 rfl (jc 0 x_26 m_27 rfl rfl) <| jI 1 rfl (jF (v := iv id) rfl) <| jQ (i := 2) ?_
    refine jY rfl rfl (jM [] Tryz.call214 rfl (N_l08Key id [47, 104] (by omega) (show List.length ([47, 104] : Str) ≤ 2 by decide) (by omega)) rfl (fun _ _ => trivial)) ?_
    rintro _ _ ⟨_, ⟨u_36, e_34, f_37, rfl, rfl⟩, rfl⟩
    refine ⟨(by simp), ?_⟩
    refine jQ (i := 3) ?_
    refine jY rfl rfl (jM [0, 0, 0] Tryz.call98 rfl (N_sNumAt x_26 m_27 k_25 (by omega) (by omega) u_36) rfl (fun _ _ => trivial)) ?_
    rintro _ _ ⟨_, ⟨x_46, m_47, n_48, e_44, k_45, f_49, rfl, rfl⟩, rfl⟩
    refine ⟨(by simp), ?_⟩
    refine jI 4 rfl (jF (v := .tuple #[mv x_46 m_47, iv n_48]) rfl) <| jI 5 rfl (jb (v := mv x_46 m_47) rfl rfl) <| jI 6 rfl (jb (v := iv n_48) rfl rfl) <| jQ (i := 7) ?_
    refine kF rfl (jm 4 x_46 m_47 rfl rfl rfl rfl) ?_
    rintro _ _ rfl
    refine jI 8 rfl (jG (v := iv n_48) rfl) <| kI (by kernel_rfl) <| jB <| jC <| jC <| jE <| jA (jF (v := iv n_28) rfl) <| jA (jF (v := iv n_48) rfl) <| jA (kW (c := n_28 - n_48) rfl rfl (wr (by omega))) <| jA (kh rfl rfl) ?_
    refine jD <| jB ?_
    by_cases h_50 : 4 ≤ (n_28 - n_48)
    · refine jO (cB (dT h_50)) <| jC <| jE <| jK (jc 4 x_46 m_47 rfl rfl) ?_
      refine jH rfl (jm 3 x_46 m_47 rfl rfl rfl rfl) ?_
      rintro _ _ rfl
      refine jA (jG (v := iv 5) rfl) <| jD <| jB <| jL <| jW <| kB (.inl rfl) rfl (je (jc 3 x_46 m_47 rfl rfl) ⟨_, rfl⟩) (jN (v := iv 5) rfl) (tS 3 _) ?_
      exact ⟨x_46, m_47, 5, (by simp only [MS.putPipe, hexS_P, e_3, h_8, h_9, e_14, e_24, e_34, e_44, h_50, SB]; (repeat (first | rw [if_pos (by omega)] | rw [if_neg (by omega)])); all_goals (first | rfl | simp only [SB, e_3, h_8, h_9, e_14, e_24, e_34, e_44, h_50])), (k_45.mono (by omega) (by omega)), (by first | omega | (simp only [LE]; omega)), rfl, rfl⟩
    refine jP (cB (dF h_50)) <| jU <| jB <| jC <| jC <| jE <| jA (jF (v := iv n_28) rfl) <| jA (kh rfl rfl) <| jD <| jB ?_
    by_cases h_51 : 999 ≤ n_28
    · refine jO (cB (dT h_51)) <| jC <| jE <| jK (jc 4 x_46 m_47 rfl rfl) ?_
      refine jH rfl (jm 3 x_46 m_47 rfl rfl rfl rfl) ?_
      rintro _ _ rfl
      refine jA (jG (v := iv 3) rfl) <| jD <| jB <| jL <| jW <| kB (.inl rfl) rfl (je (jc 3 x_46 m_47 rfl rfl) ⟨_, rfl⟩) (jN (v := iv 3) rfl) (tS 3 _) ?_
      exact ⟨x_46, m_47, 3, (by simp only [MS.putPipe, hexS_P, e_3, h_8, h_9, e_14, e_24, e_34, e_44, h_50, h_51, SB]; (repeat (first | rw [if_pos (by omega)] | rw [if_neg (by omega)])); all_goals (first | rfl | simp only [SB, e_3, h_8, h_9, e_14, e_24, e_34, e_44, h_50, h_51])), (k_45.mono (by omega) (by omega)), (by first | omega | (simp only [LE]; omega)), rfl, rfl⟩
    refine jP (cB (dF h_51)) <| jU <| jB <| jC <| jE <| jA (jF (v := str text) rfl) ?_
    refine jH rfl (jM [] Tryz.call216 rfl (N_sHex text (by omega)) rfl (fun _ _ => trivial)) ?_
    rintro _ _ ⟨_, ⟨u_54, b_56, e_52, f_55, rfl, rfl⟩, rfl⟩
    refine jA (jF (v := .tuple #[str u_54, .bool b_56]) rfl) <| jA (jb (v := str u_54) rfl rfl) <| jA (jb (v := .bool b_56) rfl rfl) <| jA (jG (v := str u_54) rfl) <| jA (jG (v := .bool b_56) rfl) <| jD <| jB <| jC <| jr [mb b_1 x_46 m_47] 5 mixed (by simp) <| jh 0 rfl (jc 0 x_46 m_47 rfl rfl) ?_
    refine jI 1 rfl (jF (v := iv id) rfl) <| jI 3 rfl (jF (v := iv n_28) rfl) <| jI 4 rfl (ji (c := n_28 + 1) rfl rfl (wr (by omega))) <| jQ (i := 2) ?_
    refine jY rfl rfl (jM [] Tryz.call214 rfl (N_l08Key id [47, 116] (by omega) (show List.length ([47, 116] : Str) ≤ 2 by decide) (by omega)) rfl (fun _ _ => trivial)) ?_
    rintro _ _ ⟨_, ⟨u_71, e_69, f_72, rfl, rfl⟩, rfl⟩
    have hqe_69 := e_14.symm.trans e_69
    subst hqe_69
    refine ⟨(by simp), ?_⟩
    refine jQ (i := 5) ?_
    refine kF rfl (jM [0, 0, 0] Tryz.call100 rfl (N_sSetNum x_46 m_47 k_45 (by omega) (by omega) u_16 (n_28 + 1) (by omega) (by omega)) rfl (fun _ _ => trivial)) ?_
    rintro _ _ ⟨_, ⟨x_79, m_80, e_77, k_78, rfl, rfl⟩, rfl⟩
    refine jQ (i := 6) ?_
    refine jx rfl (jm 4 x_79 m_80 rfl rfl rfl rfl) ?_
    rintro _ _ rfl
    refine jB <| jC <| jr [mb b_1 x_79 m_80] 7 mixed (by simp) <| jh 0 rfl (jc 0 x_79 m_80 rfl rfl) <| jI 1 rfl (jF (v := iv id) rfl) <| jI 2 rfl (jF (v := iv n_28) rfl) <| jI 3 rfl (ji (c := n_28 + 1) rfl rfl (wr (by omega))) <| jI 5 rfl (jF (v := str u_54) rfl) <| jI 6 rfl (ki rfl rfl (by (try simp only [List.length_append, List.length_cons, List.length_nil, List.length_drop, List.length_take]); omega)) <| jQ (i := 4) ?_
    refine jY rfl rfl (jM [] Tryz.call217 rfl (N_l08Message id (n_28 + 1) (by omega) (by omega)) rfl (fun _ _ => trivial)) ?_
    rintro _ _ ⟨_, ⟨u_95, e_93, f_96, rfl, rfl⟩, rfl⟩
    refine ⟨(by simp), ?_⟩
    refine jQ (i := 7) ?_
    refine kF rfl (jM [0, 0, 0] Tryz.call171 rfl (N_sLay x_79 m_80 k_78 (by omega) (by omega) u_95 ([45] ++ u_54) (by omega)) rfl (fun _ _ => trivial)) ?_
    rintro _ _ ⟨_, ⟨x_103, m_104, e_101, k_102, rfl, rfl⟩, rfl⟩
    refine jQ (i := 8) ?_
    refine kF rfl (jm 3 x_103 m_104 rfl rfl rfl rfl) ?_
    rintro _ _ rfl
    refine jI 9 rfl (jG (v := iv 0) rfl) <| kI (by kernel_rfl) <| jB <| jL <| kB (.inl rfl) rfl (je (jc 3 x_103 m_104 rfl rfl) ⟨_, rfl⟩) (jN (v := iv 0) rfl) (tS 3 _) ?_
    exact ⟨x_103, m_104, 0, (by simp only [MS.putPipe, hexS_P, e_3, h_8, h_9, e_14, e_24, e_34, e_44, h_50, h_51, e_52, e_77, e_93, e_101, SB]; (repeat (first | rw [if_pos (by omega)] | rw [if_neg (by omega)])); all_goals (first | rfl | simp only [SB, e_3, h_8, h_9, e_14, e_24, e_34, e_44, h_50, h_51, e_52, e_77, e_93, e_101])), (k_102.mono (by omega) (by omega)), (by first | omega | (simp only [LE]; omega)), rfl, rfl⟩
  refine jO (cB (cN h_8)) <| jC <| jE <| jK (jc 4 x_5 m_6 rfl rfl) ?_
  refine jH rfl (jm 3 x_5 m_6 rfl rfl rfl rfl) ?_
  rintro _ _ rfl
  refine jA (jG (v := iv 2) rfl) <| jD <| jB <| jL <| jW <| kB (.inl rfl) rfl (je (jc 3 x_5 m_6 rfl rfl) ⟨_, rfl⟩) (jN (v := iv 2) rfl) (tS 3 _) ?_
  exact ⟨x_5, m_6, 2, (by simp only [MS.putPipe, hexS_P, e_3, h_8, SB]; (repeat (first | rw [if_pos (by omega)] | rw [if_neg (by omega)])); all_goals (first | rfl | simp only [SB, e_3, h_8])), (k_4.mono (by omega) (by omega)), (by first | omega | (simp only [LE]; omega)), rfl, rfl⟩

theorem M_takePipe (x : MA) (m : MS) {S T : Nat} (hk : m.ok S T) (hS : S ≤ 300000000) (hT : T ≤ 300000000) (id : Int) (hid : -9223372036854775808 ≤ id ∧ id ≤ 9223372036854775807) :
    Ct Tryz.prog 159 [mv x m, .int .i64 id] (mr x m) (fun _ => True) (fun v A' => ∃ x' m' r0 r1, MS.takePipe m id = (m', r0, r1) ∧ m'.ok (S + 1) (T + 6) ∧ r0.length ≤ 20000 ∧ (0 ≤ r1 ∧ r1 ≤ 9) ∧ v = .tuple #[mv x' m', str r0, .int .i64 r1] ∧ A' = mr x' m') := by
  refine Ct.intro Tryz.func159 rfl Tryz.ntmps159 (lb rfl) fun w0 hpre => ?_
  refine jC <| jE ?_
  refine jH rfl (jy (cs := (mc x m)) rfl rfl) ?_
  rintro _ _ ⟨b_1, rfl, rfl⟩
  refine jH rfl (jn (z := zM) (cs := zC) gI rfl) ?_
  rintro _ _ ⟨b_2, rfl, rfl⟩
  refine jA (jG (v := str []) rfl) <| jA (jG (v := iv 0) rfl) <| jD <| jB <| jC <| jE <| jK (jc 1 x m rfl rfl) <| jA (jF (v := iv id) rfl) ?_
  refine jH rfl (jM [2, 2, 2] Tryz.call215 rfl (M_isPipe x m hk (by omega) (by omega) id (by omega)) rfl (fun _ _ => trivial)) ?_
  rintro _ _ ⟨_, ⟨x_5, m_6, b_7, e_3, k_4, rfl, rfl⟩, rfl⟩
  refine jA (jF (v := .tuple #[mv x_5 m_6, .bool b_7]) rfl) <| jA (jb (v := mv x_5 m_6) rfl rfl) <| jA (jb (v := .bool b_7) rfl rfl) ?_
  refine jH rfl (jm 4 x_5 m_6 rfl rfl rfl rfl) ?_
  rintro _ _ rfl
  refine jA (jG (v := .bool b_7) rfl) <| jD <| jB <| jC <| jC <| jE <| jA (jF (v := .bool b_7) rfl) <| jA (kP rfl) <| jD <| jB ?_
  rcases Bool.eq_false_or_eq_true (b_7) with h_8 | h_8
  · refine jP (cB (cN h_8)) <| jU <| jB <| jC <| jr [mb b_1 x_5 m_6] 7 mixed (by simp) <| jh 0 rfl (jc 0 x_5 m_6 rfl rfl) <| jI 1 rfl (jF (v := iv id) rfl) <| jQ (i := 2) ?_
    refine jY rfl rfl (jM [] Tryz.call214 rfl (N_l08Key id [47, 104] (by omega) (show List.length ([47, 104] : Str) ≤ 2 by decide) (by omega)) rfl (fun _ _ => trivial)) ?_
    rintro _ _ ⟨_, ⟨u_15, e_13, f_16, rfl, rfl⟩, rfl⟩
    refine ⟨(by simp), ?_⟩
    refine jQ (i := 3) ?_
    refine jY rfl rfl (jM [0, 0, 0] Tryz.call98 rfl (N_sNumAt x_5 m_6 k_4 (by omega) (by omega) u_15) rfl (fun _ _ => trivial)) ?_
    rintro _ _ ⟨_, ⟨x_25, m_26, n_27, e_23, k_24, f_28, rfl, rfl⟩, rfl⟩
    refine ⟨(by simp), ?_⟩
    refine jI 4 rfl (jF (v := .tuple #[mv x_25 m_26, iv n_27]) rfl) <| jI 5 rfl (jb (v := mv x_25 m_26) rfl rfl) <| jI 6 rfl (jb (v := iv n_27) rfl rfl) <| jQ (i := 7) ?_
    refine kF rfl (jm 4 x_25 m_26 rfl rfl rfl rfl) ?_
    rintro _ _ rfl
    refine jI 8 rfl (jG (v := iv n_27) rfl) <| kI (by kernel_rfl) <| jB <| jC <| jr [mb b_1 x_25 m_26] 7 mixed (by simp) <| jh 0 rfl (jc 0 x_25 m_26 rfl rfl) <| jI 1 rfl (jF (v := iv id) rfl) <| jQ (i := 2) ?_
    refine jY rfl rfl (jM [] Tryz.call214 rfl (N_l08Key id [47, 116] (by omega) (show List.length ([47, 116] : Str) ≤ 2 by decide) (by omega)) rfl (fun _ _ => trivial)) ?_
    rintro _ _ ⟨_, ⟨u_35, e_33, f_36, rfl, rfl⟩, rfl⟩
    refine ⟨(by simp), ?_⟩
    refine jQ (i := 3) ?_
    refine jY rfl rfl (jM [0, 0, 0] Tryz.call98 rfl (N_sNumAt x_25 m_26 k_24 (by omega) (by omega) u_35) rfl (fun _ _ => trivial)) ?_
    rintro _ _ ⟨_, ⟨x_45, m_46, n_47, e_43, k_44, f_48, rfl, rfl⟩, rfl⟩
    refine ⟨(by simp), ?_⟩
    refine jI 4 rfl (jF (v := .tuple #[mv x_45 m_46, iv n_47]) rfl) <| jI 5 rfl (jb (v := mv x_45 m_46) rfl rfl) <| jI 6 rfl (jb (v := iv n_47) rfl rfl) <| jQ (i := 7) ?_
    refine kF rfl (jm 4 x_45 m_46 rfl rfl rfl rfl) ?_
    rintro _ _ rfl
    refine jI 8 rfl (jG (v := iv n_47) rfl) <| kI (by kernel_rfl) <| jB <| jC <| jC <| jE <| jA (jF (v := iv n_27) rfl) <| jA (jF (v := iv n_47) rfl) <| jA (jw rfl rfl) <| jD ?_
    refine jB ?_
    by_cases h_49 : n_27 = n_47
    · refine jO (cB (dT h_49)) <| jC <| jE <| jK (jc 4 x_45 m_46 rfl rfl) ?_
      refine jH rfl (jm 3 x_45 m_46 rfl rfl rfl rfl) ?_
      rintro _ _ rfl
      refine jA (jG (v := str []) rfl) <| jA (jG (v := iv 5) rfl) <| jD <| jB <| jL <| jW <| ka (.inl rfl) rfl (je (jc 3 x_45 m_46 rfl rfl) ⟨_, rfl⟩) (jN (v := str []) rfl) (jN (v := iv 5) rfl) (tS 3 _) ?_
      exact ⟨x_45, m_46, [], 5, (by simp only [MS.takePipe, MS.message, e_3, h_8, e_13, e_23, e_33, e_43, h_49, SB]; (repeat (first | rw [if_pos (by omega)] | rw [if_neg (by omega)])); all_goals (first | rfl | simp only [SB, e_3, h_8, e_13, e_23, e_33, e_43, h_49])), (k_44.mono (by omega) (by omega)), (by first | omega | (simp only [LE]; omega)), (by first | omega | (simp only [LE]; omega)), rfl, rfl⟩
    refine jP (cB (dF h_49)) <| jU <| jB <| jC <| jr [mb b_1 x_45 m_46] 9 mixed (by simp) <| jh 0 rfl (jc 0 x_45 m_46 rfl rfl) <| jI 1 rfl (jF (v := iv id) rfl) <| jI 2 rfl (jF (v := iv n_27) rfl) <| jI 3 rfl (ji (c := n_27 + 1) rfl rfl (wr (by omega))) <| jQ (i := 4) ?_
    refine jY rfl rfl (jM [] Tryz.call217 rfl (N_l08Message id (n_27 + 1) (by omega) (by omega)) rfl (fun _ _ => trivial)) ?_
    rintro _ _ ⟨_, ⟨u_56, e_54, f_57, rfl, rfl⟩, rfl⟩
    refine ⟨(by simp), ?_⟩
    refine jQ (i := 5) ?_
    refine jY rfl rfl (jM [0, 0, 0] Tryz.call169 rfl (N_sLook x_45 m_46 k_44 (by omega) (by omega) u_56) rfl (fun _ _ => trivial)) ?_
    rintro _ _ ⟨_, ⟨x_66, m_67, u_68, e_64, k_65, f_69, rfl, rfl⟩, rfl⟩
    refine ⟨(by simp), ?_⟩
    refine jI 6 rfl (jF (v := .tuple #[mv x_66 m_67, str u_68]) rfl) <| jI 7 rfl (jb (v := mv x_66 m_67) rfl rfl) <| jI 8 rfl (jb (v := str u_68) rfl rfl) <| jQ (i := 9) ?_
    refine kF rfl (jm 4 x_66 m_67 rfl rfl rfl rfl) ?_
    rintro _ _ rfl
    refine jI 10 rfl (jG (v := str u_68) rfl) <| kI (by kernel_rfl) <| jB <| jC <| jE <| jA (jG (v := str []) rfl) <| jD <| jB <| jC ?_
    refine JC.cut (fun e_ L_ => e_ 1 = iv id ∧ e_ 2 = .pointer (some ⟨b_1, 0, none⟩) ∧ e_ 4 = .pointer (some ⟨b_2, 0, none⟩) ∧ e_ 5 = str [] ∧ e_ 6 = iv 0 ∧ e_ 8 = iv n_27 ∧ e_ 11 = str (messageOf u_68) ∧ L_ = [rC x_66.a0 x_66.c0 m_67.s, rS x_66.a1 x_66.c1 m_67.r, rS x_66.a2 x_66.c2 m_67.w, bk b_2 99 zC, mb b_1 x_66 m_67]) ?_ ?_
    · refine jC <| jE <| jA (jF (v := str u_68) rfl) <| jA (kj rfl rfl) <| jA (jF (v := .bool (!(decide (u_68 = [])))) rfl) ?_
      by_cases h_70 : u_68 = []
      · have hm := messageOf_nil h_70
        refine jS (b := false) rfl rfl rfl (cB (cN (dT h_70))) <| jS (b := false) rfl rfl rfl (cB (cN (dT h_70))) <| jS (b := false) rfl rfl rfl (cB (cN (dT h_70))) <| jA (jv (v := .bool false) (cB (cN (dT h_70))) rfl) <| jD <| jB <| jP (cB rfl) <| jU <| kH [0, 0, 0, 0, 0] (A := [rC x_66.a0 x_66.c0 m_67.s, rS x_66.a1 x_66.c1 m_67.r, rS x_66.a2 x_66.c2 m_67.w, bk b_2 99 zC, mb b_1 x_66 m_67]) rfl ?_
        exact kT ⟨rfl, rfl, rfl, rfl, rfl, rfl, (congrArg str hm.symm), rfl⟩
      have h_70l := List.length_pos_iff.2 h_70
      refine jZ rfl rfl rfl (cB (cN (dF h_70))) (ja (jf (jF (v := str u_68) rfl))) ?_
      rintro _ _ ⟨rfl, rfl⟩
      refine jZ rfl rfl rfl (cB (cN (dF h_70))) (ja (jf (PO.indexS (i := 0) (c := u_68.getD 0 0) ky rfl rfl (getD_some (by omega))))) ?_
      rintro _ _ ⟨rfl, rfl⟩
      have hu_71 := UInt8.toNat_lt (u_68.getD 0 0)
      refine jZ rfl rfl rfl (cB (cN (dF h_70))) (ja (jf (jw rfl rfl))) ?_
      rintro _ _ ⟨rfl, rfl⟩
      refine jA (kG (v := .bool (decide (((u_68.getD 0 0).toNat : Int) = 45))) (cB (cN (dF h_70))) rfl) <| jD <| jB ?_
      by_cases h_72 : ((u_68.getD 0 0).toNat : Int) = 45
      · have hm_73 := messageOf_one h_70 h_72
        refine jO (cB (dT h_72)) <| jE <| jA (jF (v := str u_68) rfl) <| jA (PO.sliceSl (i := 1) ky rfl rfl (by omega)) ?_
        refine jH rfl (jM [] Tryz.call218 rfl (N_sUnhex (u_68.drop 1) (by first | omega | (simp only [LE]; omega))) rfl (fun _ _ => trivial)) ?_
        rintro _ _ ⟨_, ⟨u_76, b_78, e_74, f_77, rfl, rfl⟩, rfl⟩
        refine jA (jF (v := .tuple #[str u_76, .bool b_78]) rfl) <| jA (jb (v := str u_76) rfl rfl) <| jA (jb (v := .bool b_78) rfl rfl) <| jA (jG (v := str u_76) rfl) <| jD <| kH [0, 0, 0, 0, 0] (A := [rC x_66.a0 x_66.c0 m_67.s, rS x_66.a1 x_66.c1 m_67.r, rS x_66.a2 x_66.c2 m_67.w, bk b_2 99 zC, mb b_1 x_66 m_67]) rfl ?_
        exact kT ⟨rfl, rfl, rfl, rfl, rfl, rfl, (congrArg str (hm_73.trans (congrArg Prod.fst e_74)).symm), rfl⟩
      have hm_79 := messageOf_no h_72
      refine jP (cB (dF h_72)) <| jU <| kH [0, 0, 0, 0, 0] (A := [rC x_66.a0 x_66.c0 m_67.s, rS x_66.a1 x_66.c1 m_67.r, rS x_66.a2 x_66.c2 m_67.w, bk b_2 99 zC, mb b_1 x_66 m_67]) rfl ?_
      exact kT ⟨rfl, rfl, rfl, rfl, rfl, rfl, (congrArg str hm_79.symm), rfl⟩
    rintro e_80 _ ⟨he_81, he_82, he_83, he_84, he_85, he_86, he_87, rfl⟩
    have hml := messageOf_len u_68
    refine jB <| jC <| jr [mb b_1 x_66 m_67] 5 mixed (by simp) <| jh 0 rfl (jc 0 x_66 m_67 rfl he_82) <| jI 1 rfl (jF (v := iv id) he_81) <| jI 2 rfl (jF (v := iv n_27) he_86) <| jI 3 rfl (ji (c := n_27 + 1) rfl rfl (wr (by omega))) <| jQ (i := 4) ?_
    refine jY rfl rfl (jM [] Tryz.call217 rfl (N_l08Message id (n_27 + 1) (by omega) (by omega)) rfl (fun _ _ => trivial)) ?_
    rintro _ _ ⟨_, ⟨u_94, e_92, f_95, rfl, rfl⟩, rfl⟩
    have hqe_92 := e_54.symm.trans e_92
    subst hqe_92
    refine ⟨(by simp), ?_⟩
    refine jQ (i := 5) ?_
    refine kF rfl (jM [0, 0, 0] Tryz.call171 rfl (N_sLayNil x_66 m_67 k_65 (by omega) (by omega) u_56 (by omega)) rfl (fun _ _ => trivial)) ?_
    rintro _ _ ⟨_, ⟨x_102, m_103, e_100, k_101, rfl, rfl⟩, rfl⟩
    refine jQ (i := 6) ?_
    refine jx rfl (jm 4 x_102 m_103 rfl he_82 rfl rfl) ?_
    rintro _ _ rfl
    refine jB <| jC <| jr [mb b_1 x_102 m_103] 7 mixed (by simp) <| jh 0 rfl (jc 0 x_102 m_103 rfl he_82) <| jI 1 rfl (jF (v := iv id) he_81) <| jI 3 rfl (jF (v := iv n_27) he_86) <| jI 4 rfl (ji (c := n_27 + 1) rfl rfl (wr (by omega))) <| jI 6 rfl (jF (v := str (messageOf u_68)) he_87) <| jQ (i := 2) ?_
    refine jY rfl rfl (jM [] Tryz.call214 rfl (N_l08Key id [47, 104] (by omega) (show List.length ([47, 104] : Str) ≤ 2 by decide) (by omega)) rfl (fun _ _ => trivial)) ?_
    rintro _ _ ⟨_, ⟨u_122, e_120, f_123, rfl, rfl⟩, rfl⟩
    have hqe_120 := e_13.symm.trans e_120
    subst hqe_120
    refine ⟨(by simp), ?_⟩
    refine jQ (i := 5) ?_
    refine jY rfl rfl (jM [0, 0, 0] Tryz.call100 rfl (N_sSetNum x_102 m_103 k_101 (by omega) (by omega) u_15 (n_27 + 1) (by omega) (by omega)) rfl (fun _ _ => trivial)) ?_
    rintro _ _ ⟨_, ⟨x_130, m_131, e_128, k_129, rfl, rfl⟩, rfl⟩
    refine ⟨(by simp), ?_⟩
    refine jQ (i := 7) ?_
    refine kF rfl (jm 3 x_130 m_131 rfl he_83 rfl rfl) ?_
    rintro _ _ rfl
    refine jI 8 rfl (jG (v := str (messageOf u_68)) rfl) <| jI 9 rfl (jG (v := iv 0) rfl) <| kI (by kernel_rfl) <| jB <| jL <| ka (.inl rfl) rfl (je (jc 3 x_130 m_131 rfl he_83) ⟨_, he_83⟩) (jN (v := str (messageOf u_68)) rfl) (jN (v := iv 0) rfl) (tS 3 _) ?_
    exact ⟨x_130, m_131, (messageOf u_68), 0, (by simp only [MS.takePipe, MS.message, e_3, h_8, e_13, e_23, e_33, e_43, h_49, e_54, e_64, e_100, e_128, SB]; (repeat (first | rw [if_pos (by omega)] | rw [if_neg (by omega)])); all_goals (first | rfl | simp only [SB, e_3, h_8, e_13, e_23, e_33, e_43, h_49, e_54, e_64, e_100, e_128])), (k_129.mono (by omega) (by omega)), (by first | omega | (simp only [LE]; omega)), (by first | omega | (simp only [LE]; omega)), rfl, rfl⟩
  refine jO (cB (cN h_8)) <| jC <| jE <| jK (jc 4 x_5 m_6 rfl rfl) ?_
  refine jH rfl (jm 3 x_5 m_6 rfl rfl rfl rfl) ?_
  rintro _ _ rfl
  refine jA (jG (v := str []) rfl) <| jA (jG (v := iv 2) rfl) <| jD <| jB <| jL <| jW <| ka (.inl rfl) rfl (je (jc 3 x_5 m_6 rfl rfl) ⟨_, rfl⟩) (jN (v := str []) rfl) (jN (v := iv 2) rfl) (tS 3 _) ?_
  exact ⟨x_5, m_6, [], 2, (by simp only [MS.takePipe, MS.message, e_3, h_8, SB]; (repeat (first | rw [if_pos (by omega)] | rw [if_neg (by omega)])); all_goals (first | rfl | simp only [SB, e_3, h_8])), (k_4.mono (by omega) (by omega)), (by first | omega | (simp only [LE]; omega)), (by first | omega | (simp only [LE]; omega)), rfl, rfl⟩

theorem M_storePage (x : MA) (m : MS) {S T : Nat} (hk : m.ok S T) (hS : S ≤ 300000000) (hT : T ≤ 300000000) (id : Int) (page : Int) (text : Str) (hid : -9223372036854775808 ≤ id ∧ id ≤ 9223372036854775807) (hpage : -9223372036854775808 ≤ page ∧ page ≤ 9223372036854775807) (htext : text.length ≤ 1000000000000) :
    Ct Tryz.prog 164 [mv x m, .int .i64 id, .int .i64 page, str text] (mr x m) (fun _ => True) (fun v A' => ∃ x' m' r0, MS.storePage m id page text = (m', r0) ∧ m'.ok (S + 1) (T + 1) ∧ (0 ≤ r0 ∧ r0 ≤ 9) ∧ v = .tuple #[mv x' m', .int .i64 r0] ∧ A' = mr x' m') := by
  refine Ct.intro Tryz.func164 rfl Tryz.ntmps164 (lb rfl) fun w0 hpre => ?_
  refine jC <| jE ?_
  refine jH rfl (jy (cs := (mc x m)) rfl rfl) ?_
  rintro _ _ ⟨b_1, rfl, rfl⟩
  refine jH rfl (jn (z := zM) (cs := zC) gI rfl) ?_
  rintro _ _ ⟨b_2, rfl, rfl⟩
  refine jA (jG (v := iv 0) rfl) <| jD <| jB <| jC <| jC <| jE <| jA (jF (v := iv page) rfl) ?_
  refine jH rfl (jM [] Tryz.call40 rfl (C_l01In page 0 3) rfl (fun _ _ => trivial)) ?_
  rintro _ _ ⟨_, ⟨rfl, rfl⟩, rfl⟩
  refine jA (kP rfl) <| jA (jF (v := .bool (!(decide (0 ≤ page) && decide (page ≤ 3)))) rfl) ?_
  rcases Bool.eq_false_or_eq_true (decide (0 ≤ page) && decide (page ≤ 3)) with h_3 | h_3
  · have h_3d := h_3
    simp only [Bool.and_eq_true, Bool.and_eq_false_iff, decide_eq_true_eq, decide_eq_false_iff_not] at h_3d
    refine jZ rfl rfl rfl (cB (cN h_3)) (ja (jf (jF (v := str text) rfl))) ?_
    rintro _ _ ⟨rfl, rfl⟩
    refine jZ rfl rfl rfl (cB (cN h_3)) (ja (jf (kV ky rfl))) ?_
    rintro _ _ ⟨rfl, rfl⟩
    refine jZ rfl rfl rfl (cB (cN h_3)) (ja (jf (ke rfl rfl))) ?_
    rintro _ _ ⟨rfl, rfl⟩
    refine jA (jv (v := .bool (decide (20 < (text.length : Int)))) (cB (cN h_3)) rfl) <| jD <| jB ?_
    by_cases h_4 : 20 < (text.length : Int)
    · refine jO (cB (dT h_4)) <| jC <| jE <| jK (jc 1 x m rfl rfl) ?_
      refine jH rfl (jm 0 x m rfl rfl rfl rfl) ?_
      rintro _ _ rfl
      refine jA (jG (v := iv 4) rfl) <| jD <| jB <| jL <| jW <| kR (pick_perm [2, 2, 2] (A := [rC x.a0 x.c0 m.s, rS x.a1 x.c1 m.r, rS x.a2 x.c2 m.w]) (F := [mb b_2 x m, mb b_1 x m]) rfl).symm <| kB (.inl rfl) rfl (je (jc 3 x m rfl rfl) ⟨_, rfl⟩) (jN (v := iv 4) rfl) (tS 3 _) ?_
      exact ⟨x, m, 4, (by simp only [MS.storePage, hexS_P, h_3, h_4, SB]; (repeat (first | rw [if_pos (by omega)] | rw [if_neg (by omega)])); all_goals (first | rfl | simp only [SB, h_3, h_4])), (hk.mono (by omega) (by omega)), (by first | omega | (simp only [LE]; omega)), rfl, rfl⟩
    refine jP (cB (dF h_4)) <| jU <| jB <| jC <| jC <| jE <| jA (jF (v := str text) rfl) <| jA (PO.eqlS rfl rfl) <| jD <| jB ?_
    by_cases h_5 : text = []
    · have h_5l : text.length = 0 := by rw [h_5]; rfl
      refine jO (cB (dT h_5)) <| jC <| jr [mb b_1 x m] 6 mixed (by simp) <| jh 0 rfl (jc 0 x m rfl rfl) <| jI 1 rfl (jF (v := iv id) rfl) <| jI 3 rfl (jF (v := iv page) rfl) <| jQ (i := 2) ?_
      refine jY rfl rfl (jM [] Tryz.call222 rfl (N_l11Head id (by omega)) rfl (fun _ _ => trivial)) ?_
      rintro _ _ ⟨_, ⟨u_16, e_14, f_17, rfl, rfl⟩, rfl⟩
      refine ⟨(by simp), ?_⟩
      refine jQ (i := 4) ?_
      refine jY rfl rfl (jM [] Tryz.call173 rfl (N_sKeyNum u_16 page [] (Nat.le_refl _) (by omega) (show List.length ([] : Str) ≤ 0 by decide) (by omega)) rfl (fun _ _ => trivial)) ?_
      rintro _ _ ⟨_, ⟨u_24, e_22, f_25, rfl, rfl⟩, rfl⟩
      refine ⟨(by simp), ?_⟩
      refine jQ (i := 5) ?_
      refine jY rfl rfl (jM [2, 2, 2] Tryz.call171 rfl (N_sLayNil x m hk (by omega) (by omega) u_24 (by omega)) rfl (fun _ _ => trivial)) ?_
      rintro _ _ ⟨_, ⟨x_32, m_33, e_30, k_31, rfl, rfl⟩, rfl⟩
      refine ⟨(by simp), ?_⟩
      refine jQ (i := 6) ?_
      refine kF rfl (jm 3 x_32 m_33 rfl rfl rfl rfl) ?_
      rintro _ _ rfl
      refine jI 7 rfl (jG (v := iv 0) rfl) <| kI (by kernel_rfl) <| jB <| jL <| jW <| kB (.inl rfl) rfl (je (jc 3 x_32 m_33 rfl rfl) ⟨_, rfl⟩) (jN (v := iv 0) rfl) (tS 3 _) ?_
      exact ⟨x_32, m_33, 0, (by simp only [MS.storePage, hexS_P, h_3, h_4, h_5, e_14, e_22, e_30, SB]; (repeat (first | rw [if_pos (by omega)] | rw [if_neg (by omega)])); all_goals (first | rfl | simp only [SB, h_3, h_4, h_5, e_14, e_22, e_30])), (k_31.mono (by omega) (by omega)), (by first | omega | (simp only [LE]; omega)), rfl, rfl⟩
    have h_5l := List.length_pos_iff.2 h_5
    refine jP (cB (dF h_5)) <| jU <| jB <| jC <| jE <| jA (jF (v := str text) rfl) ?_
    refine jH rfl (jM [] Tryz.call216 rfl (N_sHex text (by omega)) rfl (fun _ _ => trivial)) ?_
    rintro _ _ ⟨_, ⟨u_36, b_38, e_34, f_37, rfl, rfl⟩, rfl⟩
    refine jA (jF (v := .tuple #[str u_36, .bool b_38]) rfl) <| jA (jb (v := str u_36) rfl rfl) <| jA (jb (v := .bool b_38) rfl rfl) <| jA (jG (v := str u_36) rfl) <| jA (jG (v := .bool b_38) rfl) <| jD <| jB <| jC <| jr [mb b_1 x m] 8 mixed (by simp) <| jh 0 rfl (jc 0 x m rfl rfl) ?_
    refine jI 1 rfl (jF (v := iv id) rfl) <| jI 3 rfl (jF (v := iv page) rfl) <| jI 5 rfl (jF (v := str u_36) rfl) <| jI 6 rfl (ki rfl rfl (by (try simp only [List.length_append, List.length_cons, List.length_nil, List.length_drop, List.length_take]); omega)) <| jQ (i := 2) ?_
    refine jY rfl rfl (jM [] Tryz.call222 rfl (N_l11Head id (by omega)) rfl (fun _ _ => trivial)) ?_
    rintro _ _ ⟨_, ⟨u_57, e_55, f_58, rfl, rfl⟩, rfl⟩
    refine ⟨(by simp), ?_⟩
    refine jQ (i := 4) ?_
    refine jY rfl rfl (jM [] Tryz.call173 rfl (N_sKeyNum u_57 page [] (Nat.le_refl _) (by omega) (show List.length ([] : Str) ≤ 0 by decide) (by omega)) rfl (fun _ _ => trivial)) ?_
    rintro _ _ ⟨_, ⟨u_65, e_63, f_66, rfl, rfl⟩, rfl⟩
    refine ⟨(by simp), ?_⟩
    refine jQ (i := 7) ?_
    refine jY rfl rfl (jM [2, 2, 2] Tryz.call171 rfl (N_sLay x m hk (by omega) (by omega) u_65 ([45] ++ u_36) (by omega)) rfl (fun _ _ => trivial)) ?_
    rintro _ _ ⟨_, ⟨x_73, m_74, e_71, k_72, rfl, rfl⟩, rfl⟩
    refine ⟨(by simp), ?_⟩
    refine jQ (i := 8) ?_
    refine kF rfl (jm 3 x_73 m_74 rfl rfl rfl rfl) ?_
    rintro _ _ rfl
    refine jI 9 rfl (jG (v := iv 0) rfl) <| kI (by kernel_rfl) <| jB <| jL <| kB (.inl rfl) rfl (je (jc 3 x_73 m_74 rfl rfl) ⟨_, rfl⟩) (jN (v := iv 0) rfl) (tS 3 _) ?_
    exact ⟨x_73, m_74, 0, (by simp only [MS.storePage, hexS_P, h_3, h_4, h_5, e_34, e_55, e_63, e_71, SB]; (repeat (first | rw [if_pos (by omega)] | rw [if_neg (by omega)])); all_goals (first | rfl | simp only [SB, h_3, h_4, h_5, e_34, e_55, e_63, e_71])), (k_72.mono (by omega) (by omega)), (by first | omega | (simp only [LE]; omega)), rfl, rfl⟩
  have h_3d := h_3
  simp only [Bool.and_eq_true, Bool.and_eq_false_iff, decide_eq_true_eq, decide_eq_false_iff_not] at h_3d
  refine jS (b := true) rfl rfl rfl (cB (cN h_3)) <| jS (b := true) rfl rfl rfl (cB (cN h_3)) <| jS (b := true) rfl rfl rfl (cB (cN h_3)) <| jA (kG (v := .bool true) (cB (cN h_3)) rfl) <| jD <| jB <| jO (cB rfl) <| jC <| jE <| jK (jc 1 x m rfl rfl) ?_
  refine jH rfl (jm 0 x m rfl rfl rfl rfl) ?_
  rintro _ _ rfl
  refine jA (jG (v := iv 4) rfl) <| jD <| jB <| jL <| jW <| kR (pick_perm [2, 2, 2] (A := [rC x.a0 x.c0 m.s, rS x.a1 x.c1 m.r, rS x.a2 x.c2 m.w]) (F := [mb b_2 x m, mb b_1 x m]) rfl).symm <| kB (.inl rfl) rfl (je (jc 3 x m rfl rfl) ⟨_, rfl⟩) (jN (v := iv 4) rfl) (tS 3 _) ?_
  exact ⟨x, m, 4, (by simp only [MS.storePage, hexS_P, h_3, SB]; (repeat (first | rw [if_pos (by omega)] | rw [if_neg (by omega)])); all_goals (first | rfl | simp only [SB, h_3])), (hk.mono (by omega) (by omega)), (by first | omega | (simp only [LE]; omega)), rfl, rfl⟩

theorem M_loadPage (x : MA) (m : MS) {S T : Nat} (hk : m.ok S T) (hS : S ≤ 300000000) (hT : T ≤ 300000000) (id : Int) (page : Int) (hid : -9223372036854775808 ≤ id ∧ id ≤ 9223372036854775807) (hpage : -9223372036854775808 ≤ page ∧ page ≤ 9223372036854775807) :
    Ct Tryz.prog 165 [mv x m, .int .i64 id, .int .i64 page] (mr x m) (fun _ => True) (fun v A' => ∃ x' m' r0 r1, MS.loadPage m id page = (m', r0, r1) ∧ m'.ok (S) (T + 1) ∧ r0.length ≤ 20000 ∧ (0 ≤ r1 ∧ r1 ≤ 9) ∧ v = .tuple #[mv x' m', str r0, .int .i64 r1] ∧ A' = mr x' m') := by
  refine Ct.intro Tryz.func165 rfl Tryz.ntmps165 (lb rfl) fun w0 hpre => ?_
  refine jC <| jE ?_
  refine jH rfl (jy (cs := (mc x m)) rfl rfl) ?_
  rintro _ _ ⟨b_1, rfl, rfl⟩
  refine jH rfl (jn (z := zM) (cs := zC) gI rfl) ?_
  rintro _ _ ⟨b_2, rfl, rfl⟩
  refine jA (jG (v := str []) rfl) <| jA (jG (v := iv 0) rfl) <| jD <| jB <| jC <| jC <| jE <| jA (jF (v := iv page) rfl) ?_
  refine jH rfl (jM [] Tryz.call40 rfl (C_l01In page 0 3) rfl (fun _ _ => trivial)) ?_
  rintro _ _ ⟨_, ⟨rfl, rfl⟩, rfl⟩
  refine jA (kP rfl) <| jD <| jB ?_
  rcases Bool.eq_false_or_eq_true (decide (0 ≤ page) && decide (page ≤ 3)) with h_3 | h_3
  · have h_3d := h_3
    simp only [Bool.and_eq_true, Bool.and_eq_false_iff, decide_eq_true_eq, decide_eq_false_iff_not] at h_3d
    refine jP (cB (cN h_3)) <| jU <| jB <| jC <| jr [mb b_1 x m] 9 mixed (by simp) <| jh 0 rfl (jc 0 x m rfl rfl) <| jI 1 rfl (jF (v := iv id) rfl) <| jI 3 rfl (jF (v := iv page) rfl) <| jQ (i := 2) ?_
    refine jY rfl rfl (jM [] Tryz.call222 rfl (N_l11Head id (by omega)) rfl (fun _ _ => trivial)) ?_
    rintro _ _ ⟨_, ⟨u_14, e_12, f_15, rfl, rfl⟩, rfl⟩
    refine ⟨(by simp), ?_⟩
    refine jQ (i := 4) ?_
    refine jY rfl rfl (jM [] Tryz.call173 rfl (N_sKeyNum u_14 page [] (Nat.le_refl _) (by omega) (show List.length ([] : Str) ≤ 0 by decide) (by omega)) rfl (fun _ _ => trivial)) ?_
    rintro _ _ ⟨_, ⟨u_22, e_20, f_23, rfl, rfl⟩, rfl⟩
    refine ⟨(by simp), ?_⟩
    refine jQ (i := 5) ?_
    refine jY rfl rfl (jM [2, 2, 2] Tryz.call169 rfl (N_sLook x m hk (by omega) (by omega) u_22) rfl (fun _ _ => trivial)) ?_
    rintro _ _ ⟨_, ⟨x_32, m_33, u_34, e_30, k_31, f_35, rfl, rfl⟩, rfl⟩
    refine ⟨(by simp), ?_⟩
    refine jI 6 rfl (jF (v := .tuple #[mv x_32 m_33, str u_34]) rfl) <| jI 7 rfl (jb (v := mv x_32 m_33) rfl rfl) <| jI 8 rfl (jb (v := str u_34) rfl rfl) <| jQ (i := 9) ?_
    refine kF rfl (jm 4 x_32 m_33 rfl rfl rfl rfl) ?_
    rintro _ _ rfl
    refine jI 10 rfl (jG (v := str u_34) rfl) <| kI (by kernel_rfl) <| jB <| jC <| jE <| jA (jG (v := str []) rfl) <| jD <| jB <| jC ?_
    refine JC.cut (fun e_ L_ => e_ 3 = .pointer (some ⟨b_1, 0, none⟩) ∧ e_ 6 = .pointer (some ⟨b_2, 0, none⟩) ∧ e_ 7 = str [] ∧ e_ 8 = iv 0 ∧ e_ 10 = str (messageOf u_34) ∧ L_ = [rC x_32.a0 x_32.c0 m_33.s, rS x_32.a1 x_32.c1 m_33.r, rS x_32.a2 x_32.c2 m_33.w, bk b_2 99 zC, mb b_1 x_32 m_33]) ?_ ?_
    · refine jC <| jE <| jA (jF (v := str u_34) rfl) <| jA (kj rfl rfl) <| jA (jF (v := .bool (!(decide (u_34 = [])))) rfl) ?_
      by_cases h_36 : u_34 = []
      · have hm := messageOf_nil h_36
        refine jS (b := false) rfl rfl rfl (cB (cN (dT h_36))) <| jS (b := false) rfl rfl rfl (cB (cN (dT h_36))) <| jS (b := false) rfl rfl rfl (cB (cN (dT h_36))) <| jA (jv (v := .bool false) (cB (cN (dT h_36))) rfl) <| jD <| jB <| jP (cB rfl) <| jU <| kH [0, 0, 0, 0, 0] (A := [rC x_32.a0 x_32.c0 m_33.s, rS x_32.a1 x_32.c1 m_33.r, rS x_32.a2 x_32.c2 m_33.w, bk b_2 99 zC, mb b_1 x_32 m_33]) rfl ?_
        exact kT ⟨rfl, rfl, rfl, rfl, (congrArg str hm.symm), rfl⟩
      have h_36l := List.length_pos_iff.2 h_36
      refine jZ rfl rfl rfl (cB (cN (dF h_36))) (ja (jf (jF (v := str u_34) rfl))) ?_
      rintro _ _ ⟨rfl, rfl⟩
      refine jZ rfl rfl rfl (cB (cN (dF h_36))) (ja (jf (PO.indexS (i := 0) (c := u_34.getD 0 0) ky rfl rfl (getD_some (by omega))))) ?_
      rintro _ _ ⟨rfl, rfl⟩
      have hu_37 := UInt8.toNat_lt (u_34.getD 0 0)
      refine jZ rfl rfl rfl (cB (cN (dF h_36))) (ja (jf (jw rfl rfl))) ?_
      rintro _ _ ⟨rfl, rfl⟩
      refine jA (kG (v := .bool (decide (((u_34.getD 0 0).toNat : Int) = 45))) (cB (cN (dF h_36))) rfl) <| jD <| jB ?_
      by_cases h_38 : ((u_34.getD 0 0).toNat : Int) = 45
      · have hm_39 := messageOf_one h_36 h_38
        refine jO (cB (dT h_38)) <| jE <| jA (jF (v := str u_34) rfl) <| jA (PO.sliceSl (i := 1) ky rfl rfl (by omega)) ?_
        refine jH rfl (jM [] Tryz.call218 rfl (N_sUnhex (u_34.drop 1) (by first | omega | (simp only [LE]; omega))) rfl (fun _ _ => trivial)) ?_
        rintro _ _ ⟨_, ⟨u_42, b_44, e_40, f_43, rfl, rfl⟩, rfl⟩
        refine jA (jF (v := .tuple #[str u_42, .bool b_44]) rfl) <| jA (jb (v := str u_42) rfl rfl) <| jA (jb (v := .bool b_44) rfl rfl) <| jA (jG (v := str u_42) rfl) <| jD <| kH [0, 0, 0, 0, 0] (A := [rC x_32.a0 x_32.c0 m_33.s, rS x_32.a1 x_32.c1 m_33.r, rS x_32.a2 x_32.c2 m_33.w, bk b_2 99 zC, mb b_1 x_32 m_33]) rfl ?_
        exact kT ⟨rfl, rfl, rfl, rfl, (congrArg str (hm_39.trans (congrArg Prod.fst e_40)).symm), rfl⟩
      have hm_45 := messageOf_no h_38
      refine jP (cB (dF h_38)) <| jU <| kH [0, 0, 0, 0, 0] (A := [rC x_32.a0 x_32.c0 m_33.s, rS x_32.a1 x_32.c1 m_33.r, rS x_32.a2 x_32.c2 m_33.w, bk b_2 99 zC, mb b_1 x_32 m_33]) rfl ?_
      exact kT ⟨rfl, rfl, rfl, rfl, (congrArg str hm_45.symm), rfl⟩
    rintro e_46 _ ⟨he_47, he_48, he_49, he_50, he_51, rfl⟩
    have hml := messageOf_len u_34
    refine jB <| jC <| jE <| jK (jc 4 x_32 m_33 rfl he_47) <| jA (jF (v := str (messageOf u_34)) he_51) ?_
    refine jH rfl (jm 3 x_32 m_33 rfl he_48 rfl rfl) ?_
    rintro _ _ rfl
    refine jA (jG (v := str (messageOf u_34)) rfl) <| jA (jG (v := iv 0) rfl) <| jD <| jB <| jL <| ka (.inl rfl) rfl (je (jc 3 x_32 m_33 rfl he_48) ⟨_, he_48⟩) (jN (v := str (messageOf u_34)) rfl) (jN (v := iv 0) rfl) (tS 3 _) ?_
    exact ⟨x_32, m_33, (messageOf u_34), 0, (by simp only [MS.loadPage, MS.message, h_3, e_12, e_20, e_30, SB]; (repeat (first | rw [if_pos (by omega)] | rw [if_neg (by omega)])); all_goals (first | rfl | simp only [SB, h_3, e_12, e_20, e_30])), (k_31.mono (by omega) (by omega)), (by first | omega | (simp only [LE]; omega)), (by first | omega | (simp only [LE]; omega)), rfl, rfl⟩
  have h_3d := h_3
  simp only [Bool.and_eq_true, Bool.and_eq_false_iff, decide_eq_true_eq, decide_eq_false_iff_not] at h_3d
  refine jO (cB (cN h_3)) <| jC <| jE <| jK (jc 1 x m rfl rfl) ?_
  refine jH rfl (jm 0 x m rfl rfl rfl rfl) ?_
  rintro _ _ rfl
  refine jA (jG (v := str []) rfl) <| jA (jG (v := iv 4) rfl) <| jD <| jB <| jL <| jW <| kR (pick_perm [2, 2, 2] (A := [rC x.a0 x.c0 m.s, rS x.a1 x.c1 m.r, rS x.a2 x.c2 m.w]) (F := [mb b_2 x m, mb b_1 x m]) rfl).symm <| ka (.inl rfl) rfl (je (jc 3 x m rfl rfl) ⟨_, rfl⟩) (jN (v := str []) rfl) (jN (v := iv 4) rfl) (tS 3 _) ?_
  exact ⟨x, m, [], 4, (by simp only [MS.loadPage, MS.message, h_3, SB]; (repeat (first | rw [if_pos (by omega)] | rw [if_neg (by omega)])); all_goals (first | rfl | simp only [SB, h_3])), (hk.mono (by omega) (by omega)), (by first | omega | (simp only [LE]; omega)), (by first | omega | (simp only [LE]; omega)), rfl, rfl⟩

end Go.Proofs.YtghfijncihbojaaGreat

set_option linter.unusedSimpArgs false
set_option linter.unusedVariables false
set_option linter.unnecessarySimpa false
namespace Go.Proofs.YtghfijncihbojaaGreat
open Go Go.RowKit

/-- What stands between two places. -/
def piece (b : Str) (lo hi : Nat) : Str := (b.drop lo).take (hi - lo)
theorem piece_nil {b : Str} {lo hi : Nat} (h : hi ≤ lo) : piece b lo hi = [] := by
  unfold piece
  rw [show hi - lo = 0 by omega]
  simp
theorem piece_yes {b : Str} {lo i e : Nat} (h1 : lo ≤ i) (h2 : i < e) (h3 : i < b.length) : piece b lo (min e (i + 1)) = piece b lo (min e i) ++ [b.getD i 0] := by
  unfold piece
  rw [show min e (i + 1) - lo = (i - lo) + 1 by omega, show min e i - lo = i - lo by omega]
  have : (b.drop lo)[i - lo]? = some (b.getD i 0) := by
    rw [List.getElem?_drop, show lo + (i - lo) = i by omega]
    exact getD_some h3
  rw [List.take_add_one, this]
  rfl
theorem piece_no {b : Str} {lo i e : Nat} (h : i < lo ∨ e ≤ i) : piece b lo (min e (i + 1)) = piece b lo (min e i) := by
  rcases h with h | h
  · rw [piece_nil (by omega), piece_nil (by omega)]
  · rw [show min e (i + 1) = min e i by omega]
/-- A byte put at a place, with noughts between. -/
def setPad (b : Str) (i : Nat) (c : UInt8) : Str := (b ++ List.replicate (i + 1 - b.length) 0).set i c
theorem pad_step {c : Str} {n : Nat} (h : c.length < n + 1) : (c ++ [0]) ++ List.replicate (n + 1 - (c.length + 1)) (0 : UInt8) = c ++ List.replicate (n + 1 - c.length) 0 := by
  rw [show n + 1 - c.length = (n + 1 - (c.length + 1)) + 1 by omega, List.replicate_succ]
  simp
def overTo (text : Str) (a f : Nat) (b : Str) : Nat → Str
  | 0 => b
  | k + 1 => setPad (overTo text a f b k) (a - f + k) (text.getD (f + (a - f + k) - a) 0)
theorem overTo_step {text b c d : Str} {a f j : Nat} (h : max a f ≤ j) (hc : c = overTo text a f b (j - max a f)) (hd : d = c ++ List.replicate (j - f + 1 - c.length) 0) :
    d.set (j - f) (text.getD (j - a) 0) = overTo text a f b (j + 1 - max a f) := by
  rw [show j + 1 - max a f = (j - max a f) + 1 by omega, overTo, ← hc, show a - f + (j - max a f) = j - f by omega, show f + (j - f) - a = j - a by omega, setPad, ← hd]
namespace MS
def blockKey (id : Int) (p : Nat) : Str := keyNum (keyNum ([105, 47] : Str) id ([47, 98, 47] : Str)) (p : Int) []
def readL (id : Int) (a e : Nat) : Nat → Nat → MS → Str → MS × Str
  | 0, _, m, out => (m, out)
  | k + 1, p, m, out => if p * 8 < e then
      match m.block id (p : Int) with
      | (m, b) => readL id a e k (p + 1) m (out ++ piece b (a - p * 8) (min (min (e - p * 8) 8) b.length))
    else (m, out)
theorem readL_stop {id : Int} {a e k p : Nat} {m : MS} {out : Str} (h : ¬ p * 8 < e) : readL id a e k p m out = (m, out) := by
  cases k with
  | zero => rfl
  | succ k => rw [readL, if_neg h]
def readFile (m : MS) (id at_ n : Int) : MS × Str :=
  match m.sizeOf id with
  | (m, size) => if at_ < 0 ∨ n < 1 ∨ size ≤ at_ then (m, []) else
    readL id at_.toNat (at_ + min n (size - at_)).toNat (130 - at_.toNat / 8) (at_.toNat / 8) m []
def writeL (id : Int) (text : Str) (a e : Nat) : Nat → Nat → MS → MS
  | 0, _, m => m
  | k + 1, p, m => if p * 8 < e then
      match m.block id (p : Int) with
      | (m, b) => writeL id text a e k (p + 1) (m.lay (blockKey id p) (hexS (overTo text a (p * 8) b (min e (p * 8 + 8) - max a (p * 8)))))
    else m
theorem writeL_stop {id : Int} {text : Str} {a e k p : Nat} {m : MS} (h : ¬ p * 8 < e) : writeL id text a e k p m = m := by
  cases k with
  | zero => rfl
  | succ k => rw [writeL, if_neg h]
def writeFile (m : MS) (id at_ : Int) (text : Str) : MS × Int :=
  match m.sizeOf id with
  | (m, size) => if at_ < 0 ∨ size < at_ ∨ (text.length : Int) = 0 then (m, 4) else
    if 64 < at_ + (text.length : Int) then (m, 3) else
    if size < at_ + (text.length : Int) then ((writeL id text at_.toNat (at_.toNat + text.length) (130 - at_.toNat / 8) (at_.toNat / 8) m).setNum (keyNum ([105, 47] : Str) id ([47, 115] : Str)) ((at_.toNat + text.length : Nat) : Int), 0)
    else (writeL id text at_.toNat (at_.toNat + text.length) (130 - at_.toNat / 8) (at_.toNat / 8) m, 0)
def cutL (id : Int) (z : Nat) : Nat → Nat → MS → MS
  | 0, _, m => m
  | k + 1, p, m => if p * 8 < z then cutL id z k (p + 1) (m.lay (blockKey id p) []) else m
theorem cutL_stop {id : Int} {z k p : Nat} {m : MS} (h : ¬ p * 8 < z) : cutL id z k p m = m := by
  cases k with
  | zero => rfl
  | succ k => rw [cutL, if_neg h]
def cutFile (m : MS) (id n : Int) : MS × Int :=
  match m.sizeOf id with
  | (m, size) => if n < 0 ∨ size < n then (m, 4) else
    if 0 < n.toNat % 8 then
      match m.block id ((n.toNat / 8 : Nat) : Int) with
      | (m, b) => ((cutL id size.toNat (130 - (n.toNat / 8 + 1)) (n.toNat / 8 + 1) (m.lay (blockKey id (n.toNat / 8)) (hexS (b.take (min (n.toNat % 8) b.length))))).setNum (keyNum ([105, 47] : Str) id ([47, 115] : Str)) n, 0)
    else ((cutL id size.toNat (130 - n.toNat / 8) (n.toNat / 8) m).setNum (keyNum ([105, 47] : Str) id ([47, 115] : Str)) n, 0)
end MS
end Go.Proofs.YtghfijncihbojaaGreat

set_option linter.unusedSimpArgs false
set_option linter.unusedVariables false
set_option linter.unnecessarySimpa false
namespace Go.Proofs.YtghfijncihbojaaGreat
open Go Go.RowKit
attribute [local irreducible] JL JC JQ JO LO PO JA JX Ct

theorem M_sizeFile (x : MA) (m : MS) {S T : Nat} (hk : m.ok S T) (hS : S ≤ 700000000) (hT : T ≤ 700000000) (id : Int) (hid : -9223372036854775808 ≤ id ∧ id ≤ 9223372036854775807) :
    Ct Tryz.prog 248 [mv x m, .int .i64 id] (mr x m) (fun _ => True) (fun v A' => ∃ x' m' r0, MS.sizeOf m id = (m', r0) ∧ m'.ok (S) (T + 1) ∧ (0 ≤ r0 ∧ r0 ≤ 999) ∧ v = .tuple #[mv x' m', .int .i64 r0] ∧ A' = mr x' m') := by
  refine Ct.intro Tryz.func248 rfl Tryz.ntmps248 (lb rfl) fun w0 hpre => ?_
  refine jC <| jE ?_
  refine jH rfl (jy (cs := (mc x m)) rfl rfl) ?_
  rintro _ _ ⟨b_1, rfl, rfl⟩
  refine jH rfl (jn (z := zM) (cs := zC) gI rfl) ?_
  rintro _ _ ⟨b_2, rfl, rfl⟩
  refine jA (jG (v := iv 0) rfl) <| jD <| jB <| jC <| jr [mb b_1 x m] 6 mixed (by simp) <| jh 0 rfl (jc 0 x m rfl rfl) <| jI 1 rfl (jF (v := iv id) rfl) <| jQ (i := 2) ?_
  refine jY rfl rfl (jM [] Tryz.call173 rfl (N_sKeyNum [105, 47] id [47, 115] (show List.length ([105, 47] : Str) ≤ 2 by decide) (by omega) (show List.length ([47, 115] : Str) ≤ 2 by decide) (by omega)) rfl (fun _ _ => trivial)) ?_
  rintro _ _ ⟨_, ⟨u_9, e_7, f_10, rfl, rfl⟩, rfl⟩
  refine ⟨(by simp), ?_⟩
  refine jQ (i := 3) ?_
  refine jY rfl rfl (jM [2, 2, 2] Tryz.call98 rfl (N_sNumAt x m hk (by omega) (by omega) u_9) rfl (fun _ _ => trivial)) ?_
  rintro _ _ ⟨_, ⟨x_19, m_20, n_21, e_17, k_18, f_22, rfl, rfl⟩, rfl⟩
  refine ⟨(by simp), ?_⟩
  refine jI 4 rfl (jb (v := mv x_19 m_20) rfl rfl) <| jI 5 rfl (jb (v := iv n_21) rfl rfl) <| jQ (i := 6) ?_
  refine kF rfl (jm 3 x_19 m_20 rfl rfl rfl rfl) ?_
  rintro _ _ rfl
  refine jI 7 rfl (jG (v := iv n_21) rfl) <| kI (by kernel_rfl) <| jB <| jL <| kB (.inl rfl) rfl (je (jc 3 x_19 m_20 rfl rfl) ⟨_, rfl⟩) (jN (v := iv n_21) rfl) (tS 3 _) ?_
  exact ⟨x_19, m_20, n_21, (by simp only [MS.sizeOf, e_7, e_17, SB]; (repeat (first | rw [if_pos (by omega)] | rw [if_neg (by omega)])); all_goals (first | rfl | simp only [SB, e_7, e_17])), (k_18.mono (by omega) (by omega)), (by first | omega | (simp only [LE]; omega)), rfl, rfl⟩

theorem M_block (x : MA) (m : MS) {S T : Nat} (hk : m.ok S T) (hS : S ≤ 700000000) (hT : T ≤ 700000000) (id : Int) (place : Int) (hid : -9223372036854775808 ≤ id ∧ id ≤ 9223372036854775807) (hplace : -9223372036854775808 ≤ place ∧ place ≤ 9223372036854775807) :
    Ct Tryz.prog 249 [mv x m, .int .i64 id, .int .i64 place] (mr x m) (fun _ => True) (fun v A' => ∃ x' m' r0, MS.block m id place = (m', r0) ∧ m'.ok (S) (T + 1) ∧ r0.length ≤ 20000 ∧ v = .tuple #[mv x' m', str r0] ∧ A' = mr x' m') := by
  refine Ct.intro Tryz.func249 rfl Tryz.ntmps249 (lb rfl) fun w0 hpre => ?_
  refine jC <| jE ?_
  refine jH rfl (jy (cs := (mc x m)) rfl rfl) ?_
  rintro _ _ ⟨b_1, rfl, rfl⟩
  refine jH rfl (jn (z := zM) (cs := zC) gI rfl) ?_
  rintro _ _ ⟨b_2, rfl, rfl⟩
  refine jA (jG (v := str []) rfl) <| jD <| jB <| jC <| jr [mb b_1 x m] 8 mixed (by simp) <| jh 0 rfl (jc 0 x m rfl rfl) <| jI 1 rfl (jF (v := iv id) rfl) <| jI 2 rfl (jF (v := iv place) rfl) <| jQ (i := 3) ?_
  refine jY rfl rfl (jM [] Tryz.call251 rfl (N_l07Block id place (by omega) (by omega)) rfl (fun _ _ => trivial)) ?_
  rintro _ _ ⟨_, ⟨u_9, e_7, f_10, rfl, rfl⟩, rfl⟩
  refine ⟨(by simp), ?_⟩
  refine jQ (i := 4) ?_
  refine jY rfl rfl (jM [2, 2, 2] Tryz.call169 rfl (N_sLook x m hk (by omega) (by omega) u_9) rfl (fun _ _ => trivial)) ?_
  rintro _ _ ⟨_, ⟨x_19, m_20, u_21, e_17, k_18, f_22, rfl, rfl⟩, rfl⟩
  refine ⟨(by simp), ?_⟩
  refine jI 5 rfl (jF (v := .tuple #[mv x_19 m_20, str u_21]) rfl) <| jI 6 rfl (jb (v := mv x_19 m_20) rfl rfl) <| jI 7 rfl (jb (v := str u_21) rfl rfl) <| jQ (i := 8) ?_
  refine kF rfl (jm 4 x_19 m_20 rfl rfl rfl rfl) ?_
  rintro _ _ rfl
  refine jI 9 rfl (jG (v := str u_21) rfl) <| kI (by kernel_rfl) <| jB <| jC <| jE <| jA (jF (v := str u_21) rfl) ?_
  refine jH rfl (jM [] Tryz.call218 rfl (N_sUnhex u_21 (by omega)) rfl (fun _ _ => trivial)) ?_
  rintro _ _ ⟨_, ⟨u_25, b_27, e_23, f_26, rfl, rfl⟩, rfl⟩
  refine jA (jF (v := .tuple #[str u_25, .bool b_27]) rfl) <| jA (jb (v := str u_25) rfl rfl) <| jA (jb (v := .bool b_27) rfl rfl) <| jA (jG (v := str u_25) rfl) <| jA (jG (v := .bool b_27) rfl) <| jD <| jB <| jC <| jC <| jE ?_
  refine jA (jF (v := .bool b_27) rfl) <| jA (kP rfl) <| jD <| jB ?_
  rcases Bool.eq_false_or_eq_true (b_27) with h_28 | h_28
  · refine jP (cB (cN h_28)) <| jU <| jB <| jC <| jE <| jK (jc 4 x_19 m_20 rfl rfl) <| jA (jF (v := str u_25) rfl) ?_
    refine jH rfl (jm 3 x_19 m_20 rfl rfl rfl rfl) ?_
    rintro _ _ rfl
    refine jA (jG (v := str u_25) rfl) <| jD <| jB <| jL <| kB (.inl rfl) rfl (je (jc 3 x_19 m_20 rfl rfl) ⟨_, rfl⟩) (jN (v := str u_25) rfl) (tS 3 _) ?_
    exact ⟨x_19, m_20, u_25, (by simp only [MS.block, e_7, e_17, e_23, h_28, SB]; (repeat (first | rw [if_pos (by omega)] | rw [if_neg (by omega)])); all_goals (first | rfl | simp only [SB, e_7, e_17, e_23, h_28])), (k_18.mono (by omega) (by omega)), (by first | omega | (simp only [LE]; omega)), rfl, rfl⟩
  have hu := unhex_fst (e_23.trans (congrArg _ h_28))
  refine jO (cB (cN h_28)) <| jC <| jE <| jK (jc 4 x_19 m_20 rfl rfl) ?_
  refine jH rfl (jm 3 x_19 m_20 rfl rfl rfl rfl) ?_
  rintro _ _ rfl
  refine jA (jG (v := str []) rfl) <| jD <| jB <| jL <| jW <| kB (.inl rfl) rfl (je (jc 3 x_19 m_20 rfl rfl) ⟨_, rfl⟩) (jN (v := str []) rfl) (tS 3 _) ?_
  exact ⟨x_19, m_20, [], (by simp only [MS.block, e_7, e_17, e_23, h_28, hu, SB]; (repeat (first | rw [if_pos (by omega)] | rw [if_neg (by omega)])); all_goals (first | rfl | simp only [SB, e_7, e_17, e_23, h_28, hu])), (k_18.mono (by omega) (by omega)), (by first | omega | (simp only [LE]; omega)), rfl, rfl⟩

theorem M_layBlock (x : MA) (m : MS) {S T : Nat} (hk : m.ok S T) (hS : S ≤ 700000000) (hT : T ≤ 700000000) (id : Int) (place : Int) (t : Str) (hid : -9223372036854775808 ≤ id ∧ id ≤ 9223372036854775807) (hplace : -9223372036854775808 ≤ place ∧ place ≤ 9223372036854775807) (ht : t.length ≤ 1000000000000) :
    Ct Tryz.prog 250 [mv x m, .int .i64 id, .int .i64 place, str t] (mr x m) (fun _ => True) (fun v A' => ∃ x' m', (fun m i p t => m.lay (keyNum (keyNum ([105, 47] : Str) i ([47, 98, 47] : Str)) p []) (hexS t)) m id place t = m' ∧ m'.ok (S + 1) (T + 1) ∧ v = mv x' m' ∧ A' = mr x' m') := by
  refine Ct.intro Tryz.func250 rfl Tryz.ntmps250 (lb rfl) fun w0 hpre => ?_
  refine jC <| jE ?_
  refine jH rfl (jy (cs := (mc x m)) rfl rfl) ?_
  rintro _ _ ⟨b_1, rfl, rfl⟩
  refine jH rfl (jn (z := zM) (cs := zC) gI rfl) ?_
  rintro _ _ ⟨b_2, rfl, rfl⟩
  refine jD <| jB <| jC <| jE <| jA (jF (v := str t) rfl) ?_
  refine jH rfl (jM [] Tryz.call216 rfl (N_sHex t (by omega)) rfl (fun _ _ => trivial)) ?_
  rintro _ _ ⟨_, ⟨u_5, b_7, e_3, f_6, rfl, rfl⟩, rfl⟩
  refine jA (jF (v := .tuple #[str u_5, .bool b_7]) rfl) <| jA (jb (v := str u_5) rfl rfl) <| jA (jb (v := .bool b_7) rfl rfl) <| jA (jG (v := str u_5) rfl) <| jA (jG (v := .bool b_7) rfl) <| jD <| jB <| jC <| jr [mb b_1 x m] 5 mixed (by simp) <| jh 0 rfl (jc 0 x m rfl rfl) ?_
  refine jI 1 rfl (jF (v := iv id) rfl) <| jI 2 rfl (jF (v := iv place) rfl) <| jI 4 rfl (jF (v := str u_5) rfl) <| jQ (i := 3) ?_
  refine jY rfl rfl (jM [] Tryz.call251 rfl (N_l07Block id place (by omega) (by omega)) rfl (fun _ _ => trivial)) ?_
  rintro _ _ ⟨_, ⟨u_18, e_16, f_19, rfl, rfl⟩, rfl⟩
  refine ⟨(by simp), ?_⟩
  refine jQ (i := 5) ?_
  refine kF rfl (jM [2, 2, 2] Tryz.call171 rfl (N_sLay x m hk (by omega) (by omega) u_18 u_5 (by omega)) rfl (fun _ _ => trivial)) ?_
  rintro _ _ ⟨_, ⟨x_26, m_27, e_24, k_25, rfl, rfl⟩, rfl⟩
  refine jQ (i := 6) ?_
  refine jx rfl (jm 3 x_26 m_27 rfl rfl rfl rfl) ?_
  rintro _ _ rfl
  refine jB <| jL <| jR (.inl rfl) rfl (je (jc 3 x_26 m_27 rfl rfl) ⟨_, rfl⟩) (tS 3 _) ?_
  exact ⟨x_26, m_27, (by simp only [hexS_P, e_3, e_16, e_24, SB]; (repeat (first | rw [if_pos (by omega)] | rw [if_neg (by omega)])); all_goals (first | rfl | simp only [SB, e_3, e_16, e_24])), (k_25.mono (by omega) (by omega)), rfl, rfl⟩

theorem M_readFile (x : MA) (m : MS) {S T : Nat} (hk : m.ok S T) (hS : S ≤ 300000000) (hT : T ≤ 300000000) (id : Int) (at_ : Int) (n : Int) (hid : -9223372036854775808 ≤ id ∧ id ≤ 9223372036854775807) (hat_ : -9223372036854775808 ≤ at_ ∧ at_ ≤ 9223372036854775807) (hn : -9223372036854775808 ≤ n ∧ n ≤ 9223372036854775807) :
    Ct Tryz.prog 211 [mv x m, .int .i64 id, .int .i64 at_, .int .i64 n] (mr x m) (fun _ => True) (fun v A' => ∃ x' m' r0, MS.readFile m id at_ n = (m', r0) ∧ m'.ok (S) (T + 130) ∧ r0.length ≤ 1016 ∧ v = .tuple #[mv x' m', str r0] ∧ A' = mr x' m') := by
  refine Ct.intro Tryz.func211 rfl Tryz.ntmps211 (lb rfl) fun w0 hpre => ?_
  refine jC <| jE ?_
  refine jH rfl (jy (cs := (mc x m)) rfl rfl) ?_
  rintro _ _ ⟨b_1, rfl, rfl⟩
  refine jH rfl (jn (z := zM) (cs := zC) gI rfl) ?_
  rintro _ _ ⟨b_2, rfl, rfl⟩
  refine jA (jG (v := str []) rfl) <| jD <| jB <| jC <| jE <| jK (jc 1 x m rfl rfl) <| jA (jF (v := iv id) rfl) ?_
  refine jH rfl (jM [2, 2, 2] Tryz.call248 rfl (M_sizeFile x m hk (by omega) (by omega) id (by omega)) rfl (fun _ _ => trivial)) ?_
  rintro _ _ ⟨_, ⟨x_5, m_6, n_7, e_3, k_4, f_8, rfl, rfl⟩, rfl⟩
  refine jA (jF (v := .tuple #[mv x_5 m_6, iv n_7]) rfl) <| jA (jb (v := mv x_5 m_6) rfl rfl) <| jA (jb (v := iv n_7) rfl rfl) ?_
  refine jH rfl (jm 4 x_5 m_6 rfl rfl rfl rfl) ?_
  rintro _ _ rfl
  refine jA (jG (v := iv n_7) rfl) <| jD <| jB <| jC <| jC <| jE <| jA (jF (v := iv at_) rfl) <| jA (jo rfl rfl) <| jA (jF (v := .bool (decide (at_ < 0))) rfl) ?_
  by_cases h_9 : at_ < 0
  · refine jS (b := true) rfl rfl rfl (cB (dT h_9)) <| jS (b := true) rfl rfl rfl (cB (dT h_9)) <| jA (kG (v := .bool true) (cB (dT h_9)) rfl) <| jA (jF (v := .bool true) rfl) <| jS (b := true) rfl rfl rfl (cB rfl) <| jS (b := true) rfl rfl rfl (cB rfl) <| jS (b := true) rfl rfl rfl (cB rfl) <| jA (kG (v := .bool true) (cB rfl) rfl) <| jD <| jB ?_
    refine jO (cB rfl) <| jC <| jE <| jK (jc 4 x_5 m_6 rfl rfl) ?_
    refine jH rfl (jm 3 x_5 m_6 rfl rfl rfl rfl) ?_
    rintro _ _ rfl
    refine jA (jG (v := str []) rfl) <| jD <| jB <| jL <| jW <| kB (.inl rfl) rfl (je (jc 3 x_5 m_6 rfl rfl) ⟨_, rfl⟩) (jN (v := str []) rfl) (tS 3 _) ?_
    exact ⟨x_5, m_6, [], (by simp only [MS.readFile, Int.toNat_natCast, true_or, or_true, false_or, or_false, e_3, h_9, SB]; (repeat (first | rw [if_pos (by omega)] | rw [if_neg (by omega)])); all_goals (first | rfl | simp only [SB, e_3, h_9])), (k_4.mono (by omega) (by omega)), (by first | omega | (simp only [LE]; omega)), rfl, rfl⟩
  obtain ⟨a, hat⟩ : ∃ a : Nat, at_ = ((a : Nat) : Int) := ⟨at_.toNat, by omega⟩
  refine jZ rfl rfl rfl (cB (dF h_9)) (ja (jf (jF (v := iv n) rfl))) ?_
  rintro _ _ ⟨rfl, rfl⟩
  refine jZ rfl rfl rfl (cB (dF h_9)) (ja (jf (jo rfl rfl))) ?_
  rintro _ _ ⟨rfl, rfl⟩
  refine jA (jv (v := .bool (decide (n < 1))) (cB (dF h_9)) rfl) <| jA (jF (v := .bool (decide (n < 1))) rfl) ?_
  by_cases h_10 : n < 1
  · refine jS (b := true) rfl rfl rfl (cB (dT h_10)) <| jS (b := true) rfl rfl rfl (cB (dT h_10)) <| jS (b := true) rfl rfl rfl (cB (dT h_10)) <| jA (kG (v := .bool true) (cB (dT h_10)) rfl) <| jD <| jB <| jO (cB rfl) <| jC <| jE <| jK (jc 4 x_5 m_6 rfl rfl) ?_
    refine jH rfl (jm 3 x_5 m_6 rfl rfl rfl rfl) ?_
    rintro _ _ rfl
    refine jA (jG (v := str []) rfl) <| jD <| jB <| jL <| jW <| kB (.inl rfl) rfl (je (jc 3 x_5 m_6 rfl rfl) ⟨_, rfl⟩) (jN (v := str []) rfl) (tS 3 _) ?_
    exact ⟨x_5, m_6, [], (by simp only [MS.readFile, Int.toNat_natCast, true_or, or_true, false_or, or_false, e_3, h_9, hat, h_10, SB]; (repeat (first | rw [if_pos (by omega)] | rw [if_neg (by omega)])); all_goals (first | rfl | simp only [SB, e_3, h_9, hat, h_10])), (k_4.mono (by omega) (by omega)), (by first | omega | (simp only [LE]; omega)), rfl, rfl⟩
  refine jZ rfl rfl rfl (cB (dF h_10)) (ja (jf (jF (v := nv a) (congrArg (Value.int .i64) hat)))) ?_
  rintro _ _ ⟨rfl, rfl⟩
  refine jZ rfl rfl rfl (cB (dF h_10)) (ja (jf (jF (v := iv n_7) rfl))) ?_
  rintro _ _ ⟨rfl, rfl⟩
  refine jZ rfl rfl rfl (cB (dF h_10)) (ja (jf (kh rfl rfl))) ?_
  rintro _ _ ⟨rfl, rfl⟩
  refine jA (jv (v := .bool (decide (n_7 ≤ ((a : Nat) : Int)))) (cB (dF h_10)) rfl) <| jD <| jB ?_
  by_cases h_11 : n_7 ≤ ((a : Nat) : Int)
  · refine jO (cB (dT h_11)) <| jC <| jE <| jK (jc 4 x_5 m_6 rfl rfl) ?_
    refine jH rfl (jm 3 x_5 m_6 rfl rfl rfl rfl) ?_
    rintro _ _ rfl
    refine jA (jG (v := str []) rfl) <| jD <| jB <| jL <| jW <| kB (.inl rfl) rfl (je (jc 3 x_5 m_6 rfl rfl) ⟨_, rfl⟩) (jN (v := str []) rfl) (tS 3 _) ?_
    exact ⟨x_5, m_6, [], (by simp only [MS.readFile, Int.toNat_natCast, true_or, or_true, false_or, or_false, e_3, h_9, hat, h_10, h_11, SB]; (repeat (first | rw [if_pos (by omega)] | rw [if_neg (by omega)])); all_goals (first | rfl | simp only [SB, e_3, h_9, hat, h_10, h_11])), (k_4.mono (by omega) (by omega)), (by first | omega | (simp only [LE]; omega)), rfl, rfl⟩
  refine jP (cB (dF h_11)) <| jU <| jB <| jC <| jE <| jA (jF (v := iv n_7) rfl) <| jA (jG (v := iv n_7) rfl) <| jD <| jB <| jC ?_
  refine JC.cut (fun e_ L_ => ∃ E : Nat, (((a : Nat) : Int) + min n (n_7 - ((a : Nat) : Int)) = (E : Int)) ∧ (a < E ∧ E ≤ 999) ∧ e_ 1 = iv id ∧ e_ 2 = nv a ∧ e_ 4 = .pointer (some ⟨b_1, 0, none⟩) ∧ e_ 8 = .pointer (some ⟨b_2, 0, none⟩) ∧ e_ 9 = str [] ∧ e_ 11 = nv E ∧ L_ = [rC x_5.a0 x_5.c0 m_6.s, rS x_5.a1 x_5.c1 m_6.r, rS x_5.a2 x_5.c2 m_6.w, bk b_2 99 zC, mb b_1 x_5 m_6]) ?_ ?_
  · refine jC <| jE <| jA (jF (v := iv n) rfl) <| jA (jF (v := iv n_7) rfl) <| jA (jF (v := nv a) (congrArg (Value.int .i64) hat)) <| jA (kW (c := n_7 - ((a : Nat) : Int)) rfl rfl (wr (by omega))) <| jA (jo rfl rfl) <| jD <| jB ?_
    by_cases h_12 : n < (n_7 - ((a : Nat) : Int))
    · refine jO (cB (dT h_12)) <| jE <| jA (jF (v := nv a) (congrArg (Value.int .i64) hat)) <| jA (jF (v := iv n) rfl) <| jA (ji (c := ((a : Nat) : Int) + n) rfl rfl (wr (by omega))) <| jA (jG (v := iv (((a : Nat) : Int) + n)) rfl) <| jD <| kH [0, 0, 0, 0, 0] (A := [rC x_5.a0 x_5.c0 m_6.s, rS x_5.a1 x_5.c1 m_6.r, rS x_5.a2 x_5.c2 m_6.w, bk b_2 99 zC, mb b_1 x_5 m_6]) rfl ?_
      exact kT ⟨(((a : Nat) : Int) + n).toNat, (by omega), (by omega), rfl, (congrArg (Value.int .i64) hat), rfl, rfl, rfl, (congrArg (Value.int .i64) (Int.toNat_of_nonneg (by omega)).symm), rfl⟩
    refine jP (cB (dF h_12)) <| jU <| kH [0, 0, 0, 0, 0] (A := [rC x_5.a0 x_5.c0 m_6.s, rS x_5.a1 x_5.c1 m_6.r, rS x_5.a2 x_5.c2 m_6.w, bk b_2 99 zC, mb b_1 x_5 m_6]) rfl ?_
    exact kT ⟨(n_7).toNat, (by omega), (by omega), rfl, (congrArg (Value.int .i64) hat), rfl, rfl, rfl, (congrArg (Value.int .i64) (Int.toNat_of_nonneg (by omega)).symm), rfl⟩
  rintro e_13 _ ⟨E, hE, hE3, he_14, he_15, he_16, he_17, he_18, he_19, rfl⟩
  refine jB <| jC <| jE ?_
  refine jH rfl (kJ (ps := []) (cur := #[]) gM gi gp rfl (by kernel_rfl) (by decide) (by decide)) ?_
  rintro _ _ ⟨a_20, rfl, rfl⟩
  refine jA (jG (v := .slice a_20 0 0) rfl) <| jD <| jB <| jC <| jC <| jE <| jA (jF (v := nv a) he_15) <| jA (PO.quoN (c := ((a / 8 : Nat) : Int)) rfl rfl (by omega) (by omega) (by omega) (wr (by omega))) <| jA (jG (v := iv ((a / 8 : Nat) : Int)) rfl) <| jD ?_
  refine jB <| jg <| kC (fun k_ e_ L_ => ∃ p_ : Nat, ∃ x1 : MA, ∃ mm : MS, ∃ o_a : Option Addr, ∃ o_c : Nat, ∃ o_n : Nat, ∃ o_ : Str, (mm.ok (S) (T + 2 + p_)) ∧ (o_.length = o_n) ∧ (a / 8 ≤ p_ ∧ p_ ≤ 125) ∧ (o_.length + 8 * (a / 8) ≤ 8 * p_) ∧ (MS.readL id a E (130 - p_) p_ mm o_ = MS.readL id a E (130 - a / 8) (a / 8) m_6 []) ∧ e_ 1 = iv id ∧ e_ 2 = nv a ∧ e_ 4 = .pointer (some ⟨b_1, 0, none⟩) ∧ e_ 8 = .pointer (some ⟨b_2, 0, none⟩) ∧ e_ 9 = str [] ∧ e_ 11 = nv E ∧ e_ 12 = .slice o_a o_n o_c ∧ e_ 13 = nv p_ ∧ L_ = [Res.row (.slice o_a o_n o_c) 5 1 o_n (o_.map encB), rC x1.a0 x1.c0 mm.s, rS x1.a1 x1.c1 mm.r, rS x1.a2 x1.c2 mm.w, bk b_2 99 zC, mb b_1 x1 mm] ∧ k_ = 126 - p_) _ ⟨(a / 8), x_5, m_6, a_20, 0, 0, ([] : List UInt8), (k_4.mono (by omega) (by omega)), (by first | rfl | omega | (simp only [List.length_append, List.length_cons, List.length_nil, List.length_set]; omega) | simp), (by omega), (by simp only [List.length_nil]; omega), rfl, he_14, he_15, he_16, he_17, he_18, he_19, rfl, rfl, rfl, rfl⟩ ?_
  rintro _ e_21 _ ⟨p_, x1, mm, o_a, o_c, o_n, o_, hkmm, ho_n, hp0, ho, hR, he_22, he_23, he_24, he_25, he_26, he_27, he_28, he_29, rfl, rfl⟩
  refine jC <| jC <| jE <| jA (jF (v := nv p_) he_29) <| jA (PO.mul (c := ((p_ * 8 : Nat) : Int)) rfl rfl (wr (by omega))) <| jA (jF (v := nv E) he_27) <| jA (jo rfl rfl) <| jD <| jB ?_
  by_cases h_30 : ((p_ * 8 : Nat) : Int) < ((E : Nat) : Int)
  · refine jO (cB (dT h_30)) <| jU <| jB <| jC <| jg <| jC <| jE <| jA (jG (v := str []) rfl) <| jD <| jB ?_
    refine jC <| jE <| jK (jc 5 x1 mm rfl he_24) <| jA (jF (v := iv id) he_22) <| jA (jF (v := nv p_) he_29) ?_
    refine jH rfl (jM [1, 1, 1] Tryz.call249 rfl (M_block x1 mm hkmm (by omega) (by omega) id ((p_ : Nat) : Int) (by omega) (by omega)) rfl (fun _ _ => trivial)) ?_
    rintro _ _ ⟨_, ⟨x_33, m_34, u_35, e_31, k_32, f_36, rfl, rfl⟩, rfl⟩
    refine jA (jF (v := .tuple #[mv x_33 m_34, str u_35]) rfl) <| jA (jb (v := mv x_33 m_34) rfl rfl) <| jA (jb (v := str u_35) rfl rfl) ?_
    refine jH rfl (jm 5 x_33 m_34 rfl he_24 rfl rfl) ?_
    rintro _ _ rfl
    refine jA (jG (v := str u_35) rfl) <| jD <| jB <| jC <| jE <| jA (jG (v := iv 0) rfl) <| jD <| jB <| jg <| kC (fun k_ e_ L_ => ∃ i_ : Nat, ∃ q_a : Option Addr, ∃ q_c : Nat, ∃ q_n : Nat, ∃ q_ : Str, (q_.length = q_n) ∧ (i_ ≤ 8 ∧ i_ ≤ u_35.length) ∧ (q_ = o_ ++ piece u_35 (a - p_ * 8) (min (E - p_ * 8) i_)) ∧ (q_.length ≤ o_.length + i_) ∧ e_ 1 = iv id ∧ e_ 2 = nv a ∧ e_ 4 = .pointer (some ⟨b_1, 0, none⟩) ∧ e_ 8 = .pointer (some ⟨b_2, 0, none⟩) ∧ e_ 9 = str [] ∧ e_ 11 = nv E ∧ e_ 12 = .slice q_a q_n q_c ∧ e_ 13 = nv p_ ∧ e_ 14 = str u_35 ∧ e_ 15 = nv i_ ∧ L_ = [rC x_33.a0 x_33.c0 m_34.s, rS x_33.a1 x_33.c1 m_34.r, rS x_33.a2 x_33.c2 m_34.w, Res.row (.slice q_a q_n q_c) 5 1 q_n (q_.map encB), bk b_2 99 zC, mb b_1 x_33 m_34] ∧ k_ = 8 - i_) _ ⟨0, o_a, o_c, o_n, o_, (by first | rfl | omega | (simp only [List.length_append, List.length_cons, List.length_nil, List.length_set]; omega) | simp), (by omega), (by rw [piece_nil (by omega), List.append_nil]), (by omega), he_22, he_23, he_24, he_25, he_26, he_27, he_28, he_29, rfl, rfl, rfl, rfl⟩ ?_
    rintro _ e_37 _ ⟨i_, q_a, q_c, q_n, q_, hq_n, hi, hq, hql, he_38, he_39, he_40, he_41, he_42, he_43, he_44, he_45, he_46, he_47, rfl, rfl⟩
    refine jC <| jC <| jE <| jA (jF (v := nv i_) he_47) <| jA (jF (v := str u_35) he_46) <| jA (kV ky rfl) <| jA (jo rfl rfl) <| jA (jF (v := .bool (decide (((i_ : Nat) : Int) < (u_35.length : Int)))) rfl) ?_
    by_cases h_48 : ((i_ : Nat) : Int) < (u_35.length : Int)
    · refine jZ rfl rfl rfl (cB (dT h_48)) (ja (jf (jF (v := nv i_) he_47))) ?_
      rintro _ _ ⟨rfl, rfl⟩
      refine jZ rfl rfl rfl (cB (dT h_48)) (ja (jf (jo rfl rfl))) ?_
      rintro _ _ ⟨rfl, rfl⟩
      refine jA (kG (v := .bool (decide (((i_ : Nat) : Int) < 8))) (cB (dT h_48)) rfl) <| jD <| jB ?_
      by_cases h_49 : ((i_ : Nat) : Int) < 8
      · refine jO (cB (dT h_49)) <| jU <| jB <| jC <| jg <| jC <| jE <| jA (jF (v := nv p_) he_45) <| jA (PO.mul (c := ((p_ * 8 : Nat) : Int)) rfl rfl (wr (by omega))) <| jA (jF (v := nv i_) he_47) ?_
        refine jA (ji (c := (((p_ * 8) + i_ : Nat) : Int)) rfl rfl (wr (by omega))) <| jA (jG (v := iv (((p_ * 8) + i_ : Nat) : Int)) rfl) <| jD <| jB <| jC <| jE <| jA (jF (v := iv (((p_ * 8) + i_ : Nat) : Int)) rfl) <| jA (jF (v := nv a) he_39) <| jA (kh rfl rfl) <| jA (jF (v := .bool (decide (((a : Nat) : Int) ≤ (((p_ * 8) + i_ : Nat) : Int)))) rfl) ?_
        by_cases h_50 : ((a : Nat) : Int) ≤ (((p_ * 8) + i_ : Nat) : Int)
        · refine jZ rfl rfl rfl (cB (dT h_50)) (ja (jf (jF (v := iv (((p_ * 8) + i_ : Nat) : Int)) rfl))) ?_
          rintro _ _ ⟨rfl, rfl⟩
          refine jZ rfl rfl rfl (cB (dT h_50)) (ja (jf (jF (v := nv E) he_43))) ?_
          rintro _ _ ⟨rfl, rfl⟩
          refine jZ rfl rfl rfl (cB (dT h_50)) (ja (jf (jo rfl rfl))) ?_
          rintro _ _ ⟨rfl, rfl⟩
          refine jA (kG (v := .bool (decide ((((p_ * 8) + i_ : Nat) : Int) < ((E : Nat) : Int)))) (cB (dT h_50)) rfl) <| jD <| jB ?_
          by_cases h_51 : (((p_ * 8) + i_ : Nat) : Int) < ((E : Nat) : Int)
          · refine jO (cB (dT h_51)) <| jE <| jA (jF (v := .slice q_a q_n q_c) he_44) <| jA (jF (v := str u_35) he_46) <| jA (jF (v := nv i_) he_47) <| jA (PO.indexS (i := i_) (c := u_35.getD i_ 0) ky rfl rfl (getD_some (by omega))) ?_
            have hu_52 := UInt8.toNat_lt (u_35.getD i_ 0)
            refine jH rfl (kJ (ps := [(0, .int .u8 ((u_35.getD i_ 0).toNat : Int))]) (cur := #[.int .u8 ((u_35.getD i_ 0).toNat : Int)]) gM gi gp rfl (by kernel_rfl) (by decide) (by decide)) ?_
            rintro _ _ ⟨a_53, rfl, rfl⟩
            refine jH rfl (kM 4 (q := 1) (news := ([u_35.getD i_ 0] : List UInt8).map encB) (n' := (q_ ++ ([u_35.getD i_ 0] : List UInt8)).length) (cs' := (q_ ++ ([u_35.getD i_ 0] : List UInt8)).map encB) rfl gM gM Tryz.typeInfo5 rfl (by' := 1) rfl rfl rfl rfl rfl (fun w hw => Src.sees (hw.see (i := 0) rfl) (oneB _)) (by (try simp only [LE]); omega) (by (try simp only [LE]); omega) (by simp only [List.length_append, List.length_take, List.length_drop, List.length_cons, List.length_nil] <;> first | rfl | omega) (by simp only [List.map_append])) ?_
            rintro _ _ ⟨a_54, c_55, rfl, rfl⟩
            refine jA (jG (v := .slice a_54 ((q_ ++ ([u_35.getD i_ 0] : List UInt8)).length) c_55) rfl) <| jD <| jk <| jB <| jE <| jA (jF (v := nv i_) he_47) <| jA (ji (c := ((i_ + 1 : Nat) : Int)) rfl rfl (wr (by omega))) <| jA (jG (v := iv ((i_ + 1 : Nat) : Int)) rfl) <| jD <| kH [1, 1, 1, 1, 1, 1] (A := [rC x_33.a0 x_33.c0 m_34.s, rS x_33.a1 x_33.c1 m_34.r, rS x_33.a2 x_33.c2 m_34.w, Res.row (.slice a_54 ((q_ ++ ([u_35.getD i_ 0] : List UInt8)).length) c_55) 5 1 ((q_ ++ ([u_35.getD i_ 0] : List UInt8)).length) ((q_ ++ ([u_35.getD i_ 0] : List UInt8)).map encB), bk b_2 99 zC, mb b_1 x_33 m_34]) rfl ?_
            refine ju (8 - (i_ + 1)) (by omega) ⟨(i_ + 1), a_54, c_55, ((q_ ++ ([u_35.getD i_ 0] : List UInt8)).length), (q_ ++ ([u_35.getD i_ 0] : List UInt8)), (by first | rfl | omega | (simp only [List.length_append, List.length_cons, List.length_nil, List.length_set]; omega) | simp), (by omega), (by rw [hq, List.append_assoc, piece_yes (by omega) (by omega) (by omega)]), (by first | omega | (simp only [List.length_append, List.length_cons, List.length_nil]; omega)), he_38, he_39, he_40, he_41, he_42, he_43, rfl, he_45, he_46, rfl, rfl, rfl⟩
          refine jP (cB (dF h_51)) <| jU <| jk <| jB <| jE <| jA (jF (v := nv i_) he_47) <| jA (ji (c := ((i_ + 1 : Nat) : Int)) rfl rfl (wr (by omega))) <| jA (jG (v := iv ((i_ + 1 : Nat) : Int)) rfl) <| jD <| kH [0, 0, 0, 0, 0, 0] (A := [rC x_33.a0 x_33.c0 m_34.s, rS x_33.a1 x_33.c1 m_34.r, rS x_33.a2 x_33.c2 m_34.w, Res.row (.slice q_a q_n q_c) 5 1 q_n (q_.map encB), bk b_2 99 zC, mb b_1 x_33 m_34]) rfl ?_
          refine ju (8 - (i_ + 1)) (by omega) ⟨(i_ + 1), q_a, q_c, q_n, q_, (by first | rfl | omega | (simp only [List.length_append, List.length_cons, List.length_nil, List.length_set]; omega) | simp), (by omega), (by rw [hq, piece_no (by omega)]), (by first | omega | (simp only [List.length_append, List.length_cons, List.length_nil]; omega)), he_38, he_39, he_40, he_41, he_42, he_43, he_44, he_45, he_46, rfl, rfl, rfl⟩
        refine jS (b := false) rfl rfl rfl (cB (dF h_50)) <| jS (b := false) rfl rfl rfl (cB (dF h_50)) <| jS (b := false) rfl rfl rfl (cB (dF h_50)) <| jA (jv (v := .bool false) (cB (dF h_50)) rfl) <| jD <| jB <| jP (cB rfl) <| jU <| jk <| jB ?_
        refine jE <| jA (jF (v := nv i_) he_47) <| jA (ji (c := ((i_ + 1 : Nat) : Int)) rfl rfl (wr (by omega))) <| jA (jG (v := iv ((i_ + 1 : Nat) : Int)) rfl) <| jD <| kH [0, 0, 0, 0, 0, 0] (A := [rC x_33.a0 x_33.c0 m_34.s, rS x_33.a1 x_33.c1 m_34.r, rS x_33.a2 x_33.c2 m_34.w, Res.row (.slice q_a q_n q_c) 5 1 q_n (q_.map encB), bk b_2 99 zC, mb b_1 x_33 m_34]) rfl ?_
        refine ju (8 - (i_ + 1)) (by omega) ⟨(i_ + 1), q_a, q_c, q_n, q_, (by first | rfl | omega | (simp only [List.length_append, List.length_cons, List.length_nil, List.length_set]; omega) | simp), (by omega), (by rw [hq, piece_no (by omega)]), (by first | omega | (simp only [List.length_append, List.length_cons, List.length_nil]; omega)), he_38, he_39, he_40, he_41, he_42, he_43, he_44, he_45, he_46, rfl, rfl, rfl⟩
      have ho2 : q_ = o_ ++ piece u_35 (a - p_ * 8) (min (min (E - p_ * 8) 8) u_35.length) := by rw [hq, show min (E - p_ * 8) i_ = min (min (E - p_ * 8) 8) u_35.length by omega]
      refine jP (cB (dF h_49)) <| jz <| jj <| jj <| kA <| jk <| jB <| jE <| jA (jF (v := nv p_) he_45) <| jA (ji (c := ((p_ + 1 : Nat) : Int)) rfl rfl (wr (by omega))) ?_
      refine jA (jG (v := iv ((p_ + 1 : Nat) : Int)) rfl) <| jD <| kH [3, 0, 0, 0, 0, 0] (A := [Res.row (.slice q_a q_n q_c) 5 1 q_n (q_.map encB), rC x_33.a0 x_33.c0 m_34.s, rS x_33.a1 x_33.c1 m_34.r, rS x_33.a2 x_33.c2 m_34.w, bk b_2 99 zC, mb b_1 x_33 m_34]) rfl ?_
      refine ju (126 - (p_ + 1)) (by omega) ⟨(p_ + 1), x_33, m_34, q_a, q_c, q_n, q_, (k_32.mono (by omega) (by omega)), (by first | rfl | omega | (simp only [List.length_append, List.length_cons, List.length_nil, List.length_set]; omega) | simp), (by omega), (by omega), (by rw [show 130 - p_ = (130 - (p_ + 1)) + 1 by omega, MS.readL, if_pos (by omega)] at hR; simp only [e_3, e_31] at hR; rw [← ho2] at hR; exact hR), he_38, he_39, he_40, he_41, he_42, he_43, he_44, rfl, rfl, rfl⟩
    have ho2 : q_ = o_ ++ piece u_35 (a - p_ * 8) (min (min (E - p_ * 8) 8) u_35.length) := by rw [hq, show min (E - p_ * 8) i_ = min (min (E - p_ * 8) 8) u_35.length by omega]
    refine jS (b := false) rfl rfl rfl (cB (dF h_48)) <| jS (b := false) rfl rfl rfl (cB (dF h_48)) <| jA (jv (v := .bool false) (cB (dF h_48)) rfl) <| jD <| jB <| jP (cB rfl) <| jz <| jj <| jj <| kA ?_
    refine jk <| jB <| jE <| jA (jF (v := nv p_) he_45) <| jA (ji (c := ((p_ + 1 : Nat) : Int)) rfl rfl (wr (by omega))) <| jA (jG (v := iv ((p_ + 1 : Nat) : Int)) rfl) <| jD <| kH [3, 0, 0, 0, 0, 0] (A := [Res.row (.slice q_a q_n q_c) 5 1 q_n (q_.map encB), rC x_33.a0 x_33.c0 m_34.s, rS x_33.a1 x_33.c1 m_34.r, rS x_33.a2 x_33.c2 m_34.w, bk b_2 99 zC, mb b_1 x_33 m_34]) rfl ?_
    refine ju (126 - (p_ + 1)) (by omega) ⟨(p_ + 1), x_33, m_34, q_a, q_c, q_n, q_, (k_32.mono (by omega) (by omega)), (by first | rfl | omega | (simp only [List.length_append, List.length_cons, List.length_nil, List.length_set]; omega) | simp), (by omega), (by omega), (by rw [show 130 - p_ = (130 - (p_ + 1)) + 1 by omega, MS.readL, if_pos (by omega)] at hR; simp only [e_3, e_31] at hR; rw [← ho2] at hR; exact hR), he_38, he_39, he_40, he_41, he_42, he_43, he_44, rfl, rfl, rfl⟩
  rw [MS.readL_stop (by omega)] at hR
  have hRE := hR.symm
  refine jP (cB (dF h_30)) <| jz <| jj <| jj <| kA <| jB <| jC <| jr [mb b_1 x1 mm] 4 mixed (by simp) <| jh 0 rfl (jc 0 x1 mm rfl he_24) <| jI 1 rfl (jF (v := .slice o_a o_n o_c) he_28) ?_
  refine kX (i := 2) (j := 3) (by kernel_rfl) ?_ ?_
  · refine jY rfl rfl (ja (LO.toStr 0 o_ rfl gM gZ ky rfl rfl)) ?_
    rintro _ _ ⟨rfl, rfl⟩
    refine ⟨(by simp), ?_⟩
    refine jQ (i := 3) ?_
    refine jY rfl rfl (jm 4 x1 mm rfl he_25 rfl rfl) ?_
    rintro _ _ rfl
    refine ⟨(by simp), ?_⟩
    refine jI 4 rfl (jG (v := str o_) rfl) <| kI (by kernel_rfl) <| jB <| jL <| kR (pick_perm [1, 1, 1] (A := [rC x1.a0 x1.c0 mm.s, rS x1.a1 x1.c1 mm.r, rS x1.a2 x1.c2 mm.w]) (F := [Res.row (.slice o_a o_n o_c) 5 1 o_n (o_.map encB), mb b_2 x1 mm, mb b_1 x1 mm]) rfl).symm <| kB (.inl rfl) rfl (je (jc 4 x1 mm rfl he_25) ⟨_, he_25⟩) (jN (v := str o_) rfl) (tS 3 _) ?_
    exact ⟨x1, mm, o_, (by simp only [MS.readFile, Int.toNat_natCast, true_or, or_true, false_or, or_false, e_3, h_9, hat, h_10, h_11, hE, h_30, hRE, SB]; (repeat (first | rw [if_pos (by omega)] | rw [if_neg (by omega)])); all_goals (first | rfl | simp only [SB, e_3, h_9, hat, h_10, h_11, hE, h_30, hRE])), (hkmm.mono (by omega) (by omega)), (by first | omega | (simp only [LE]; omega)), rfl, rfl⟩
  refine jY rfl rfl (jm 4 x1 mm rfl he_25 rfl rfl) ?_
  rintro _ _ rfl
  refine ⟨(by simp), ?_⟩
  refine jQ (i := 2) ?_
  refine jY rfl rfl (ja (LO.toStr 0 o_ rfl gM gZ ky rfl rfl)) ?_
  rintro _ _ ⟨rfl, rfl⟩
  refine ⟨(by simp), ?_⟩
  refine jI 4 rfl (jG (v := str o_) rfl) <| kI (by kernel_rfl) <| jB <| jL <| kR (pick_perm [1, 1, 1] (A := [rC x1.a0 x1.c0 mm.s, rS x1.a1 x1.c1 mm.r, rS x1.a2 x1.c2 mm.w]) (F := [Res.row (.slice o_a o_n o_c) 5 1 o_n (o_.map encB), mb b_2 x1 mm, mb b_1 x1 mm]) rfl).symm <| kB (.inl rfl) rfl (je (jc 4 x1 mm rfl he_25) ⟨_, he_25⟩) (jN (v := str o_) rfl) (tS 3 _) ?_
  exact ⟨x1, mm, o_, (by simp only [MS.readFile, Int.toNat_natCast, true_or, or_true, false_or, or_false, e_3, h_9, hat, h_10, h_11, hE, h_30, hRE, SB]; (repeat (first | rw [if_pos (by omega)] | rw [if_neg (by omega)])); all_goals (first | rfl | simp only [SB, e_3, h_9, hat, h_10, h_11, hE, h_30, hRE])), (hkmm.mono (by omega) (by omega)), (by first | omega | (simp only [LE]; omega)), rfl, rfl⟩

theorem M_writeFile (x : MA) (m : MS) {S T : Nat} (hk : m.ok S T) (hS : S ≤ 300000000) (hT : T ≤ 300000000) (id : Int) (at_ : Int) (text : Str) (hid : -9223372036854775808 ≤ id ∧ id ≤ 9223372036854775807) (hat_ : -9223372036854775808 ≤ at_ ∧ at_ ≤ 9223372036854775807) (htext : text.length ≤ 1000000000000) :
    Ct Tryz.prog 212 [mv x m, .int .i64 id, .int .i64 at_, str text] (mr x m) (fun _ => True) (fun v A' => ∃ x' m' r0, MS.writeFile m id at_ text = (m', r0) ∧ m'.ok (S + 12) (T + 30) ∧ (0 ≤ r0 ∧ r0 ≤ 9) ∧ v = .tuple #[mv x' m', .int .i64 r0] ∧ A' = mr x' m') := by
  refine Ct.intro Tryz.func212 rfl Tryz.ntmps212 (lb rfl) fun w0 hpre => ?_
  refine jC <| jE ?_
  refine jH rfl (jy (cs := (mc x m)) rfl rfl) ?_
  rintro _ _ ⟨b_1, rfl, rfl⟩
  refine jH rfl (jn (z := zM) (cs := zC) gI rfl) ?_
  rintro _ _ ⟨b_2, rfl, rfl⟩
  refine jA (jG (v := iv 0) rfl) <| jD <| jB <| jC <| jE <| jK (jc 1 x m rfl rfl) <| jA (jF (v := iv id) rfl) ?_
  refine jH rfl (jM [2, 2, 2] Tryz.call248 rfl (M_sizeFile x m hk (by omega) (by omega) id (by omega)) rfl (fun _ _ => trivial)) ?_
  rintro _ _ ⟨_, ⟨x_5, m_6, n_7, e_3, k_4, f_8, rfl, rfl⟩, rfl⟩
  refine jA (jF (v := .tuple #[mv x_5 m_6, iv n_7]) rfl) <| jA (jb (v := mv x_5 m_6) rfl rfl) <| jA (jb (v := iv n_7) rfl rfl) ?_
  refine jH rfl (jm 4 x_5 m_6 rfl rfl rfl rfl) ?_
  rintro _ _ rfl
  refine jA (jG (v := iv n_7) rfl) <| jD <| jB <| jC <| jC <| jE <| jA (jF (v := iv at_) rfl) <| jA (jF (v := iv n_7) rfl) ?_
  refine jH rfl (jM [] Tryz.call40 rfl (C_l01In at_ 0 n_7) rfl (fun _ _ => trivial)) ?_
  rintro _ _ ⟨_, ⟨rfl, rfl⟩, rfl⟩
  refine jA (kP rfl) <| jA (jF (v := .bool (!(decide (0 ≤ at_) && decide (at_ ≤ n_7)))) rfl) ?_
  rcases Bool.eq_false_or_eq_true (decide (0 ≤ at_) && decide (at_ ≤ n_7)) with h_9 | h_9
  · have h_9d := h_9
    simp only [Bool.and_eq_true, Bool.and_eq_false_iff, decide_eq_true_eq, decide_eq_false_iff_not] at h_9d
    obtain ⟨a, hat⟩ : ∃ a : Nat, at_ = ((a : Nat) : Int) := ⟨at_.toNat, by omega⟩
    refine jZ rfl rfl rfl (cB (cN h_9)) (ja (jf (jF (v := str text) rfl))) ?_
    rintro _ _ ⟨rfl, rfl⟩
    refine jZ rfl rfl rfl (cB (cN h_9)) (ja (jf (PO.eqlS rfl rfl))) ?_
    rintro _ _ ⟨rfl, rfl⟩
    refine jA (jv (v := .bool (decide (text = []))) (cB (cN h_9)) rfl) <| jD <| jB ?_
    by_cases h_10 : text = []
    · have h_10l : text.length = 0 := by rw [h_10]; rfl
      refine jO (cB (dT h_10)) <| jC <| jE <| jK (jc 4 x_5 m_6 rfl rfl) ?_
      refine jH rfl (jm 3 x_5 m_6 rfl rfl rfl rfl) ?_
      rintro _ _ rfl
      refine jA (jG (v := iv 4) rfl) <| jD <| jB <| jL <| jW <| kB (.inl rfl) rfl (je (jc 3 x_5 m_6 rfl rfl) ⟨_, rfl⟩) (jN (v := iv 4) rfl) (tS 3 _) ?_
      exact ⟨x_5, m_6, 4, (by simp only [MS.writeFile, List.length_nil, Int.toNat_natCast, true_or, or_true, false_or, or_false, e_3, h_9, hat, h_10, SB]; (repeat (first | rw [if_pos (by omega)] | rw [if_neg (by omega)])); all_goals (first | rfl | simp only [SB, e_3, h_9, hat, h_10])), (k_4.mono (by omega) (by omega)), (by first | omega | (simp only [LE]; omega)), rfl, rfl⟩
    have h_10l := List.length_pos_iff.2 h_10
    refine jP (cB (dF h_10)) <| jU <| jB <| jC <| jE <| jA (jF (v := nv a) (congrArg (Value.int .i64) hat)) <| jA (jF (v := str text) rfl) <| jA (kV ky rfl) <| jA (ji (c := ((a + text.length : Nat) : Int)) rfl rfl (wr (by omega))) <| jA (jG (v := iv ((a + text.length : Nat) : Int)) rfl) ?_
    refine jD <| jB <| jC <| jC <| jE <| jA (jF (v := iv ((a + text.length : Nat) : Int)) rfl) <| jA (ke rfl rfl) <| jD <| jB ?_
    by_cases h_11 : 64 < ((a + text.length : Nat) : Int)
    · refine jO (cB (dT h_11)) <| jC <| jE <| jK (jc 4 x_5 m_6 rfl rfl) ?_
      refine jH rfl (jm 3 x_5 m_6 rfl rfl rfl rfl) ?_
      rintro _ _ rfl
      refine jA (jG (v := iv 3) rfl) <| jD <| jB <| jL <| jW <| kB (.inl rfl) rfl (je (jc 3 x_5 m_6 rfl rfl) ⟨_, rfl⟩) (jN (v := iv 3) rfl) (tS 3 _) ?_
      exact ⟨x_5, m_6, 3, (by simp only [MS.writeFile, List.length_nil, Int.toNat_natCast, true_or, or_true, false_or, or_false, e_3, h_9, hat, h_10, h_11, SB]; (repeat (first | rw [if_pos (by omega)] | rw [if_neg (by omega)])); all_goals (first | rfl | simp only [SB, e_3, h_9, hat, h_10, h_11])), (k_4.mono (by omega) (by omega)), (by first | omega | (simp only [LE]; omega)), rfl, rfl⟩
    refine jP (cB (dF h_11)) <| jU <| jB <| jC <| jC <| jE <| jA (jF (v := nv a) (congrArg (Value.int .i64) hat)) <| jA (PO.quoN (c := ((a / 8 : Nat) : Int)) rfl rfl (by omega) (by omega) (by omega) (wr (by omega))) <| jA (jG (v := iv ((a / 8 : Nat) : Int)) rfl) <| jD ?_
    refine jB <| jg <| kC (fun k_ e_ L_ => ∃ p_ : Nat, ∃ x1 : MA, ∃ mm : MS, (mm.ok (S + p_) (T + 2 + 2 * p_)) ∧ (a / 8 ≤ p_ ∧ p_ ≤ 9) ∧ (MS.writeL id text a (a + text.length) (130 - p_) p_ mm = MS.writeL id text a (a + text.length) (130 - a / 8) (a / 8) m_6) ∧ e_ 1 = iv id ∧ e_ 2 = nv a ∧ e_ 3 = str text ∧ e_ 4 = .pointer (some ⟨b_1, 0, none⟩) ∧ e_ 8 = .pointer (some ⟨b_2, 0, none⟩) ∧ e_ 9 = iv 0 ∧ e_ 10 = iv n_7 ∧ e_ 11 = iv ((a + text.length : Nat) : Int) ∧ e_ 12 = nv p_ ∧ L_ = [rC x1.a0 x1.c0 mm.s, rS x1.a1 x1.c1 mm.r, rS x1.a2 x1.c2 mm.w, bk b_2 99 zC, mb b_1 x1 mm] ∧ k_ = 70 - p_) _ ⟨(a / 8), x_5, m_6, (k_4.mono (by omega) (by omega)), (by omega), rfl, rfl, (congrArg (Value.int .i64) hat), rfl, rfl, rfl, rfl, rfl, rfl, rfl, rfl, rfl⟩ ?_
    rintro _ e_12 _ ⟨p_, x1, mm, hkmm, hp0, hR, he_13, he_14, he_15, he_16, he_17, he_18, he_19, he_20, he_21, rfl, rfl⟩
    refine jC <| jC <| jE <| jA (jF (v := nv p_) he_21) <| jA (PO.mul (c := ((p_ * 8 : Nat) : Int)) rfl rfl (wr (by omega))) <| jA (jF (v := iv ((a + text.length : Nat) : Int)) he_20) <| jA (jo rfl rfl) <| jD <| jB ?_
    by_cases h_22 : ((p_ * 8 : Nat) : Int) < ((a + text.length : Nat) : Int)
    · refine jO (cB (dT h_22)) <| jU <| jB <| jC <| jg <| jC <| jE <| jA (jG (v := str []) rfl) <| jD <| jB ?_
      refine jC <| jE <| jK (jc 4 x1 mm rfl he_16) <| jA (jF (v := iv id) he_13) <| jA (jF (v := nv p_) he_21) ?_
      refine jH rfl (jM [0, 0, 0] Tryz.call249 rfl (M_block x1 mm hkmm (by omega) (by omega) id ((p_ : Nat) : Int) (by omega) (by omega)) rfl (fun _ _ => trivial)) ?_
      rintro _ _ ⟨_, ⟨x_25, m_26, u_27, e_23, k_24, f_28, rfl, rfl⟩, rfl⟩
      refine jA (jF (v := .tuple #[mv x_25 m_26, str u_27]) rfl) <| jA (jb (v := mv x_25 m_26) rfl rfl) <| jA (jb (v := str u_27) rfl rfl) ?_
      refine jH rfl (jm 4 x_25 m_26 rfl he_16 rfl rfl) ?_
      rintro _ _ rfl
      refine jA (jG (v := str u_27) rfl) <| jD <| jB <| jC <| jE <| jA (jF (v := str u_27) rfl) ?_
      refine jH rfl (JO.toBytes ky gM gZ rfl (by unfold maxLen; omega)) ?_
      rintro _ _ ⟨a_29, c_30, rfl, rfl⟩
      refine jA (jG (v := .slice a_29 u_27.length c_30) rfl) <| jD <| jB <| jC <| jC <| jE <| jA (jG (v := iv 0) rfl) <| jD <| jB <| jg ?_
      refine kC (fun k_ e_ L_ => ∃ i_ : Nat, ∃ bba : Option Addr, ∃ bbc : Nat, ∃ bbn : Nat, ∃ bb : Str, (bb.length = bbn) ∧ (i_ ≤ 8) ∧ (bb = overTo text a (p_ * 8) u_27 (min (a + text.length) (p_ * 8 + i_) - max a (p_ * 8))) ∧ (bb.length ≤ 20008) ∧ e_ 1 = iv id ∧ e_ 2 = nv a ∧ e_ 3 = str text ∧ e_ 4 = .pointer (some ⟨b_1, 0, none⟩) ∧ e_ 8 = .pointer (some ⟨b_2, 0, none⟩) ∧ e_ 9 = iv 0 ∧ e_ 10 = iv n_7 ∧ e_ 11 = iv ((a + text.length : Nat) : Int) ∧ e_ 12 = nv p_ ∧ e_ 14 = .slice bba bbn bbc ∧ e_ 15 = nv i_ ∧ L_ = [Res.row (.slice bba bbn bbc) 5 1 bbn (bb.map encB), rC x_25.a0 x_25.c0 m_26.s, rS x_25.a1 x_25.c1 m_26.r, rS x_25.a2 x_25.c2 m_26.w, bk b_2 99 zC, mb b_1 x_25 m_26] ∧ k_ = 8 - i_) _ ⟨0, a_29, c_30, u_27.length, u_27, (by first | rfl | omega | (simp only [List.length_append, List.length_cons, List.length_nil, List.length_set]; omega) | simp), (by omega), (by rw [show min (a + text.length) (p_ * 8 + 0) - max a (p_ * 8) = 0 by omega]; rfl), (by omega), he_13, he_14, he_15, he_16, he_17, he_18, he_19, he_20, he_21, rfl, rfl, rfl, rfl⟩ ?_
      rintro _ e_31 _ ⟨i_, bba, bbc, bbn, bb, hbbn, hi, hb, hbl, he_32, he_33, he_34, he_35, he_36, he_37, he_38, he_39, he_40, he_41, he_42, rfl, rfl⟩
      refine jC <| jC <| jE <| jA (jF (v := nv i_) he_42) <| jA (jo rfl rfl) <| jD <| jB ?_
      by_cases h_43 : ((i_ : Nat) : Int) < 8
      · refine jO (cB (dT h_43)) <| jU <| jB <| jC <| jg <| jC <| jE <| jA (jF (v := nv p_) he_40) <| jA (PO.mul (c := ((p_ * 8 : Nat) : Int)) rfl rfl (wr (by omega))) <| jA (jF (v := nv i_) he_42) ?_
        refine jA (ji (c := (((p_ * 8) + i_ : Nat) : Int)) rfl rfl (wr (by omega))) <| jA (jG (v := iv (((p_ * 8) + i_ : Nat) : Int)) rfl) <| jD <| jB <| jC <| jC <| jE <| jA (jF (v := iv (((p_ * 8) + i_ : Nat) : Int)) rfl) <| jA (jF (v := nv a) he_33) <| jA (jo rfl rfl) ?_
        refine jA (jF (v := .bool (decide ((((p_ * 8) + i_ : Nat) : Int) < ((a : Nat) : Int)))) rfl) ?_
        by_cases h_44 : (((p_ * 8) + i_ : Nat) : Int) < ((a : Nat) : Int)
        · refine jS (b := true) rfl rfl rfl (cB (dT h_44)) <| jS (b := true) rfl rfl rfl (cB (dT h_44)) <| jS (b := true) rfl rfl rfl (cB (dT h_44)) <| jA (kG (v := .bool true) (cB (dT h_44)) rfl) <| jD <| jB <| jO (cB rfl) <| jz <| jj <| kA ?_
          refine jB <| jE <| jA (jF (v := nv i_) he_42) <| jA (ji (c := ((i_ + 1 : Nat) : Int)) rfl rfl (wr (by omega))) <| jA (jG (v := iv ((i_ + 1 : Nat) : Int)) rfl) <| jD <| kH [0, 0, 0, 0, 0, 0] (A := [Res.row (.slice bba bbn bbc) 5 1 bbn (bb.map encB), rC x_25.a0 x_25.c0 m_26.s, rS x_25.a1 x_25.c1 m_26.r, rS x_25.a2 x_25.c2 m_26.w, bk b_2 99 zC, mb b_1 x_25 m_26]) rfl ?_
          refine ju (8 - (i_ + 1)) (by omega) ⟨(i_ + 1), bba, bbc, bbn, bb, (by first | rfl | omega | (simp only [List.length_append, List.length_cons, List.length_nil, List.length_set]; omega) | simp), (by omega), (by rw [hb, show min (a + text.length) (p_ * 8 + (i_ + 1)) - max a (p_ * 8) = min (a + text.length) (p_ * 8 + i_) - max a (p_ * 8) by omega]), (by omega), he_32, he_33, he_34, he_35, he_36, he_37, he_38, he_39, he_40, he_41, rfl, rfl, rfl⟩
        refine jZ rfl rfl rfl (cB (dF h_44)) (ja (jf (jF (v := iv (((p_ * 8) + i_ : Nat) : Int)) rfl))) ?_
        rintro _ _ ⟨rfl, rfl⟩
        refine jZ rfl rfl rfl (cB (dF h_44)) (ja (jf (jF (v := iv ((a + text.length : Nat) : Int)) he_39))) ?_
        rintro _ _ ⟨rfl, rfl⟩
        refine jZ rfl rfl rfl (cB (dF h_44)) (ja (jf (kh rfl rfl))) ?_
        rintro _ _ ⟨rfl, rfl⟩
        refine jA (jv (v := .bool (decide (((a + text.length : Nat) : Int) ≤ (((p_ * 8) + i_ : Nat) : Int)))) (cB (dF h_44)) rfl) <| jD <| jB ?_
        by_cases h_45 : ((a + text.length : Nat) : Int) ≤ (((p_ * 8) + i_ : Nat) : Int)
        · refine jO (cB (dT h_45)) <| jz <| jj <| kA <| jB <| jE <| jA (jF (v := nv i_) he_42) <| jA (ji (c := ((i_ + 1 : Nat) : Int)) rfl rfl (wr (by omega))) <| jA (jG (v := iv ((i_ + 1 : Nat) : Int)) rfl) <| jD ?_
          refine kH [0, 0, 0, 0, 0, 0] (A := [Res.row (.slice bba bbn bbc) 5 1 bbn (bb.map encB), rC x_25.a0 x_25.c0 m_26.s, rS x_25.a1 x_25.c1 m_26.r, rS x_25.a2 x_25.c2 m_26.w, bk b_2 99 zC, mb b_1 x_25 m_26]) rfl ?_
          refine ju (8 - (i_ + 1)) (by omega) ⟨(i_ + 1), bba, bbc, bbn, bb, (by first | rfl | omega | (simp only [List.length_append, List.length_cons, List.length_nil, List.length_set]; omega) | simp), (by omega), (by rw [hb, show min (a + text.length) (p_ * 8 + (i_ + 1)) - max a (p_ * 8) = min (a + text.length) (p_ * 8 + i_) - max a (p_ * 8) by omega]), (by omega), he_32, he_33, he_34, he_35, he_36, he_37, he_38, he_39, he_40, he_41, rfl, rfl, rfl⟩
        refine jP (cB (dF h_45)) <| jU <| jB <| jC <| jg <| kC (fun k_ e_ L_ => ∃ g_ : Nat, ∃ cca : Option Addr, ∃ ccc : Nat, ∃ ccn : Nat, ∃ cc : Str, (cc.length = ccn) ∧ (cc ++ List.replicate (i_ + 1 - cc.length) 0 = bb ++ List.replicate (i_ + 1 - bb.length) 0) ∧ (cc.length = bb.length + g_) ∧ e_ 1 = iv id ∧ e_ 2 = nv a ∧ e_ 3 = str text ∧ e_ 4 = .pointer (some ⟨b_1, 0, none⟩) ∧ e_ 8 = .pointer (some ⟨b_2, 0, none⟩) ∧ e_ 9 = iv 0 ∧ e_ 10 = iv n_7 ∧ e_ 11 = iv ((a + text.length : Nat) : Int) ∧ e_ 12 = nv p_ ∧ e_ 14 = .slice cca ccn ccc ∧ e_ 15 = nv i_ ∧ e_ 16 = iv (((p_ * 8) + i_ : Nat) : Int) ∧ L_ = [Res.row (.slice cca ccn ccc) 5 1 ccn (cc.map encB), rC x_25.a0 x_25.c0 m_26.s, rS x_25.a1 x_25.c1 m_26.r, rS x_25.a2 x_25.c2 m_26.w, bk b_2 99 zC, mb b_1 x_25 m_26] ∧ k_ = 21000 - g_) _ ⟨0, bba, bbc, bbn, bb, (by first | rfl | omega | (simp only [List.length_append, List.length_cons, List.length_nil, List.length_set]; omega) | simp), rfl, (by omega), he_32, he_33, he_34, he_35, he_36, he_37, he_38, he_39, he_40, he_41, he_42, rfl, rfl, rfl⟩ ?_
        rintro _ e_46 _ ⟨g_, cca, ccc, ccn, cc, hccn, hc, hcl, he_47, he_48, he_49, he_50, he_51, he_52, he_53, he_54, he_55, he_56, he_57, he_58, rfl, rfl⟩
        refine jC <| jC <| jE <| jA (jF (v := .slice cca ccn ccc) he_56) <| jA (jp gM rfl) <| jA (jF (v := nv i_) he_57) <| jA (PO.leq rfl rfl) <| jD <| jB ?_
        by_cases h_59 : ((ccn : Nat) : Int) ≤ ((i_ : Nat) : Int)
        · refine jO (cB (dT h_59)) <| jU <| jB <| jg <| jE <| jA (jF (v := .slice cca ccn ccc) he_56) ?_
          refine jH rfl (kJ (ps := [(0, .int .u8 0)]) (cur := #[.int .u8 0]) gM gi gp rfl (by kernel_rfl) (by decide) (by decide)) ?_
          rintro _ _ ⟨a_60, rfl, rfl⟩
          refine jH rfl (kM 1 (q := 1) (news := ([0] : List UInt8).map encB) (n' := (cc ++ ([0] : List UInt8)).length) (cs' := (cc ++ ([0] : List UInt8)).map encB) rfl gM gM Tryz.typeInfo5 rfl (by' := 1) rfl rfl rfl rfl rfl (fun w hw => Src.sees (hw.see (i := 0) rfl) (oneB _)) (by (try simp only [LE]); omega) (by (try simp only [LE]); omega) (by simp only [List.length_append, List.length_take, List.length_drop, List.length_cons, List.length_nil] <;> first | rfl | omega) (by simp only [List.map_append])) ?_
          rintro _ _ ⟨a_61, c_62, rfl, rfl⟩
          refine jA (jG (v := .slice a_61 ((cc ++ ([0] : List UInt8)).length) c_62) rfl) <| jD <| jk <| kH [1, 1, 1, 1, 1, 1] (A := [Res.row (.slice a_61 ((cc ++ ([0] : List UInt8)).length) c_62) 5 1 ((cc ++ ([0] : List UInt8)).length) ((cc ++ ([0] : List UInt8)).map encB), rC x_25.a0 x_25.c0 m_26.s, rS x_25.a1 x_25.c1 m_26.r, rS x_25.a2 x_25.c2 m_26.w, bk b_2 99 zC, mb b_1 x_25 m_26]) rfl ?_
          refine ju (21000 - (g_ + 1)) (by omega) ⟨(g_ + 1), a_61, c_62, ((cc ++ ([0] : List UInt8)).length), (cc ++ ([0] : List UInt8)), (by first | rfl | omega | (simp only [List.length_append, List.length_cons, List.length_nil, List.length_set]; omega) | simp), (by rw [List.length_append, ← hc]; exact pad_step (by omega)), (by simp only [List.length_append, List.length_cons, List.length_nil]; omega), he_47, he_48, he_49, he_50, he_51, he_52, he_53, he_54, he_55, rfl, he_57, he_58, rfl, rfl⟩
        have hcd : cc = bb ++ List.replicate (p_ * 8 + i_ - p_ * 8 + 1 - bb.length) 0 := by rw [show p_ * 8 + i_ - p_ * 8 = i_ by omega, ← hc, show i_ + 1 - cc.length = 0 by omega]; simp
        refine jP (cB (dF h_59)) <| jz <| jj <| jj <| kA <| jB <| jE <| jA (jF (v := .slice cca ccn ccc) he_56) <| jA (jF (v := nv i_) he_57) <| jA (jF (v := str text) he_49) ?_
        refine jA (jF (v := iv (((p_ * 8) + i_ : Nat) : Int)) he_58) <| jA (jF (v := nv a) he_48) <| jA (kW (c := ((((p_ * 8) + i_) - a : Nat) : Int)) rfl rfl (wr (by omega))) <| jA (PO.indexS (i := ((p_ * 8) + i_) - a) (c := text.getD (((p_ * 8) + i_) - a) 0) ky rfl rfl (getD_some (by omega))) ?_
        have hu_63 := UInt8.toNat_lt (text.getD (((p_ * 8) + i_) - a) 0)
        refine kc fun hst => ?_
        obtain ⟨hr_64, hr_64b, -⟩ := row_some 0 rfl (by omega) hst
        refine jA (jl (i := i_) gM gi hr_64 hr_64b rfl rfl (by omega)) ?_
        refine jH rfl (kU 0 (vs := [.int .u8 ((text.getD (((p_ * 8) + i_) - a) 0).toNat : Int)]) (cs' := (cc.set i_ (text.getD (((p_ * 8) + i_) - a) 0)).map encB) rfl rfl rfl rfl gi rfl rfl (by decide) (by rw [List.length_map]; omega) (setB (by omega))) ?_
        rintro _ _ rfl
        refine jD <| jk <| jB <| jE <| jA (jF (v := nv i_) he_57) <| jA (ji (c := ((i_ + 1 : Nat) : Int)) rfl rfl (wr (by omega))) <| jA (jG (v := iv ((i_ + 1 : Nat) : Int)) rfl) <| jD <| kH [0, 0, 0, 0, 0, 0] (A := [Res.row (.slice cca ccn ccc) 5 1 ccn ((cc.set i_ (text.getD (((p_ * 8) + i_) - a) 0)).map encB), rC x_25.a0 x_25.c0 m_26.s, rS x_25.a1 x_25.c1 m_26.r, rS x_25.a2 x_25.c2 m_26.w, bk b_2 99 zC, mb b_1 x_25 m_26]) rfl ?_
        refine ju (8 - (i_ + 1)) (by omega) ⟨(i_ + 1), cca, ccc, ccn, (cc.set i_ (text.getD (((p_ * 8) + i_) - a) 0)), (by first | rfl | omega | (simp only [List.length_append, List.length_cons, List.length_nil, List.length_set]; omega) | simp), (by omega), (by have h3_ := overTo_step (text := text) (a := a) (f := p_ * 8) (j := p_ * 8 + i_) (by omega) (hb.trans (by rw [show min (a + text.length) (p_ * 8 + i_) - max a (p_ * 8) = p_ * 8 + i_ - max a (p_ * 8) by omega])) hcd; rw [show p_ * 8 + i_ - p_ * 8 = i_ by omega, show p_ * 8 + i_ + 1 - max a (p_ * 8) = min (a + text.length) (p_ * 8 + (i_ + 1)) - max a (p_ * 8) by omega] at h3_; exact h3_), (by have hl_ := congrArg List.length hcd; simp only [List.length_append, List.length_replicate] at hl_; simp only [List.length_set]; omega), he_47, he_48, he_49, he_50, he_51, he_52, he_53, he_54, he_55, he_56, rfl, rfl, rfl⟩
      have hb2 : overTo text a (p_ * 8) u_27 (min (a + text.length) (p_ * 8 + 8) - max a (p_ * 8)) = bb := by rw [hb, show i_ = 8 by omega]
      refine jP (cB (dF h_43)) <| jz <| jj <| jj <| kA <| jB <| jE <| jK (jc 5 x_25 m_26 rfl he_35) <| jA (jF (v := iv id) he_32) <| jA (jF (v := nv p_) he_40) ?_
      refine jA (jF (v := .slice bba bbn bbc) he_41) <| jK (LO.toStr 0 bb rfl gM gZ ky rfl rfl) ?_
      refine jH rfl (jM [1, 1, 1] Tryz.call250 rfl (M_layBlock x_25 m_26 k_24 (by omega) (by omega) id ((p_ : Nat) : Int) bb (by omega) (by omega) (by omega)) rfl (fun _ _ => trivial)) ?_
      rintro _ _ ⟨_, ⟨x_67, m_68, e_65, k_66, rfl, rfl⟩, rfl⟩
      refine jH rfl (jm 5 x_67 m_68 rfl he_35 rfl rfl) ?_
      rintro _ _ rfl
      refine jD <| jk <| jB <| jE <| jA (jF (v := nv p_) he_40) <| jA (ji (c := ((p_ + 1 : Nat) : Int)) rfl rfl (wr (by omega))) <| jA (jG (v := iv ((p_ + 1 : Nat) : Int)) rfl) <| jD <| kH [0, 0, 0, 1, 1] (A := [rC x_67.a0 x_67.c0 m_68.s, rS x_67.a1 x_67.c1 m_68.r, rS x_67.a2 x_67.c2 m_68.w, bk b_2 99 zC, mb b_1 x_67 m_68]) rfl ?_
      refine ju (70 - (p_ + 1)) (by omega) ⟨(p_ + 1), x_67, m_68, (k_66.mono (by omega) (by omega)), (by omega), (by rw [show 130 - p_ = (130 - (p_ + 1)) + 1 by omega, MS.writeL, if_pos (by omega)] at hR; simp only [MS.blockKey, e_3, e_23, e_65, hb2] at hR; exact hR), he_32, he_33, he_34, he_35, he_36, he_37, he_38, he_39, rfl, rfl, rfl⟩
    rw [MS.writeL_stop (by omega)] at hR
    have hRE := hR.symm
    refine jP (cB (dF h_22)) <| jz <| jj <| jj <| kA <| jB <| jC <| jC <| jE <| jA (jF (v := iv ((a + text.length : Nat) : Int)) he_20) ?_
    refine jA (jF (v := iv n_7) he_19) <| jA (ke rfl rfl) <| jD <| jB ?_
    by_cases h_69 : n_7 < ((a + text.length : Nat) : Int)
    · refine jO (cB (dT h_69)) <| jr [mb b_1 x1 mm] 4 mixed (by simp) <| jh 0 rfl (jc 0 x1 mm rfl he_16) <| jI 1 rfl (jF (v := iv id) he_13) <| jI 3 rfl (jF (v := iv ((a + text.length : Nat) : Int)) he_20) <| jQ (i := 2) ?_
      refine jY rfl rfl (jM [] Tryz.call173 rfl (N_sKeyNum [105, 47] id [47, 115] (show List.length ([105, 47] : Str) ≤ 2 by decide) (by omega) (show List.length ([47, 115] : Str) ≤ 2 by decide) (by omega)) rfl (fun _ _ => trivial)) ?_
      rintro _ _ ⟨_, ⟨u_80, e_78, f_81, rfl, rfl⟩, rfl⟩
      refine ⟨(by simp), ?_⟩
      refine jQ (i := 4) ?_
      refine kF rfl (jM [0, 0, 0] Tryz.call100 rfl (N_sSetNum x1 mm hkmm (by omega) (by omega) u_80 ((a + text.length : Nat) : Int) (by omega) (by omega)) rfl (fun _ _ => trivial)) ?_
      rintro _ _ ⟨_, ⟨x_88, m_89, e_86, k_87, rfl, rfl⟩, rfl⟩
      refine jQ (i := 5) ?_
      refine jx rfl (jm 4 x_88 m_89 rfl he_16 rfl rfl) ?_
      rintro _ _ rfl
      refine jB <| jC <| jE <| jK (jc 4 x_88 m_89 rfl he_16) ?_
      refine jH rfl (jm 3 x_88 m_89 rfl he_17 rfl rfl) ?_
      rintro _ _ rfl
      refine jA (jG (v := iv 0) rfl) <| jD <| jB <| jL <| kB (.inl rfl) rfl (je (jc 3 x_88 m_89 rfl he_17) ⟨_, he_17⟩) (jN (v := iv 0) rfl) (tS 3 _) ?_
      exact ⟨x_88, m_89, 0, (by simp only [MS.writeFile, List.length_nil, Int.toNat_natCast, true_or, or_true, false_or, or_false, e_3, h_9, hat, h_10, h_11, h_22, hRE, h_69, e_78, e_86, SB]; (repeat (first | rw [if_pos (by omega)] | rw [if_neg (by omega)])); all_goals (first | rfl | simp only [SB, e_3, h_9, hat, h_10, h_11, h_22, hRE, h_69, e_78, e_86])), (k_87.mono (by omega) (by omega)), (by first | omega | (simp only [LE]; omega)), rfl, rfl⟩
    refine jP (cB (dF h_69)) <| jU <| jB <| jC <| jE <| jK (jc 4 x1 mm rfl he_16) ?_
    refine jH rfl (jm 3 x1 mm rfl he_17 rfl rfl) ?_
    rintro _ _ rfl
    refine jA (jG (v := iv 0) rfl) <| jD <| jB <| jL <| kB (.inl rfl) rfl (je (jc 3 x1 mm rfl he_17) ⟨_, he_17⟩) (jN (v := iv 0) rfl) (tS 3 _) ?_
    exact ⟨x1, mm, 0, (by simp only [MS.writeFile, List.length_nil, Int.toNat_natCast, true_or, or_true, false_or, or_false, e_3, h_9, hat, h_10, h_11, h_22, hRE, h_69, SB]; (repeat (first | rw [if_pos (by omega)] | rw [if_neg (by omega)])); all_goals (first | rfl | simp only [SB, e_3, h_9, hat, h_10, h_11, h_22, hRE, h_69])), (hkmm.mono (by omega) (by omega)), (by first | omega | (simp only [LE]; omega)), rfl, rfl⟩
  have h_9d := h_9
  simp only [Bool.and_eq_true, Bool.and_eq_false_iff, decide_eq_true_eq, decide_eq_false_iff_not] at h_9d
  refine jS (b := true) rfl rfl rfl (cB (cN h_9)) <| jS (b := true) rfl rfl rfl (cB (cN h_9)) <| jA (kG (v := .bool true) (cB (cN h_9)) rfl) <| jD <| jB <| jO (cB rfl) <| jC <| jE <| jK (jc 4 x_5 m_6 rfl rfl) ?_
  refine jH rfl (jm 3 x_5 m_6 rfl rfl rfl rfl) ?_
  rintro _ _ rfl
  refine jA (jG (v := iv 4) rfl) <| jD <| jB <| jL <| jW <| kB (.inl rfl) rfl (je (jc 3 x_5 m_6 rfl rfl) ⟨_, rfl⟩) (jN (v := iv 4) rfl) (tS 3 _) ?_
  exact ⟨x_5, m_6, 4, (by simp only [MS.writeFile, List.length_nil, Int.toNat_natCast, true_or, or_true, false_or, or_false, e_3, h_9, SB]; (repeat (first | rw [if_pos (by omega)] | rw [if_neg (by omega)])); all_goals (first | rfl | simp only [SB, e_3, h_9])), (k_4.mono (by omega) (by omega)), (by first | omega | (simp only [LE]; omega)), rfl, rfl⟩

theorem N_brought (x y : Nat) :
    Ct Tryz.prog 41 [.int .i64 ((x : Nat) : Int), .int .i64 0, .int .i64 ((y : Nat) : Int)] [] (fun _ => True) (fun v A' => v = .int .i64 ((min x y : Nat) : Int) ∧ A' = []) := by
  refine Ct.intro Tryz.func41 rfl Tryz.ntmps41 (lb rfl) fun w0 hpre => ?_
  refine jC <| jE <| jA (jG (v := iv 0) rfl) <| jD <| jB <| jC <| jC <| jE <| jA (jF (v := nv y) rfl) <| jA (jF (v := iv 0) rfl) ?_
  refine jA (jo rfl rfl) <| jA (jF (v := .bool (decide (((y : Nat) : Int) < 0))) rfl) ?_
  by_cases h_1 : ((y : Nat) : Int) < 0
  · refine jS (b := true) rfl rfl rfl (cB (dT h_1)) <| jS (b := true) rfl rfl rfl (cB (dT h_1)) <| jS (b := true) rfl rfl rfl (cB (dT h_1)) <| jA (kG (v := .bool true) (cB (dT h_1)) rfl) <| jD <| jB <| jO (cB rfl) <| jC <| jE <| jA (jF (v := iv 0) rfl) ?_
    refine jA (jG (v := iv 0) rfl) <| jD <| jB <| jL <| jW <| jR (.inl rfl) rfl (jN (v := iv 0) rfl) (List.nil_sublist _) ?_
    refine ⟨?_, rfl⟩
    exact congrArg (Value.int .i64) (by omega)
  refine jZ rfl rfl rfl (cB (dF h_1)) (ja (jf (jF (v := nv x) rfl))) ?_
  rintro _ _ ⟨rfl, rfl⟩
  refine jZ rfl rfl rfl (cB (dF h_1)) (ja (jf (jF (v := iv 0) rfl))) ?_
  rintro _ _ ⟨rfl, rfl⟩
  refine jZ rfl rfl rfl (cB (dF h_1)) (ja (jf (jo rfl rfl))) ?_
  rintro _ _ ⟨rfl, rfl⟩
  refine jA (jv (v := .bool (decide (((x : Nat) : Int) < 0))) (cB (dF h_1)) rfl) <| jD <| jB ?_
  by_cases h_2 : ((x : Nat) : Int) < 0
  · refine jO (cB (dT h_2)) <| jC <| jE <| jA (jF (v := iv 0) rfl) <| jA (jG (v := iv 0) rfl) <| jD <| jB <| jL <| jW <| jR (.inl rfl) rfl (jN (v := iv 0) rfl) (List.nil_sublist _) ?_
    refine ⟨?_, rfl⟩
    exact congrArg (Value.int .i64) (by omega)
  refine jP (cB (dF h_2)) <| jU <| jB <| jC <| jC <| jE <| jA (jF (v := nv x) rfl) <| jA (jF (v := nv y) rfl) <| jA (ke rfl rfl) <| jD ?_
  refine jB ?_
  by_cases h_3 : ((y : Nat) : Int) < ((x : Nat) : Int)
  · refine jO (cB (dT h_3)) <| jC <| jE <| jA (jF (v := nv y) rfl) <| jA (jG (v := nv y) rfl) <| jD <| jB <| jL <| jW <| jR (.inl rfl) rfl (jN (v := nv y) rfl) (List.nil_sublist _) ?_
    refine ⟨?_, rfl⟩
    exact congrArg (Value.int .i64) (by omega)
  refine jP (cB (dF h_3)) <| jU <| jB <| jC <| jE <| jA (jF (v := nv x) rfl) <| jA (jG (v := nv x) rfl) <| jD <| jB <| jL ?_
  refine jR (.inl rfl) rfl (jN (v := nv x) rfl) (List.nil_sublist _) ?_
  refine ⟨?_, rfl⟩
  exact congrArg (Value.int .i64) (by omega)

theorem M_cutFile (x : MA) (m : MS) {S T : Nat} (hk : m.ok S T) (hS : S ≤ 300000000) (hT : T ≤ 300000000) (id : Int) (n : Int) (hid : -9223372036854775808 ≤ id ∧ id ≤ 9223372036854775807) (hn : -9223372036854775808 ≤ n ∧ n ≤ 9223372036854775807) :
    Ct Tryz.prog 213 [mv x m, .int .i64 id, .int .i64 n] (mr x m) (fun _ => True) (fun v A' => ∃ x' m' r0, MS.cutFile m id n = (m', r0) ∧ m'.ok (S + 3) (T + 140) ∧ (0 ≤ r0 ∧ r0 ≤ 9) ∧ v = .tuple #[mv x' m', .int .i64 r0] ∧ A' = mr x' m') := by
  refine Ct.intro Tryz.func213 rfl Tryz.ntmps213 (lb rfl) fun w0 hpre => ?_
  refine jC <| jE ?_
  refine jH rfl (jy (cs := (mc x m)) rfl rfl) ?_
  rintro _ _ ⟨b_1, rfl, rfl⟩
  refine jH rfl (jn (z := zM) (cs := zC) gI rfl) ?_
  rintro _ _ ⟨b_2, rfl, rfl⟩
  refine jA (jG (v := iv 0) rfl) <| jD <| jB <| jC <| jE <| jK (jc 1 x m rfl rfl) <| jA (jF (v := iv id) rfl) ?_
  refine jH rfl (jM [2, 2, 2] Tryz.call248 rfl (M_sizeFile x m hk (by omega) (by omega) id (by omega)) rfl (fun _ _ => trivial)) ?_
  rintro _ _ ⟨_, ⟨x_5, m_6, n_7, e_3, k_4, f_8, rfl, rfl⟩, rfl⟩
  refine jA (jF (v := .tuple #[mv x_5 m_6, iv n_7]) rfl) <| jA (jb (v := mv x_5 m_6) rfl rfl) <| jA (jb (v := iv n_7) rfl rfl) ?_
  refine jH rfl (jm 4 x_5 m_6 rfl rfl rfl rfl) ?_
  rintro _ _ rfl
  refine jA (jG (v := iv n_7) rfl) <| jD <| jB <| jC <| jC <| jE <| jA (jF (v := iv n) rfl) <| jA (jF (v := iv n_7) rfl) ?_
  refine jH rfl (jM [] Tryz.call40 rfl (C_l01In n 0 n_7) rfl (fun _ _ => trivial)) ?_
  rintro _ _ ⟨_, ⟨rfl, rfl⟩, rfl⟩
  refine jA (kP rfl) <| jD <| jB ?_
  rcases Bool.eq_false_or_eq_true (decide (0 ≤ n) && decide (n ≤ n_7)) with h_9 | h_9
  · have h_9d := h_9
    simp only [Bool.and_eq_true, Bool.and_eq_false_iff, decide_eq_true_eq, decide_eq_false_iff_not] at h_9d
    obtain ⟨a, hat⟩ : ∃ a : Nat, n = ((a : Nat) : Int) := ⟨n.toNat, by omega⟩
    obtain ⟨Z, hZ⟩ : ∃ Z : Nat, n_7 = ((Z : Nat) : Int) := ⟨n_7.toNat, by omega⟩
    refine jP (cB (cN h_9)) <| jU <| jB <| jC <| jE <| jA (jF (v := nv a) (congrArg (Value.int .i64) hat)) <| jA (PO.quoN (c := ((a / 8 : Nat) : Int)) rfl rfl (by omega) (by omega) (by omega) (wr (by omega))) <| jA (jG (v := iv ((a / 8 : Nat) : Int)) rfl) <| jD <| jB ?_
    refine jC <| jC <| jE <| jA (jF (v := nv a) (congrArg (Value.int .i64) hat)) <| jA (PO.remN (c := ((a % 8 : Nat) : Int)) rfl rfl (by omega) (by omega) (by omega)) <| jA (ke rfl rfl) <| jD <| jB ?_
    by_cases h_10 : 0 < ((a % 8 : Nat) : Int)
    · refine jO (cB (dT h_10)) <| jC <| jE <| jA (jG (v := str []) rfl) <| jD <| jB <| jC <| jE <| jK (jc 4 x_5 m_6 rfl rfl) <| jA (jF (v := iv id) rfl) ?_
      refine jA (jF (v := iv ((a / 8 : Nat) : Int)) rfl) ?_
      refine jH rfl (jM [0, 0, 0] Tryz.call249 rfl (M_block x_5 m_6 k_4 (by omega) (by omega) id ((a / 8 : Nat) : Int) (by omega) (by omega)) rfl (fun _ _ => trivial)) ?_
      rintro _ _ ⟨_, ⟨x_13, m_14, u_15, e_11, k_12, f_16, rfl, rfl⟩, rfl⟩
      refine jA (jF (v := .tuple #[mv x_13 m_14, str u_15]) rfl) <| jA (jb (v := mv x_13 m_14) rfl rfl) <| jA (jb (v := str u_15) rfl rfl) ?_
      refine jH rfl (jm 4 x_13 m_14 rfl rfl rfl rfl) ?_
      rintro _ _ rfl
      refine jA (jG (v := str u_15) rfl) <| jD <| jB <| jC <| jr [mb b_1 x_13 m_14] 10 mixed (by simp) <| jh 0 rfl (jc 0 x_13 m_14 rfl rfl) <| jI 1 rfl (jF (v := iv id) rfl) <| jI 2 rfl (jF (v := iv ((a / 8 : Nat) : Int)) rfl) <| jI 3 rfl (jF (v := str u_15) rfl) <| jI 4 rfl (jF (v := nv a) (congrArg (Value.int .i64) hat)) ?_
      refine jI 5 rfl (PO.remN (c := ((a % 8 : Nat) : Int)) rfl rfl (by omega) (by omega) (by omega)) <| jI 6 rfl (jF (v := str u_15) rfl) <| jI 7 rfl (kV ky rfl) <| jQ (i := 8) ?_
      refine jY rfl rfl (jM [] Tryz.call41 rfl (N_brought (a % 8) u_15.length) rfl (fun _ _ => trivial)) ?_
      rintro _ _ ⟨_, ⟨rfl, rfl⟩, rfl⟩
      refine ⟨(by simp), ?_⟩
      refine jI 9 rfl (PO.sliceSh (j := (min (a % 8) u_15.length)) ky rfl rfl (by omega)) <| jQ (i := 10) ?_
      refine kF rfl (jM [0, 0, 0] Tryz.call250 rfl (M_layBlock x_13 m_14 k_12 (by omega) (by omega) id ((a / 8 : Nat) : Int) (u_15.take (min (a % 8) u_15.length)) (by omega) (by omega) (by first | omega | (simp only [LE]; omega))) rfl (fun _ _ => trivial)) ?_
      rintro _ _ ⟨_, ⟨x_23, m_24, e_21, k_22, rfl, rfl⟩, rfl⟩
      refine jQ (i := 11) ?_
      refine jx rfl (jm 4 x_23 m_24 rfl rfl rfl rfl) ?_
      rintro _ _ rfl
      refine jB <| jE <| jA (jF (v := iv ((a / 8 : Nat) : Int)) rfl) <| jA (ji (c := (((a / 8) + 1 : Nat) : Int)) rfl rfl (wr (by omega))) <| jA (jG (v := iv (((a / 8) + 1 : Nat) : Int)) rfl) <| jD <| jB <| jC <| jg <| kC (fun k_ e_ L_ => ∃ p_ : Nat, ∃ x1 : MA, ∃ mm : MS, (mm.ok (S + 1) (T + 4 + p_)) ∧ (p_ ≤ 126) ∧ (MS.cutL id Z (130 - p_) p_ mm = MS.cutL id Z (130 - ((a / 8) + 1)) ((a / 8) + 1) m_24) ∧ e_ 1 = iv id ∧ e_ 2 = nv a ∧ e_ 3 = .pointer (some ⟨b_1, 0, none⟩) ∧ e_ 6 = .pointer (some ⟨b_2, 0, none⟩) ∧ e_ 7 = iv 0 ∧ e_ 8 = nv Z ∧ e_ 9 = nv p_ ∧ L_ = [rC x1.a0 x1.c0 mm.s, rS x1.a1 x1.c1 mm.r, rS x1.a2 x1.c2 mm.w, bk b_2 99 zC, mb b_1 x1 mm] ∧ k_ = 130 - p_) _ ⟨((a / 8) + 1), x_23, m_24, (k_22.mono (by omega) (by omega)), (by omega), rfl, rfl, (congrArg (Value.int .i64) hat), rfl, rfl, rfl, (congrArg (Value.int .i64) hZ), rfl, rfl, rfl⟩ ?_
      rintro _ e_25 _ ⟨p_, x1, mm, hkmm, hp0, hR, he_26, he_27, he_28, he_29, he_30, he_31, he_32, rfl, rfl⟩
      refine jC <| jC <| jE <| jA (jF (v := nv p_) he_32) <| jA (PO.mul (c := ((p_ * 8 : Nat) : Int)) rfl rfl (wr (by omega))) <| jA (jF (v := nv Z) he_31) <| jA (jo rfl rfl) <| jD <| jB ?_
      by_cases h_33 : ((p_ * 8 : Nat) : Int) < ((Z : Nat) : Int)
      · refine jO (cB (dT h_33)) <| jU <| jB <| jg <| jC <| jr [mb b_1 x1 mm] 4 mixed (by simp) <| jh 0 rfl (jc 0 x1 mm rfl he_28) <| jI 1 rfl (jF (v := iv id) he_26) <| jI 2 rfl (jF (v := nv p_) he_32) <| jQ (i := 3) ?_
        refine jY rfl rfl (jM [] Tryz.call251 rfl (N_l07Block id ((p_ : Nat) : Int) (by omega) (by omega)) rfl (fun _ _ => trivial)) ?_
        rintro _ _ ⟨_, ⟨u_40, e_38, f_41, rfl, rfl⟩, rfl⟩
        refine ⟨(by simp), ?_⟩
        refine jQ (i := 4) ?_
        refine kF rfl (jM [0, 0, 0] Tryz.call171 rfl (N_sLayNil x1 mm hkmm (by omega) (by omega) u_40 (by omega)) rfl (fun _ _ => trivial)) ?_
        rintro _ _ ⟨_, ⟨x_48, m_49, e_46, k_47, rfl, rfl⟩, rfl⟩
        refine jQ (i := 5) ?_
        refine jx rfl (jm 4 x_48 m_49 rfl he_28 rfl rfl) ?_
        rintro _ _ rfl
        refine jB <| jE <| jA (jF (v := nv p_) he_32) <| jA (ji (c := ((p_ + 1 : Nat) : Int)) rfl rfl (wr (by omega))) <| jA (jG (v := iv ((p_ + 1 : Nat) : Int)) rfl) <| jD <| jk <| kH [0, 0, 0, 0, 0] (A := [rC x_48.a0 x_48.c0 m_49.s, rS x_48.a1 x_48.c1 m_49.r, rS x_48.a2 x_48.c2 m_49.w, bk b_2 99 zC, mb b_1 x_48 m_49]) rfl ?_
        refine ju (130 - (p_ + 1)) (by omega) ⟨(p_ + 1), x_48, m_49, (k_47.mono (by omega) (by omega)), (by omega), (by rw [show 130 - p_ = (130 - (p_ + 1)) + 1 by omega, MS.cutL, if_pos (by omega)] at hR; simp only [MS.blockKey, e_3, e_11, e_21, e_38, e_46] at hR; exact hR), he_26, he_27, he_28, he_29, he_30, he_31, rfl, rfl, rfl⟩
      rw [MS.cutL_stop (by omega)] at hR
      have hRE := hR.symm
      refine jP (cB (dF h_33)) <| jz <| jj <| jj <| kA <| jB <| jC <| jr [mb b_1 x1 mm] 4 mixed (by simp) <| jh 0 rfl (jc 0 x1 mm rfl he_28) <| jI 1 rfl (jF (v := iv id) he_26) ?_
      refine jI 3 rfl (jF (v := nv a) he_27) <| jQ (i := 2) ?_
      refine jY rfl rfl (jM [] Tryz.call173 rfl (N_sKeyNum [105, 47] id [47, 115] (show List.length ([105, 47] : Str) ≤ 2 by decide) (by omega) (show List.length ([47, 115] : Str) ≤ 2 by decide) (by omega)) rfl (fun _ _ => trivial)) ?_
      rintro _ _ ⟨_, ⟨u_60, e_58, f_61, rfl, rfl⟩, rfl⟩
      refine ⟨(by simp), ?_⟩
      refine jQ (i := 4) ?_
      refine kF rfl (jM [0, 0, 0] Tryz.call100 rfl (N_sSetNum x1 mm hkmm (by omega) (by omega) u_60 ((a : Nat) : Int) (by omega) (by omega)) rfl (fun _ _ => trivial)) ?_
      rintro _ _ ⟨_, ⟨x_68, m_69, e_66, k_67, rfl, rfl⟩, rfl⟩
      refine jQ (i := 5) ?_
      refine kF rfl (jm 3 x_68 m_69 rfl he_29 rfl rfl) ?_
      rintro _ _ rfl
      refine jI 6 rfl (jG (v := iv 0) rfl) <| kI (by kernel_rfl) <| jB <| jL <| kB (.inl rfl) rfl (je (jc 3 x_68 m_69 rfl he_29) ⟨_, he_29⟩) (jN (v := iv 0) rfl) (tS 3 _) ?_
      exact ⟨x_68, m_69, 0, (by simp only [MS.cutFile, Int.toNat_natCast, true_or, or_true, false_or, or_false, MS.blockKey, e_3, h_9, hat, hZ, h_10, e_11, e_21, h_33, hRE, e_58, e_66, SB]; (repeat (first | rw [if_pos (by omega)] | rw [if_neg (by omega)])); all_goals (first | rfl | simp only [SB, e_3, h_9, hat, hZ, h_10, e_11, e_21, h_33, hRE, e_58, e_66])), (k_67.mono (by omega) (by omega)), (by first | omega | (simp only [LE]; omega)), rfl, rfl⟩
    refine jP (cB (dF h_10)) <| jU <| jB <| jC <| jg <| kC (fun k_ e_ L_ => ∃ p_ : Nat, ∃ x1 : MA, ∃ mm : MS, (mm.ok (S + 1) (T + 4 + p_)) ∧ (p_ ≤ 126) ∧ (MS.cutL id Z (130 - p_) p_ mm = MS.cutL id Z (130 - (a / 8)) (a / 8) m_6) ∧ e_ 1 = iv id ∧ e_ 2 = nv a ∧ e_ 3 = .pointer (some ⟨b_1, 0, none⟩) ∧ e_ 6 = .pointer (some ⟨b_2, 0, none⟩) ∧ e_ 7 = iv 0 ∧ e_ 8 = nv Z ∧ e_ 9 = nv p_ ∧ L_ = [rC x1.a0 x1.c0 mm.s, rS x1.a1 x1.c1 mm.r, rS x1.a2 x1.c2 mm.w, bk b_2 99 zC, mb b_1 x1 mm] ∧ k_ = 130 - p_) _ ⟨(a / 8), x_5, m_6, (k_4.mono (by omega) (by omega)), (by omega), rfl, rfl, (congrArg (Value.int .i64) hat), rfl, rfl, rfl, (congrArg (Value.int .i64) hZ), rfl, rfl, rfl⟩ ?_
    rintro _ e_70 _ ⟨p_, x1, mm, hkmm, hp0, hR, he_71, he_72, he_73, he_74, he_75, he_76, he_77, rfl, rfl⟩
    refine jC <| jC <| jE <| jA (jF (v := nv p_) he_77) <| jA (PO.mul (c := ((p_ * 8 : Nat) : Int)) rfl rfl (wr (by omega))) <| jA (jF (v := nv Z) he_76) <| jA (jo rfl rfl) <| jD <| jB ?_
    by_cases h_78 : ((p_ * 8 : Nat) : Int) < ((Z : Nat) : Int)
    · refine jO (cB (dT h_78)) <| jU <| jB <| jg <| jC <| jr [mb b_1 x1 mm] 4 mixed (by simp) <| jh 0 rfl (jc 0 x1 mm rfl he_73) <| jI 1 rfl (jF (v := iv id) he_71) <| jI 2 rfl (jF (v := nv p_) he_77) <| jQ (i := 3) ?_
      refine jY rfl rfl (jM [] Tryz.call251 rfl (N_l07Block id ((p_ : Nat) : Int) (by omega) (by omega)) rfl (fun _ _ => trivial)) ?_
      rintro _ _ ⟨_, ⟨u_85, e_83, f_86, rfl, rfl⟩, rfl⟩
      refine ⟨(by simp), ?_⟩
      refine jQ (i := 4) ?_
      refine kF rfl (jM [0, 0, 0] Tryz.call171 rfl (N_sLayNil x1 mm hkmm (by omega) (by omega) u_85 (by omega)) rfl (fun _ _ => trivial)) ?_
      rintro _ _ ⟨_, ⟨x_93, m_94, e_91, k_92, rfl, rfl⟩, rfl⟩
      refine jQ (i := 5) ?_
      refine jx rfl (jm 4 x_93 m_94 rfl he_73 rfl rfl) ?_
      rintro _ _ rfl
      refine jB <| jE <| jA (jF (v := nv p_) he_77) <| jA (ji (c := ((p_ + 1 : Nat) : Int)) rfl rfl (wr (by omega))) <| jA (jG (v := iv ((p_ + 1 : Nat) : Int)) rfl) <| jD <| jk <| kH [0, 0, 0, 0, 0] (A := [rC x_93.a0 x_93.c0 m_94.s, rS x_93.a1 x_93.c1 m_94.r, rS x_93.a2 x_93.c2 m_94.w, bk b_2 99 zC, mb b_1 x_93 m_94]) rfl ?_
      refine ju (130 - (p_ + 1)) (by omega) ⟨(p_ + 1), x_93, m_94, (k_92.mono (by omega) (by omega)), (by omega), (by rw [show 130 - p_ = (130 - (p_ + 1)) + 1 by omega, MS.cutL, if_pos (by omega)] at hR; simp only [MS.blockKey, e_3, e_83, e_91] at hR; exact hR), he_71, he_72, he_73, he_74, he_75, he_76, rfl, rfl, rfl⟩
    rw [MS.cutL_stop (by omega)] at hR
    have hRE := hR.symm
    refine jP (cB (dF h_78)) <| jz <| jj <| jj <| kA <| jB <| jC <| jr [mb b_1 x1 mm] 4 mixed (by simp) <| jh 0 rfl (jc 0 x1 mm rfl he_73) <| jI 1 rfl (jF (v := iv id) he_71) ?_
    refine jI 3 rfl (jF (v := nv a) he_72) <| jQ (i := 2) ?_
    refine jY rfl rfl (jM [] Tryz.call173 rfl (N_sKeyNum [105, 47] id [47, 115] (show List.length ([105, 47] : Str) ≤ 2 by decide) (by omega) (show List.length ([47, 115] : Str) ≤ 2 by decide) (by omega)) rfl (fun _ _ => trivial)) ?_
    rintro _ _ ⟨_, ⟨u_105, e_103, f_106, rfl, rfl⟩, rfl⟩
    refine ⟨(by simp), ?_⟩
    refine jQ (i := 4) ?_
    refine kF rfl (jM [0, 0, 0] Tryz.call100 rfl (N_sSetNum x1 mm hkmm (by omega) (by omega) u_105 ((a : Nat) : Int) (by omega) (by omega)) rfl (fun _ _ => trivial)) ?_
    rintro _ _ ⟨_, ⟨x_113, m_114, e_111, k_112, rfl, rfl⟩, rfl⟩
    refine jQ (i := 5) ?_
    refine kF rfl (jm 3 x_113 m_114 rfl he_74 rfl rfl) ?_
    rintro _ _ rfl
    refine jI 6 rfl (jG (v := iv 0) rfl) <| kI (by kernel_rfl) <| jB <| jL <| kB (.inl rfl) rfl (je (jc 3 x_113 m_114 rfl he_74) ⟨_, he_74⟩) (jN (v := iv 0) rfl) (tS 3 _) ?_
    exact ⟨x_113, m_114, 0, (by simp only [MS.cutFile, Int.toNat_natCast, true_or, or_true, false_or, or_false, MS.blockKey, e_3, h_9, hat, hZ, h_10, h_78, hRE, e_103, e_111, SB]; (repeat (first | rw [if_pos (by omega)] | rw [if_neg (by omega)])); all_goals (first | rfl | simp only [SB, e_3, h_9, hat, hZ, h_10, h_78, hRE, e_103, e_111])), (k_112.mono (by omega) (by omega)), (by first | omega | (simp only [LE]; omega)), rfl, rfl⟩
  have h_9d := h_9
  simp only [Bool.and_eq_true, Bool.and_eq_false_iff, decide_eq_true_eq, decide_eq_false_iff_not] at h_9d
  refine jO (cB (cN h_9)) <| jC <| jE <| jK (jc 4 x_5 m_6 rfl rfl) ?_
  refine jH rfl (jm 3 x_5 m_6 rfl rfl rfl rfl) ?_
  rintro _ _ rfl
  refine jA (jG (v := iv 4) rfl) <| jD <| jB <| jL <| jW <| kB (.inl rfl) rfl (je (jc 3 x_5 m_6 rfl rfl) ⟨_, rfl⟩) (jN (v := iv 4) rfl) (tS 3 _) ?_
  exact ⟨x_5, m_6, 4, (by simp only [MS.cutFile, Int.toNat_natCast, true_or, or_true, false_or, or_false, MS.blockKey, e_3, h_9, SB]; (repeat (first | rw [if_pos (by omega)] | rw [if_neg (by omega)])); all_goals (first | rfl | simp only [SB, e_3, h_9])), (k_4.mono (by omega) (by omega)), (by first | omega | (simp only [LE]; omega)), rfl, rfl⟩

end Go.Proofs.YtghfijncihbojaaGreat

set_option linter.unusedSimpArgs false
set_option linter.unusedVariables false
set_option linter.unnecessarySimpa false
namespace Go.Proofs.YtghfijncihbojaaGreat
open Go Go.RowKit

/-- A call; what it is answered. -/
structure CL where
  kind : Int
  name : Str
  to_ : Str
  a : Int
  b : Int
  text : Str
structure AN where
  code : Int
  n : Int
  text : Str
structure CL.ok (c : CL) (B : Nat) : Prop where
  h1 : -9223372036854775808 ≤ c.kind ∧ c.kind ≤ 9223372036854775807
  h2 : -9223372036854775808 ≤ c.a ∧ c.a ≤ 9223372036854775807
  h3 : -9223372036854775808 ≤ c.b ∧ c.b ≤ 9223372036854775807
  h4 : c.name.length ≤ B
  h5 : c.to_.length ≤ B
  h6 : c.text.length ≤ B
def bro (x : Int) (y : Nat) : Nat := min x.toNat y
theorem bro_le (x : Int) (y : Nat) : bro x y ≤ y := Nat.min_le_right _ _
end Go.Proofs.YtghfijncihbojaaGreat

set_option linter.unusedSimpArgs false
set_option linter.unusedVariables false
set_option linter.unnecessarySimpa false
namespace Go.Proofs.YtghfijncihbojaaGreat
open Go Go.RowKit

def callOk (c : CL) : Bool := decide ((1 ≤ c.kind ∧ c.kind ≤ 22) ∧ (c.name.length : Int) ≤ 20 ∧ (c.to_.length : Int) ≤ 20 ∧ (c.text.length : Int) ≤ 64)
def joinL : List Str → Str → Str
  | [], out => out
  | x :: l, out => joinL l (out ++ (x ++ [32]))
def joinD : List Int → Str → Str
  | [], out => out
  | x :: l, out => joinD l (out ++ (dec x ++ [32]))
theorem dropAcc_ok {n k : Nat} : ∀ (l out : List Str), okL n k out → (∀ x ∈ l, x.length ≤ 1048576) → out.length + l.length ≤ n → k = 0 → okL n k (dropAcc 2 l out)
  | [], out, h, _, _, _ => h
  | x :: l, out, h, hx, hn, hk => by
    unfold dropAcc
    refine dropAcc_ok l _ ⟨by simp only [List.length_append, List.length_cons, List.length_nil] at *; omega, fun j hj => ?_⟩ (fun y hy => hx y (List.mem_cons_of_mem _ hy)) (by simp only [List.length_append, List.length_cons, List.length_nil] at *; omega) hk
    subst hk
    refine ⟨Nat.zero_le _, ?_⟩
    by_cases hjo : j < out.length
    · rw [List.getD_eq_getElem?_getD, List.getElem?_append_left hjo, ← List.getD_eq_getElem?_getD]
      exact (h.2 j hjo).2
    · simp only [List.length_append, List.length_cons, List.length_nil] at hj
      rw [show j = out.length by omega, List.getD_eq_getElem?_getD, List.getElem?_append_right (Nat.le_refl _), Nat.sub_self]
      have := hx x (List.mem_cons_self ..)
      simp only [List.getElem?_cons_zero, Option.getD_some, List.length_drop]
      omega
theorem names_ok {S T : Nat} {m m' : MS} {l : List Str} (h : m.ok S T) (e : m.names = (m', l)) : okL S 0 l := by
  unfold MS.names at e
  rcases hu : m.under ([110, 47] : Str) with ⟨m1, k⟩
  rw [hu] at e
  simp only [Prod.mk.injEq] at e
  obtain ⟨rfl, rfl⟩ := e
  have hk : k = keysUnder m.s ([110, 47] : Str) := (congrArg Prod.snd hu).symm
  have h1 := keysUnder_ok h ([110, 47] : Str)
  rw [← hk] at h1
  refine dropAcc_ok k [] ⟨by simp, fun j hj => by simp at hj⟩ (fun x hx => ?_) (by simpa using h1.1) rfl
  obtain ⟨j, hj, rfl⟩ := List.getElem_of_mem hx
  have := (h1.2 j hj).2
  rwa [List.getD_eq_getElem?_getD, List.getElem?_eq_getElem hj] at this
theorem kidsL_ok {parent : Int} : ∀ (l : List Str) (m m' : MS) (out r : List Int), (∀ x ∈ out, 0 ≤ x ∧ x ≤ 999) → MS.kidsL parent l m out = (m', r) → ∀ x ∈ r, 0 ≤ x ∧ x ≤ 999
  | [], m, m', out, r, h, e => by
    simp only [MS.kidsL, Prod.mk.injEq] at e
    rw [← e.2]; exact h
  | k :: l, m, m', out, r, h, e => by
    unfold MS.kidsL at e
    split at e
    · rcases hn : m.num k with ⟨m1, n⟩
      rw [hn] at e
      simp only at e
      split at e
      · refine kidsL_ok l _ _ _ _ (fun x hx => ?_) e
        rcases List.mem_append.1 hx with hx | hx
        · exact h x hx
        · simp only [List.mem_cons, List.not_mem_nil, or_false] at hx
          rw [hx]; exact numOf_lo _
      · exact kidsL_ok l _ _ _ _ h e
    · exact kidsL_ok l _ _ _ _ h e
theorem kids_ok {m m' : MS} {parent : Int} {l : List Int} (e : m.kids parent = (m', l)) : ∀ x ∈ l, 0 ≤ x ∧ x ≤ 999 := by
  unfold MS.kids at e
  rcases hu : m.under ([114, 47] : Str) with ⟨m1, k⟩
  rw [hu] at e
  exact kidsL_ok k m1 m' [] l (by simp) e
namespace MS
def doFile (m : MS) (c : CL) : MS × AN :=
  match m.fileOf c.name with
  | (m, id) => if id = 0 then (m, ⟨2, 0, []⟩) else
    if c.kind = 6 then match m.readFile id c.a c.b with | (m, t) => (m, ⟨0, 0, t⟩) else
    if c.kind = 7 then match m.writeFile id c.a c.text with | (m, k) => (m, ⟨k, 0, []⟩) else
    match m.cutFile id c.a with | (m, k) => (m, ⟨k, 0, []⟩)
def doNames (m : MS) : MS × AN := match m.names with | (m, l) => (m, ⟨0, 0, joinL l []⟩)
def doProc (m : MS) (proc : Int) (c : CL) : MS × AN :=
  if c.kind = 12 then match m.spawn proc with | (m, id, k) => (if k = 0 then (m.forkPages proc id, ⟨k, id, []⟩) else (m, ⟨k, id, []⟩)) else
  if c.kind = 13 then match m.endProc proc c.a with | (m, k) => (if k = 0 then (m.dropPages proc, ⟨k, 0, []⟩) else (m, ⟨k, 0, []⟩)) else
  if c.kind = 14 then match m.reap proc c.a with | (m, n, k) => (m, ⟨k, n, []⟩) else
  match m.kids proc with | (m, l) => (m, ⟨0, 0, joinD l []⟩)
def doKind (m : MS) (proc : Int) (c : CL) : MS × AN :=
  if c.kind = 1 then match m.makeName c.name with | (m, n, k) => (m, ⟨k, n, []⟩) else
  if c.kind = 2 then match m.linkName c.name c.to_ with | (m, k) => (m, ⟨k, 0, []⟩) else
  if c.kind = 3 then match m.unlinkName c.name with | (m, k) => (m, ⟨k, 0, []⟩) else
  if c.kind = 4 then match m.renameName c.name c.to_ with | (m, k) => (m, ⟨k, 0, []⟩) else
  if c.kind = 5 then m.doNames else
  if c.kind = 6 then m.doFile c else
  if c.kind = 7 then m.doFile c else
  if c.kind = 8 then m.doFile c else
  if c.kind = 9 then match m.makePipe with | (m, n, k) => (m, ⟨k, n, []⟩) else
  if c.kind = 10 then match m.putPipe c.a c.text with | (m, k) => (m, ⟨k, 0, []⟩) else
  if c.kind = 11 then match m.takePipe c.a with | (m, t, k) => (m, ⟨k, 0, t⟩) else
  if c.kind = 16 then match m.send c.a c.b with | (m, k) => (m, ⟨k, 0, []⟩) else
  if c.kind = 17 then match m.takeSignal proc with | (m, n, k) => (m, ⟨k, n, []⟩) else
  if c.kind = 18 then match m.setTimer proc c.a with | (m, k) => (m, ⟨k, 0, []⟩) else
  if c.kind = 19 then match m.tick c.a with | (m, n, k) => (m, ⟨k, n, []⟩) else
  if c.kind = 20 then match m.storePage proc c.a c.text with | (m, k) => (m, ⟨k, 0, []⟩) else
  if c.kind = 21 then match m.loadPage proc c.a with | (m, t, k) => (m, ⟨k, 0, t⟩) else
  if c.kind = 22 then match m.putOut c.text with | (m, k) => (m, ⟨k, 0, []⟩) else
  m.doProc proc c
def doCall (m : MS) (proc : Int) (c : CL) : MS × AN :=
  match m.state proc with
  | (m, s) => if s = 1 then (if callOk c = true then m.doKind proc c else (m, ⟨4, 0, []⟩)) else (m, ⟨2, 0, []⟩)
end MS
end Go.Proofs.YtghfijncihbojaaGreat
