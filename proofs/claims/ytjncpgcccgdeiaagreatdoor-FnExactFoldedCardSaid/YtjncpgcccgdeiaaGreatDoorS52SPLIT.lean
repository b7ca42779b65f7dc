/-
  Texts of the walk, joined: what each one proves stands at its theorems.
-/
import Derived.Test.YtjncpgcccgdeiaaGreatDoorAu
import Derived.Test.YtjncpgcccgdeiaaGreatDoorDatM
import Derived.Lib.Strings
import Derived.Test.YtjncpgcccgdeiaaGreatDoorDatA
import Derived.Lib.AppendStr
import Derived.Lib.Builder
import Derived.Laws.Externs
import Derived.Lib.UnsafeStr
import Derived.Lib.Bytealg
import Derived.Shelf.Small.Wraps
import Derived.Shelf.Strings.Prefix
import Derived.Shelf.Strings.Search2
import Derived.Shelf.Strings.Search3
import Derived.Shelf.Strings.Count
import Derived.Test.YtjncpgcccgdeiaaGreatDoorProg
set_option linter.unusedSimpArgs false
set_option linter.unusedVariables false
set_option linter.unnecessarySimpa false
namespace Go.Proofs.YtjncpgcccgdeiaaGreatDoor
open Go Go.RowKit
attribute [local irreducible] JL JC JQ JO LO PO JA JX Ct

theorem N_figure (k : Nat) (h : k < 16) :
    Ct Tryz.prog 133 [.int .i64 ((k : Nat) : Int)] [] (fun _ => True) (fun v A' => v = .int .u8 (((hexFig k).toNat : Nat) : Int) ∧ A' = []) := by
  refine Ct.intro Tryz.func133 rfl Tryz.ntmps133 (lb rfl) fun w0 hpre => ?_
  refine jC <| jF <| jA (jG (v := .int .u8 0) rfl) <| jE <| jB <| jC <| jC <| jF <| jA (jD (v := nv k) rfl) <| jA (jl rfl rfl) ?_
  refine jE <| jB ?_
  by_cases h_1 : ((k : Nat) : Int) < 10
  · refine jW (cB (dT h_1)) <| jC <| jF <| jA (jD (v := nv k) rfl) <| jA (jc (c := ((48 + k : Nat) : Int)) rfl rfl (wr (by omega))) <| jA (PO.convI (c := (((UInt8.ofNat (48 + k)).toNat : Nat) : Int)) gC kv rfl (wr8u (c := UInt8.ofNat (48 + k)) (by omega) (by rw [Int.toNat_natCast]))) <| jA (jG (v := .int .u8 (((UInt8.ofNat (48 + k)).toNat : Nat) : Int)) rfl) <| jE <| jB <| jN ?_
    refine jX <| jV (.inl rfl) rfl (jJ (v := .int .u8 (((UInt8.ofNat (48 + k)).toNat : Nat) : Int)) rfl) (List.nil_sublist _) ?_
    refine ⟨?_, rfl⟩
    exact congrArg (fun q : Nat => Value.int .u8 (q : Int)) (by first | (rw [hexFig_lo (by omega), UInt8.toNat_ofNat_of_lt' (by show _ < 256; omega)]) | (rw [hexFig_hi (by omega) (by omega), UInt8.toNat_ofNat_of_lt' (by show _ < 256; omega)]; omega))
  refine jR (cB (dF h_1)) <| jT <| jB <| jC <| jF <| jA (jD (v := nv k) rfl) <| jA (jc (c := ((97 + k : Nat) : Int)) rfl rfl (wr (by omega))) <| jA (kZ (c := ((97 + k : Nat) : Int) - 10) rfl rfl (wr (by omega))) <| jA (PO.convI (c := (((UInt8.ofNat (((97 + k : Nat) : Int) - 10).toNat).toNat : Nat) : Int)) gC kv rfl (wr8u (by omega) rfl)) <| jA (jG (v := .int .u8 (((UInt8.ofNat (((97 + k : Nat) : Int) - 10).toNat).toNat : Nat) : Int)) rfl) ?_
  refine jE <| jB <| jN <| jV (.inl rfl) rfl (jJ (v := .int .u8 (((UInt8.ofNat (((97 + k : Nat) : Int) - 10).toNat).toNat : Nat) : Int)) rfl) (List.nil_sublist _) ?_
  refine ⟨?_, rfl⟩
  exact congrArg (fun q : Nat => Value.int .u8 (q : Int)) (by first | (rw [hexFig_lo (by omega), UInt8.toNat_ofNat_of_lt' (by show _ < 256; omega)]) | (rw [hexFig_hi (by omega) (by omega), UInt8.toNat_ofNat_of_lt' (by show _ < 256; omega)]; omega))

theorem N_value (c : UInt8) :
    Ct Tryz.prog 140 [.int .u8 ((c.toNat : Nat) : Int)] [] (fun _ => True) (fun v A' => ∃ r0, hexV c = r0 ∧ (-1 ≤ r0 ∧ r0 ≤ 15) ∧ v = .int .i64 r0 ∧ A' = []) := by
  have hc8 := UInt8.toNat_lt c
  refine Ct.intro Tryz.func140 rfl Tryz.ntmps140 (lb rfl) fun w0 hpre => ?_
  refine jC <| jF <| jA (jG (v := iv 0) rfl) <| jE <| jB <| jC <| jC <| jF <| jA (jD (v := .int .u8 ((c.toNat : Nat) : Int)) rfl) <| jA (PO.geq rfl rfl) ?_
  refine jA (jD (v := .bool (decide (48 ≤ ((c.toNat : Nat) : Int)))) rfl) ?_
  by_cases h_1 : 48 ≤ ((c.toNat : Nat) : Int)
  · refine jM rfl rfl rfl (cB (dT h_1)) (jP (jU (jD (v := .int .u8 ((c.toNat : Nat) : Int)) rfl))) ?_
    rintro _ _ ⟨rfl, rfl⟩
    refine jM rfl rfl rfl (cB (dT h_1)) (jP (jU (PO.leq rfl rfl))) ?_
    rintro _ _ ⟨rfl, rfl⟩
    refine jA (jh (v := .bool (decide (((c.toNat : Nat) : Int) ≤ 57))) (cB (dT h_1)) rfl) <| jE <| jB ?_
    by_cases h_2 : ((c.toNat : Nat) : Int) ≤ 57
    · refine jW (cB (dT h_2)) <| jC <| jF <| jA (jD (v := .int .u8 ((c.toNat : Nat) : Int)) rfl) <| jA (PO.convI (c := ((c.toNat : Nat) : Int)) kv gC rfl (wr (by omega))) <| jA (kZ (c := ((c.toNat : Nat) : Int) - 48) rfl rfl (wr (by omega))) <| jA (jG (v := iv (((c.toNat : Nat) : Int) - 48)) rfl) <| jE <| jB <| jN ?_
      refine jX <| jV (.inl rfl) rfl (jJ (v := iv (((c.toNat : Nat) : Int) - 48)) rfl) (List.nil_sublist _) ?_
      refine ⟨_, ?_, ?_, rfl, rfl⟩
      · first | exact hexV_a (by omega) (by omega) | exact hexV_b (by omega) (by omega) | exact hexV_c (by omega) (by omega)
      omega
    refine jR (cB (dF h_2)) <| jT <| jB <| jC <| jC <| jF <| jA (jD (v := .int .u8 ((c.toNat : Nat) : Int)) rfl) <| jA (PO.geq rfl rfl) <| jA (jD (v := .bool (decide (97 ≤ ((c.toNat : Nat) : Int)))) rfl) ?_
    by_cases h_3 : 97 ≤ ((c.toNat : Nat) : Int)
    · refine jM rfl rfl rfl (cB (dT h_3)) (jP (jU (jD (v := .int .u8 ((c.toNat : Nat) : Int)) rfl))) ?_
      rintro _ _ ⟨rfl, rfl⟩
      refine jM rfl rfl rfl (cB (dT h_3)) (jP (jU (PO.leq rfl rfl))) ?_
      rintro _ _ ⟨rfl, rfl⟩
      refine jA (jh (v := .bool (decide (((c.toNat : Nat) : Int) ≤ 102))) (cB (dT h_3)) rfl) <| jE <| jB ?_
      by_cases h_4 : ((c.toNat : Nat) : Int) ≤ 102
      · refine jW (cB (dT h_4)) <| jC <| jF <| jA (jD (v := .int .u8 ((c.toNat : Nat) : Int)) rfl) <| jA (PO.convI (c := ((c.toNat : Nat) : Int)) kv gC rfl (wr (by omega))) <| jA (kZ (c := ((c.toNat : Nat) : Int) - 97) rfl rfl (wr (by omega))) <| jA (jc (c := (((c.toNat : Nat) : Int) - 97) + 10) rfl rfl (wr (by omega))) <| jA (jG (v := iv ((((c.toNat : Nat) : Int) - 97) + 10)) rfl) <| jE <| jB ?_
        refine jN <| jX <| jV (.inl rfl) rfl (jJ (v := iv ((((c.toNat : Nat) : Int) - 97) + 10)) rfl) (List.nil_sublist _) ?_
        refine ⟨_, ?_, ?_, rfl, rfl⟩
        · first | exact hexV_a (by omega) (by omega) | exact hexV_b (by omega) (by omega) | exact hexV_c (by omega) (by omega)
        omega
      refine jR (cB (dF h_4)) <| jT <| jB <| jC <| jF <| jA (jG (v := iv (-1)) rfl) <| jE <| jB <| jN <| jV (.inl rfl) rfl (jJ (v := iv (-1)) rfl) (List.nil_sublist _) ?_
      refine ⟨_, ?_, ?_, rfl, rfl⟩
      · first | exact hexV_a (by omega) (by omega) | exact hexV_b (by omega) (by omega) | exact hexV_c (by omega) (by omega)
      omega
    refine jS (b := false) rfl rfl rfl (cB (dF h_3)) <| jS (b := false) rfl rfl rfl (cB (dF h_3)) <| jA (ji (v := .bool false) (cB (dF h_3)) rfl) <| jE <| jB <| jR (cB rfl) <| jT <| jB <| jC <| jF ?_
    refine jA (jG (v := iv (-1)) rfl) <| jE <| jB <| jN <| jV (.inl rfl) rfl (jJ (v := iv (-1)) rfl) (List.nil_sublist _) ?_
    refine ⟨_, ?_, ?_, rfl, rfl⟩
    · first | exact hexV_a (by omega) (by omega) | exact hexV_b (by omega) (by omega) | exact hexV_c (by omega) (by omega)
    omega
  refine jS (b := false) rfl rfl rfl (cB (dF h_1)) <| jS (b := false) rfl rfl rfl (cB (dF h_1)) <| jA (ji (v := .bool false) (cB (dF h_1)) rfl) <| jE <| jB <| jR (cB rfl) <| jT <| jB <| jC <| jC ?_
  refine jF <| jA (jD (v := .int .u8 ((c.toNat : Nat) : Int)) rfl) <| jA (PO.geq rfl rfl) <| jA (jD (v := .bool (decide (97 ≤ ((c.toNat : Nat) : Int)))) rfl) ?_
  by_cases h_5 : 97 ≤ ((c.toNat : Nat) : Int)
  · refine jM rfl rfl rfl (cB (dT h_5)) (jP (jU (jD (v := .int .u8 ((c.toNat : Nat) : Int)) rfl))) ?_
    rintro _ _ ⟨rfl, rfl⟩
    refine jM rfl rfl rfl (cB (dT h_5)) (jP (jU (PO.leq rfl rfl))) ?_
    rintro _ _ ⟨rfl, rfl⟩
    refine jA (jh (v := .bool (decide (((c.toNat : Nat) : Int) ≤ 102))) (cB (dT h_5)) rfl) <| jE <| jB ?_
    by_cases h_6 : ((c.toNat : Nat) : Int) ≤ 102
    · refine jW (cB (dT h_6)) <| jC <| jF <| jA (jD (v := .int .u8 ((c.toNat : Nat) : Int)) rfl) <| jA (PO.convI (c := ((c.toNat : Nat) : Int)) kv gC rfl (wr (by omega))) <| jA (kZ (c := ((c.toNat : Nat) : Int) - 97) rfl rfl (wr (by omega))) <| jA (jc (c := (((c.toNat : Nat) : Int) - 97) + 10) rfl rfl (wr (by omega))) <| jA (jG (v := iv ((((c.toNat : Nat) : Int) - 97) + 10)) rfl) <| jE <| jB ?_
      refine jN <| jX <| jV (.inl rfl) rfl (jJ (v := iv ((((c.toNat : Nat) : Int) - 97) + 10)) rfl) (List.nil_sublist _) ?_
      refine ⟨_, ?_, ?_, rfl, rfl⟩
      · first | exact hexV_a (by omega) (by omega) | exact hexV_b (by omega) (by omega) | exact hexV_c (by omega) (by omega)
      omega
    refine jR (cB (dF h_6)) <| jT <| jB <| jC <| jF <| jA (jG (v := iv (-1)) rfl) <| jE <| jB <| jN <| jV (.inl rfl) rfl (jJ (v := iv (-1)) rfl) (List.nil_sublist _) ?_
    refine ⟨_, ?_, ?_, rfl, rfl⟩
    · first | exact hexV_a (by omega) (by omega) | exact hexV_b (by omega) (by omega) | exact hexV_c (by omega) (by omega)
    omega
  refine jS (b := false) rfl rfl rfl (cB (dF h_5)) <| jS (b := false) rfl rfl rfl (cB (dF h_5)) <| jA (ji (v := .bool false) (cB (dF h_5)) rfl) <| jE <| jB <| jR (cB rfl) <| jT <| jB <| jC <| jF ?_
  refine jA (jG (v := iv (-1)) rfl) <| jE <| jB <| jN <| jV (.inl rfl) rfl (jJ (v := iv (-1)) rfl) (List.nil_sublist _) ?_
  refine ⟨_, ?_, ?_, rfl, rfl⟩
  · first | exact hexV_a (by omega) (by omega) | exact hexV_b (by omega) (by omega) | exact hexV_c (by omega) (by omega)
  omega

theorem N_sHex (s : Str) (hs : s.length ≤ 1000000000000) :
    Ct Tryz.prog 93 [str s] ([]) (fun _ => True) (fun v A' => ∃ r0 r1, hexP s = (r0, r1) ∧ r0.length ≤ 40000 ∧ v = .tuple #[str r0, .bool r1] ∧ A' = []) := by
  refine Ct.intro Tryz.func93 rfl Tryz.ntmps93 (lb rfl) fun w0 hpre => ?_
  refine jC <| jF <| jA (jG (v := str []) rfl) <| jA (jG (v := .bool false) rfl) <| jE <| jB <| jC <| jC <| jF <| jA (jD (v := str s) rfl) ?_
  refine jA (kF kg rfl) <| jA (kR rfl rfl) <| jE <| jB ?_
  by_cases h_1 : 20000 < (s.length : Int)
  · refine jW (cB (dT h_1)) <| jC <| jF <| jA (jG (v := str []) rfl) <| jA (jG (v := .bool false) rfl) <| jE <| jB <| jN <| jX <| kC (.inl rfl) rfl (jJ (v := str []) rfl) (jJ (v := .bool false) rfl) (List.nil_sublist _) ?_
    exact ⟨[], false, (by first | exact hexP_yes (by assumption) | (rw [hexP_no (by assumption), ← hexAcc_nil, hE])), (by first | omega | (simp only [LE]; omega)), rfl, rfl⟩
  refine jR (cB (dF h_1)) <| jT <| jB <| jC <| jF ?_
  refine jH rfl (kH (ps := []) (cur := #[]) kr gH gK rfl (by kernel_rfl) (by decide) (by decide)) ?_
  rintro _ _ ⟨a_2, rfl, rfl⟩
  refine jA (jG (v := .slice a_2 0 0) rfl) <| jE <| jB <| jC <| jC <| jF <| jA (jG (v := iv 0) rfl) <| jE <| jB <| jf ?_
  refine kD (fun k_ e_ L_ => ∃ j : Nat, ∃ out_a : Option Addr, ∃ out_c : Nat, ∃ out_ : Str, (j ≤ s.length) ∧ (out_.length ≤ 2 * j) ∧ (hexAcc (s.drop j) out_ = hexAcc s ([] : List UInt8)) ∧ e_ 0 = str s ∧ e_ 2 = str [] ∧ e_ 3 = .bool false ∧ e_ 4 = .slice out_a out_.length out_c ∧ e_ 5 = nv j ∧ L_ = [Res.row (.slice out_a out_.length out_c) 5 1 out_.length (out_.map encB)] ∧ k_ = s.length - j) _ ⟨0, a_2, 0, ([] : List UInt8), by omega, (by first | omega | (simp only [LE]; omega)), rfl, rfl, rfl, rfl, rfl, rfl, rfl, rfl⟩ ?_
  rintro _ e_3 _ ⟨j, out_a, out_c, out_, hj, ho, hR, he_4, he_5, he_6, he_7, he_8, rfl, rfl⟩
  refine jC <| jC <| jF <| jA (jD (v := nv j) he_8) <| jA (jD (v := str s) he_4) <| jA (kF kg rfl) <| jA (jl rfl rfl) <| jE <| jB ?_
  by_cases h_9 : ((j : Nat) : Int) < (s.length : Int)
  · have hlt : j < s.length := by omega
    have hu8 := UInt8.toNat_lt (s.getD j 0)
    refine jW (cB (dT h_9)) <| jT <| jB <| jC <| jf <| kJ [] 15 mixed (by simp) <| jL 0 rfl (jD (v := .slice out_a out_.length out_c) he_7) <| jL 1 rfl (jD (v := str s) he_4) <| jL 2 rfl (jD (v := nv j) he_8) <| jL 3 rfl (PO.indexS (i := j) (c := s.getD j 0) kg rfl rfl (getD_some (by omega))) ?_
    refine jL 4 rfl (PO.convI (c := ((s.getD j 0).toNat : Int)) kv gC rfl (wr (by omega))) <| jL 5 rfl (PO.quoN (c := ((((s.getD j 0).toNat) / 16 : Nat) : Int)) rfl rfl (by omega) (by omega) (by omega) (wr (by omega))) <| jL 7 rfl (jD (v := str s) he_4) <| jL 8 rfl (jD (v := nv j) he_8) <| jL 9 rfl (PO.indexS (i := j) (c := s.getD j 0) kg rfl rfl (getD_some (by omega))) <| jL 10 rfl (PO.convI (c := ((s.getD j 0).toNat : Int)) kv gC rfl (wr (by omega))) <| jL 11 rfl (PO.remN (c := ((((s.getD j 0).toNat) % 16 : Nat) : Int)) rfl rfl (by omega) (by omega) (by omega)) <| jj (i := 6) ?_
    refine jz rfl rfl (jI [] Tryz.call133 rfl (N_figure (((s.getD j 0).toNat) / 16) (by omega)) rfl (fun _ _ => trivial)) ?_
    rintro _ _ ⟨_, ⟨rfl, rfl⟩, rfl⟩
    refine ⟨(fun _ h => by cases h), ?_⟩
    refine jj (i := 12) ?_
    refine jz rfl rfl (jI [] Tryz.call133 rfl (N_figure (((s.getD j 0).toNat) % 16) (by omega)) rfl (fun _ _ => trivial)) ?_
    rintro _ _ ⟨_, ⟨rfl, rfl⟩, rfl⟩
    refine ⟨(fun _ h => by cases h), ?_⟩
    refine jj (i := 13) ?_
    refine jz rfl rfl (kH (ps := [(0, .int .u8 (((hexFig (((s.getD j 0).toNat) / 16)).toNat : Nat) : Int)), (1, .int .u8 (((hexFig (((s.getD j 0).toNat) % 16)).toNat : Nat) : Int))]) (cur := #[.int .u8 (((hexFig (((s.getD j 0).toNat) / 16)).toNat : Nat) : Int), .int .u8 (((hexFig (((s.getD j 0).toNat) % 16)).toNat : Nat) : Int)]) kr gH gK rfl (by kernel_rfl) (by decide) (by decide)) ?_
    rintro _ _ ⟨a_11, rfl, rfl⟩
    refine ⟨(fun _ h => by cases h), ?_⟩
    refine jj (i := 14) ?_
    refine jz rfl rfl (kU 1 (q := 2) (news := ([hexFig (((s.getD j 0).toNat) / 16), hexFig (((s.getD j 0).toNat) % 16)] : List UInt8).map encB) (n' := (out_ ++ ([hexFig (((s.getD j 0).toNat) / 16), hexFig (((s.getD j 0).toNat) % 16)] : List UInt8)).length) (cs' := (out_ ++ ([hexFig (((s.getD j 0).toNat) / 16), hexFig (((s.getD j 0).toNat) % 16)] : List UInt8)).map encB) rfl kr kr Tryz.typeInfo5 rfl (by' := 1) rfl rfl rfl rfl rfl (fun w hw => Src.sees (hw.see (i := 0) rfl) (oneB _)) (by (try simp only [LE]); omega) (by (try simp only [LE]); omega) (by simp only [List.length_append, List.length_take, List.length_drop, List.length_cons, List.length_nil] <;> first | rfl | omega) (by simp only [List.map_append])) ?_
    rintro _ _ ⟨a_14, c_15, rfl, rfl⟩
    refine ⟨(fun _ h => by cases h), ?_⟩
    refine jL 15 rfl (jG (v := .slice a_14 ((out_ ++ ([hexFig (((s.getD j 0).toNat) / 16), hexFig (((s.getD j 0).toNat) % 16)] : List UInt8)).length) c_15) rfl) <| kI (by kernel_rfl) <| jm <| jB <| jF <| jA (jD (v := nv j) he_8) <| jA (jc (c := ((j + 1 : Nat) : Int)) rfl rfl (wr (by omega))) <| jA (jG (v := iv ((j + 1 : Nat) : Int)) rfl) <| jE <| kB [1] (A := [Res.row (.slice a_14 ((out_ ++ ([hexFig (((s.getD j 0).toNat) / 16), hexFig (((s.getD j 0).toNat) % 16)] : List UInt8)).length) c_15) 5 1 ((out_ ++ ([hexFig (((s.getD j 0).toNat) / 16), hexFig (((s.getD j 0).toNat) % 16)] : List UInt8)).length) ((out_ ++ ([hexFig (((s.getD j 0).toNat) / 16), hexFig (((s.getD j 0).toNat) % 16)] : List UInt8)).map encB)]) rfl ?_
    refine jq (s.length - (j + 1)) (by omega) ⟨j + 1, a_14, c_15, (out_ ++ ([hexFig (((s.getD j 0).toNat) / 16), hexFig (((s.getD j 0).toNat) % 16)] : List UInt8)), by omega, (by first | omega | (simp only [LE]; omega)), (by rw [drop_at (getD_some (d := 0) hlt)] at hR; simp only [hexAcc, h_1, h_9, SB] at hR; (repeat (first | rw [if_pos (by omega)] at hR | rw [if_neg (by omega)] at hR)); exact hR), he_4, he_5, he_6, rfl, rfl, rfl, rfl⟩
  rw [List.drop_of_length_le (by omega)] at hR
  simp only [hexAcc] at hR
  have hE := hR.symm
  refine jR (cB (dF h_9)) <| jx <| jb <| jb <| jy <| jB <| jC <| jF <| jA (jD (v := .slice out_a out_.length out_c) he_7) <| jK (LO.toStr 0 out_ rfl kr kv kg rfl rfl) ?_
  refine jA (jG (v := str out_) rfl) <| jA (jG (v := .bool true) rfl) <| jE <| jB <| jN <| kC (.inl rfl) rfl (jJ (v := str out_) rfl) (jJ (v := .bool true) rfl) (List.nil_sublist _) ?_
  exact ⟨out_, true, (by first | exact hexP_yes (by assumption) | (rw [hexP_no (by assumption), ← hexAcc_nil, hE])), (by first | omega | (simp only [LE]; omega)), rfl, rfl⟩

theorem N_hex (s : Str) (hs : s.length ≤ 1000000000000) :
    Ct Tryz.prog 121 [str s] ([]) (fun _ => True) (fun v A' => ∃ r0 r1, hexP s = (r0, r1) ∧ r0.length ≤ 40000 ∧ v = .tuple #[str r0, .bool r1] ∧ A' = []) := by
  refine Ct.intro Tryz.func121 rfl Tryz.ntmps121 (lb rfl) fun w0 hpre => ?_
  refine jC <| jF <| jA (jG (v := str []) rfl) <| jA (jG (v := .bool false) rfl) <| jE <| jB <| jC <| jC <| jF <| jA (jD (v := str s) rfl) ?_
  refine jA (kF kg rfl) <| jA (kR rfl rfl) <| jE <| jB ?_
  by_cases h_1 : 20000 < (s.length : Int)
  · refine jW (cB (dT h_1)) <| jC <| jF <| jA (jG (v := str []) rfl) <| jA (jG (v := .bool false) rfl) <| jE <| jB <| jN <| jX <| kC (.inl rfl) rfl (jJ (v := str []) rfl) (jJ (v := .bool false) rfl) (List.nil_sublist _) ?_
    exact ⟨[], false, (by first | exact hexP_yes (by assumption) | exact hexP_no (by assumption)), (by first | (rw [hexB_len]; omega) | (simp only [List.length_nil]; omega)), rfl, rfl⟩
  refine jR (cB (dF h_1)) <| jT <| jB <| jC <| jF <| jA (jD (v := str s) rfl) ?_
  refine jH rfl (JO.toBytes kg kr kv rfl (by unfold maxLen; omega)) ?_
  rintro _ _ ⟨a_2, c_3, rfl, rfl⟩
  refine jH rfl (jI [] Tryz.call148 rfl (N_hexEnc a_2 c_3 s (by omega)) rfl (fun w hw => hw.see (i := 0) rfl)) ?_
  rintro _ _ ⟨_, ⟨rfl, rfl⟩, rfl⟩
  refine jA (jG (v := str (hexB s)) rfl) <| jA (jG (v := .bool true) rfl) <| jE <| jB <| jN <| kC (.inl rfl) rfl (jJ (v := str (hexB s)) rfl) (jJ (v := .bool true) rfl) (List.nil_sublist _) ?_
  exact ⟨(hexB s), true, (by first | exact hexP_yes (by assumption) | exact hexP_no (by assumption)), (by first | (rw [hexB_len]; omega) | (simp only [List.length_nil]; omega)), rfl, rfl⟩

theorem N_hexOf (s : Str) (hs : s.length ≤ 1000000000000) :
    Ct Tryz.prog 80 [str s] ([]) (fun _ => True) (fun v A' => ∃ r0, hexS s = r0 ∧ r0.length ≤ 40000 ∧ v = str r0 ∧ A' = []) := by
  refine Ct.intro Tryz.func80 rfl Tryz.ntmps80 (lb rfl) fun w0 hpre => ?_
  refine jC <| jF <| jA (jG (v := str []) rfl) <| jE <| jB <| jC <| jF <| jA (jD (v := str s) rfl) ?_
  refine jH rfl (jI [] Tryz.call121 rfl (N_hex s (by omega)) rfl (fun _ _ => trivial)) ?_
  rintro _ _ ⟨_, ⟨u_3, b_5, e_1, f_4, rfl, rfl⟩, rfl⟩
  refine jA (jD (v := .tuple #[str u_3, .bool b_5]) rfl) <| jA (je (v := str u_3) rfl rfl) <| jA (je (v := .bool b_5) rfl rfl) <| jA (jG (v := str u_3) rfl) <| jA (jG (v := .bool b_5) rfl) <| jE <| jB <| jC <| jF <| jA (jD (v := str u_3) rfl) ?_
  refine jA (jG (v := str u_3) rfl) <| jE <| jB <| jN <| jV (.inl rfl) rfl (jJ (v := str u_3) rfl) (List.nil_sublist _) ?_
  exact ⟨u_3, (by simp only [hexS_P, e_1, SB]; (repeat (first | rw [if_pos (by omega)] | rw [if_neg (by omega)])); all_goals (first | rfl | simp only [SB, e_1])), (by first | omega | (simp only [LE]; omega)), rfl, rfl⟩

theorem N_unhex (t : Str) (ht : t.length ≤ 1000000000000) :
    Ct Tryz.prog 115 [str t] ([]) (fun w => HexOk w) (fun v A' => ∃ r0 r1, unhex t = (r0, r1) ∧ r0.length ≤ 20000 ∧ v = .tuple #[str r0, .bool r1] ∧ A' = []) := by
  refine Ct.introL Tryz.func115 rfl Tryz.ntmps115 (lb rfl) fun w0 hpre hlow => ?_
  refine jC <| jF <| jA (jG (v := str []) rfl) <| jA (jG (v := .bool false) rfl) <| jE <| jB <| jC <| jF <| jA (jD (v := str t) rfl) ?_
  refine jH rfl (jI [] Tryz.call147 rfl (N_hexDec t (by omega)) rfl (fun w hw => hw.hex hlow hpre)) ?_
  rintro _ _ ⟨_, ⟨da, dc, dr, ⟨hd, rfl⟩ | ⟨hd, te, pe, rfl⟩, rfl⟩, rfl⟩
  · refine jA (jD (v := .tuple #[.slice da dr.length dc, .nilIface]) rfl) <| jA (je (v := .slice da dr.length dc) rfl rfl) <| jA (je (v := .nilIface) rfl rfl) <| jA (jG (v := .slice da dr.length dc) rfl) <| jA (jG (v := .nilIface) rfl) <| jE <| jB <| jC <| jC <| jF ?_
    refine jA (jD (v := .nilIface) rfl) <| jA (PO.neqIfN Tryz.underlying95 rfl rfl) <| jA (jD (v := .bool false) rfl) <| jM rfl rfl rfl (cB rfl) (jP (jU (jD (v := .slice da dr.length dc) rfl))) ?_
    rintro _ _ ⟨rfl, rfl⟩
    refine jM rfl rfl rfl (cB rfl) (jP (jU (jr kr rfl))) ?_
    rintro _ _ ⟨rfl, rfl⟩
    refine jM rfl rfl rfl (cB rfl) (jP (jU (kR rfl rfl))) ?_
    rintro _ _ ⟨rfl, rfl⟩
    refine jA (ji (v := .bool (decide (20000 < ((dr.length : Nat) : Int)))) (cB rfl) rfl) <| jA (jD (v := .bool (decide (20000 < ((dr.length : Nat) : Int)))) rfl) ?_
    by_cases h_1 : 20000 < ((dr.length : Nat) : Int)
    · refine jS (b := true) rfl rfl rfl (cB (dT h_1)) <| jS (b := true) rfl rfl rfl (cB (dT h_1)) <| jS (b := true) rfl rfl rfl (cB (dT h_1)) <| jS (b := true) rfl rfl rfl (cB (dT h_1)) <| jA (jh (v := .bool true) (cB (dT h_1)) rfl) <| jE <| jB <| jW (cB rfl) <| jC <| jF ?_
      refine jA (jG (v := str []) rfl) <| jA (jG (v := .bool false) rfl) <| jE <| jB <| jN <| jX <| kC (.inl rfl) rfl (jJ (v := str []) rfl) (jJ (v := .bool false) rfl) (List.nil_sublist _) ?_
      exact ⟨[], false, (by first | exact unhex_err hd | exact unhex_long hd (by assumption) | exact unhex_ne hd (by assumption) | exact unhex_yes hd (by assumption) (by assumption)), (by first | omega | (simp only [LE]; omega)), rfl, rfl⟩
    refine jM rfl rfl rfl (cB (dF h_1)) (jP (jU (jD (v := .slice da dr.length dc) rfl))) ?_
    rintro _ _ ⟨rfl, rfl⟩
    refine jM rfl rfl rfl (cB (dF h_1)) (jI [] Tryz.call148 rfl (N_hexEnc da dc dr (by omega)) rfl (fun w hw => hw.see (i := 0) rfl)) ?_
    rintro _ _ ⟨_, ⟨rfl, rfl⟩, rfl⟩
    refine jM rfl rfl rfl (cB (dF h_1)) (jP (jU (jD (v := str t) rfl))) ?_
    rintro _ _ ⟨rfl, rfl⟩
    refine jM rfl rfl rfl (cB (dF h_1)) (jP (jU (PO.neqS rfl rfl))) ?_
    rintro _ _ ⟨rfl, rfl⟩
    refine jA (ji (v := .bool (!(decide ((hexB dr) = t)))) (cB (dF h_1)) rfl) <| jE <| jB ?_
    by_cases h_2 : (hexB dr) = t
    · refine jR (cB (cN (dT h_2))) <| jT <| jB <| jC <| jF <| jA (jD (v := .slice da dr.length dc) rfl) <| jK (LO.toStr 0 dr rfl kr kv kg rfl rfl) <| jA (jG (v := str dr) rfl) <| jA (jG (v := .bool true) rfl) <| jE ?_
      refine jB <| jN <| kC (.inl rfl) rfl (jJ (v := str dr) rfl) (jJ (v := .bool true) rfl) (List.nil_sublist _) ?_
      exact ⟨dr, true, (by first | exact unhex_err hd | exact unhex_long hd (by assumption) | exact unhex_ne hd (by assumption) | exact unhex_yes hd (by assumption) (by assumption)), (by first | omega | (simp only [LE]; omega)), rfl, rfl⟩
    refine jW (cB (cN (dF h_2))) <| jC <| jF <| jA (jG (v := str []) rfl) <| jA (jG (v := .bool false) rfl) <| jE <| jB <| jN <| jX <| kC (.inl rfl) rfl (jJ (v := str []) rfl) (jJ (v := .bool false) rfl) (List.nil_sublist _) ?_
    exact ⟨[], false, (by first | exact unhex_err hd | exact unhex_long hd (by assumption) | exact unhex_ne hd (by assumption) | exact unhex_yes hd (by assumption) (by assumption)), (by first | omega | (simp only [LE]; omega)), rfl, rfl⟩
  refine jA (jD (v := .tuple #[.slice da dr.length dc, (.iface te pe)]) rfl) <| jA (je (v := .slice da dr.length dc) rfl rfl) <| jA (je (v := (.iface te pe)) rfl rfl) <| jA (jG (v := .slice da dr.length dc) rfl) <| jA (jG (v := (.iface te pe)) rfl) <| jE <| jB <| jC <| jC <| jF ?_
  refine jA (jD (v := (.iface te pe)) rfl) <| jA (PO.neqIfS Tryz.underlying95 rfl rfl) <| jA (jD (v := .bool true) rfl) <| jS (b := true) rfl rfl rfl (cB rfl) <| jS (b := true) rfl rfl rfl (cB rfl) <| jS (b := true) rfl rfl rfl (cB rfl) <| jA (jh (v := .bool true) (cB rfl) rfl) <| jA (jD (v := .bool true) rfl) <| jS (b := true) rfl rfl rfl (cB rfl) <| jS (b := true) rfl rfl rfl (cB rfl) ?_
  refine jS (b := true) rfl rfl rfl (cB rfl) <| jS (b := true) rfl rfl rfl (cB rfl) <| jA (jh (v := .bool true) (cB rfl) rfl) <| jE <| jB <| jW (cB rfl) <| jC <| jF <| jA (jG (v := str []) rfl) <| jA (jG (v := .bool false) rfl) ?_
  refine jE <| jB <| jN <| jX <| kC (.inl rfl) rfl (jJ (v := str []) rfl) (jJ (v := .bool false) rfl) (List.nil_sublist _) ?_
  exact ⟨[], false, (by first | exact unhex_err hd | exact unhex_long hd (by assumption) | exact unhex_ne hd (by assumption) | exact unhex_yes hd (by assumption) (by assumption)), (by first | omega | (simp only [LE]; omega)), rfl, rfl⟩

theorem N_sUnhex (t : Str) (ht : t.length ≤ 1000000000000) :
    Ct Tryz.prog 107 [str t] ([]) (fun _ => True) (fun v A' => ∃ r0 r1, unhex t = (r0, r1) ∧ r0.length ≤ 20000 ∧ v = .tuple #[str r0, .bool r1] ∧ A' = []) := by
  refine Ct.intro Tryz.func107 rfl Tryz.ntmps107 (lb rfl) fun w0 hpre => ?_
  refine jC <| jF <| jA (jG (v := str []) rfl) <| jA (jG (v := .bool false) rfl) <| jE <| jB <| jC <| jC <| jF <| jA (jD (v := str t) rfl) ?_
  refine jA (kF kg rfl) <| jA (kR rfl rfl) <| jA (jD (v := .bool (decide (40000 < (t.length : Int)))) rfl) ?_
  by_cases h_1 : 40000 < (t.length : Int)
  · refine jS (b := true) rfl rfl rfl (cB (dT h_1)) <| jS (b := true) rfl rfl rfl (cB (dT h_1)) <| jS (b := true) rfl rfl rfl (cB (dT h_1)) <| jS (b := true) rfl rfl rfl (cB (dT h_1)) <| jA (jh (v := .bool true) (cB (dT h_1)) rfl) <| jE <| jB <| jW (cB rfl) <| jC <| jF ?_
    refine jA (jG (v := str []) rfl) <| jA (jG (v := .bool false) rfl) <| jE <| jB <| jN <| jX <| kC (.inl rfl) rfl (jJ (v := str []) rfl) (jJ (v := .bool false) rfl) (List.nil_sublist _) ?_
    exact ⟨[], false, (by first | exact unhex_bad (by omega) | exact unhex_some (by rw [List.drop_of_length_le (by omega)] at hR; rw [← hR]; simp [unhexL]) (by assumption) | exact unhex_none (by rw [unhexL_step (by omega)] at hR; simp only [if_true] at hR; rw [if_pos (by omega)] at hR; exact hR.symm)), (by first | omega | (simp only [LE]; omega)), rfl, rfl⟩
  refine jM rfl rfl rfl (cB (dF h_1)) (jP (jU (jD (v := str t) rfl))) ?_
  rintro _ _ ⟨rfl, rfl⟩
  refine jM rfl rfl rfl (cB (dF h_1)) (jP (jU (kF kg rfl))) ?_
  rintro _ _ ⟨rfl, rfl⟩
  refine jM rfl rfl rfl (cB (dF h_1)) (jP (jU (PO.remN (c := ((t.length % 2 : Nat) : Int)) rfl rfl (by omega) (by omega) (by omega)))) ?_
  rintro _ _ ⟨rfl, rfl⟩
  refine jM rfl rfl rfl (cB (dF h_1)) (jP (jU (kS rfl rfl))) ?_
  rintro _ _ ⟨rfl, rfl⟩
  refine jA (ji (v := .bool (!(decide (((t.length % 2 : Nat) : Int) = 0)))) (cB (dF h_1)) rfl) <| jE <| jB ?_
  by_cases h_2 : ((t.length % 2 : Nat) : Int) = 0
  · refine jR (cB (cN (dT h_2))) <| jT <| jB <| jC <| jF ?_
    refine jH rfl (kH (ps := []) (cur := #[]) kr gH gK rfl (by kernel_rfl) (by decide) (by decide)) ?_
    rintro _ _ ⟨a_3, rfl, rfl⟩
    refine jA (jG (v := .slice a_3 0 0) rfl) <| jE <| jB <| jC <| jC <| jF <| jA (jG (v := iv 0) rfl) <| jE <| jB <| jf ?_
    refine kD (fun k_ e_ L_ => ∃ j : Nat, ∃ oa : Option Addr, ∃ oc : Nat, ∃ o_ : Str, (j ≤ t.length) ∧ ((t.length - j) % 2 = 0) ∧ (o_.length * 2 ≤ j) ∧ ((unhexL (t.drop j)).map (o_ ++ ·) = unhexL t) ∧ e_ 0 = str t ∧ e_ 4 = .slice oa o_.length oc ∧ e_ 5 = nv j ∧ L_ = [Res.row (.slice oa o_.length oc) 5 1 o_.length (o_.map encB)] ∧ k_ = t.length - j) _ ⟨0, a_3, 0, [], by omega, by omega, (by simp), (by simp), rfl, rfl, rfl, rfl, rfl⟩ ?_
    rintro _ e_4 _ ⟨j, oa, oc, o_, hj, hj2, ho, hR, he_5, he_6, he_7, rfl, rfl⟩
    refine jC <| jC <| jF <| jA (jD (v := nv j) he_7) <| jA (jD (v := str t) he_5) <| jA (kF kg rfl) <| jA (jl rfl rfl) <| jE <| jB ?_
    by_cases h_8 : ((j : Nat) : Int) < (t.length : Int)
    · refine jW (cB (dT h_8)) <| jT <| jB <| jC <| jf <| jC <| jF <| jA (jD (v := str t) he_5) <| jA (jD (v := nv j) he_7) <| jA (PO.indexS (i := j) (c := t.getD j 0) kg rfl rfl (getD_some (by omega))) ?_
      have hu_9 := UInt8.toNat_lt (t.getD j 0)
      refine jH rfl (jI [] Tryz.call140 rfl (N_value (t.getD j 0)) rfl (fun _ _ => trivial)) ?_
      rintro _ _ ⟨_, ⟨n_10, e_11, f_12, rfl, rfl⟩, rfl⟩
      refine jA (jG (v := iv n_10) rfl) <| jE <| jB <| jC <| jF <| jA (jD (v := str t) he_5) <| jA (jD (v := nv j) he_7) <| jA (jc (c := ((j + 1 : Nat) : Int)) rfl rfl (wr (by omega))) <| jA (PO.indexS (i := j + 1) (c := t.getD (j + 1) 0) kg rfl rfl (getD_some (by omega))) ?_
      have hu_13 := UInt8.toNat_lt (t.getD (j + 1) 0)
      refine jH rfl (jI [] Tryz.call140 rfl (N_value (t.getD (j + 1) 0)) rfl (fun _ _ => trivial)) ?_
      rintro _ _ ⟨_, ⟨n_14, e_15, f_16, rfl, rfl⟩, rfl⟩
      refine jA (jG (v := iv n_14) rfl) <| jE <| jB <| jC <| jC <| jF <| jA (jD (v := iv n_10) rfl) <| jA (jl rfl rfl) <| jA (jD (v := .bool (decide (n_10 < 0))) rfl) ?_
      by_cases h_17 : n_10 < 0
      · refine jS (b := true) rfl rfl rfl (cB (dT h_17)) <| jS (b := true) rfl rfl rfl (cB (dT h_17)) <| jA (jh (v := .bool true) (cB (dT h_17)) rfl) <| jE <| jB <| jW (cB rfl) <| jC <| jF <| jA (jG (v := str []) rfl) <| jA (jG (v := .bool false) rfl) ?_
        refine jE <| jB <| jN <| jX <| jv <| jX <| jX <| jv <| jX <| kC (.inl rfl) rfl (jJ (v := str []) rfl) (jJ (v := .bool false) rfl) (List.nil_sublist _) ?_
        exact ⟨[], false, (by first | exact unhex_bad (by omega) | exact unhex_some (by rw [List.drop_of_length_le (by omega)] at hR; rw [← hR]; simp [unhexL]) (by assumption) | exact unhex_none (by rw [unhexL_step (by omega)] at hR; simp only [e_11, e_15] at hR; rw [if_pos (by omega)] at hR; exact hR.symm)), (by first | omega | (simp only [LE]; omega)), rfl, rfl⟩
      refine jM rfl rfl rfl (cB (dF h_17)) (jP (jU (jD (v := iv n_14) rfl))) ?_
      rintro _ _ ⟨rfl, rfl⟩
      refine jM rfl rfl rfl (cB (dF h_17)) (jP (jU (jl rfl rfl))) ?_
      rintro _ _ ⟨rfl, rfl⟩
      refine jA (ji (v := .bool (decide (n_14 < 0))) (cB (dF h_17)) rfl) <| jE <| jB ?_
      by_cases h_18 : n_14 < 0
      · refine jW (cB (dT h_18)) <| jC <| jF <| jA (jG (v := str []) rfl) <| jA (jG (v := .bool false) rfl) <| jE <| jB <| jN <| jX <| jv ?_
        refine jX <| jX <| jv <| jX <| kC (.inl rfl) rfl (jJ (v := str []) rfl) (jJ (v := .bool false) rfl) (List.nil_sublist _) ?_
        exact ⟨[], false, (by first | exact unhex_bad (by omega) | exact unhex_some (by rw [List.drop_of_length_le (by omega)] at hR; rw [← hR]; simp [unhexL]) (by assumption) | exact unhex_none (by rw [unhexL_step (by omega)] at hR; simp only [e_11, e_15] at hR; rw [if_pos (by omega)] at hR; exact hR.symm)), (by first | omega | (simp only [LE]; omega)), rfl, rfl⟩
      refine jR (cB (dF h_18)) <| jT <| jB <| jF <| jA (jD (v := .slice oa o_.length oc) he_6) <| jA (jD (v := iv n_10) rfl) <| jA (PO.mul (c := 16 * n_10) rfl rfl (wr (by omega))) <| jA (jD (v := iv n_14) rfl) <| jA (jc (c := (16 * n_10) + n_14) rfl rfl (wr (by omega))) <| jA (PO.convI (c := (((UInt8.ofNat ((16 * n_10) + n_14).toNat).toNat : Nat) : Int)) gC kv rfl (wr8u (by omega) rfl)) ?_
      refine jH rfl (kH (ps := [(0, .int .u8 (((UInt8.ofNat ((16 * n_10) + n_14).toNat).toNat : Nat) : Int))]) (cur := #[.int .u8 (((UInt8.ofNat ((16 * n_10) + n_14).toNat).toNat : Nat) : Int)]) kr gH gK rfl (by kernel_rfl) (by decide) (by decide)) ?_
      rintro _ _ ⟨a_19, rfl, rfl⟩
      refine jH rfl (kU 1 (q := 1) (news := ([UInt8.ofNat ((16 * n_10) + n_14).toNat] : List UInt8).map encB) (n' := (o_ ++ ([UInt8.ofNat ((16 * n_10) + n_14).toNat] : List UInt8)).length) (cs' := (o_ ++ ([UInt8.ofNat ((16 * n_10) + n_14).toNat] : List UInt8)).map encB) rfl kr kr Tryz.typeInfo5 rfl (by' := 1) rfl rfl rfl rfl rfl (fun w hw => Src.sees (hw.see (i := 0) rfl) (oneB _)) (by (try simp only [LE]); omega) (by (try simp only [LE]); omega) (by simp only [List.length_append, List.length_take, List.length_drop, List.length_cons, List.length_nil] <;> first | rfl | omega) (by simp only [List.map_append])) ?_
      rintro _ _ ⟨a_20, c_21, rfl, rfl⟩
      refine jA (jG (v := .slice a_20 ((o_ ++ ([UInt8.ofNat ((16 * n_10) + n_14).toNat] : List UInt8)).length) c_21) rfl) <| jE <| jm <| jB <| jF <| jA (jD (v := nv j) he_7) <| jA (jc (c := ((j + 2 : Nat) : Int)) rfl rfl (wr (by omega))) <| jA (jG (v := iv ((j + 2 : Nat) : Int)) rfl) <| jE <| kB [1] (A := [Res.row (.slice a_20 ((o_ ++ ([UInt8.ofNat ((16 * n_10) + n_14).toNat] : List UInt8)).length) c_21) 5 1 ((o_ ++ ([UInt8.ofNat ((16 * n_10) + n_14).toNat] : List UInt8)).length) ((o_ ++ ([UInt8.ofNat ((16 * n_10) + n_14).toNat] : List UInt8)).map encB)]) rfl ?_
      refine jq (t.length - (j + 2)) (by omega) ⟨j + 2, a_20, c_21, (o_ ++ ([UInt8.ofNat ((16 * n_10) + n_14).toNat] : List UInt8)), by omega, by omega, (by simp only [List.length_append, List.length_cons, List.length_nil]; omega), (by rw [unhexL_step (by omega)] at hR; simp only [e_11, e_15] at hR; rw [if_neg (by omega)] at hR; exact hR), he_5, rfl, rfl, rfl, rfl⟩
    refine jR (cB (dF h_8)) <| jx <| jb <| jb <| jy <| jB <| jC <| jF <| jA (jD (v := .slice oa o_.length oc) he_6) <| jK (LO.toStr 0 o_ rfl kr kv kg rfl rfl) ?_
    refine jA (jG (v := str o_) rfl) <| jA (jG (v := .bool true) rfl) <| jE <| jB <| jN <| kC (.inl rfl) rfl (jJ (v := str o_) rfl) (jJ (v := .bool true) rfl) (List.nil_sublist _) ?_
    exact ⟨o_, true, (unhex_some (by rw [List.drop_of_length_le (by omega)] at hR; exact hR.symm.trans (by simp [unhexL])) (by omega)), (by first | omega | (simp only [LE]; omega)), rfl, rfl⟩
  refine jW (cB (cN (dF h_2))) <| jC <| jF <| jA (jG (v := str []) rfl) <| jA (jG (v := .bool false) rfl) <| jE <| jB <| jN <| jX <| kC (.inl rfl) rfl (jJ (v := str []) rfl) (jJ (v := .bool false) rfl) (List.nil_sublist _) ?_
  exact ⟨[], false, (by first | exact unhex_bad (by omega) | exact unhex_some (by rw [List.drop_of_length_le (by omega)] at hR; rw [← hR]; simp [unhexL]) (by assumption) | exact unhex_none (by rw [unhexL_step (by omega)] at hR; simp only [if_true] at hR; rw [if_pos (by omega)] at hR; exact hR.symm)), (by first | omega | (simp only [LE]; omega)), rfl, rfl⟩

end Go.Proofs.YtjncpgcccgdeiaaGreatDoor

set_option linter.unusedSimpArgs false
set_option linter.unusedVariables false
set_option linter.unnecessarySimpa false
namespace Go.Proofs.YtjncpgcccgdeiaaGreatDoor
open Go Go.RowKit
/-- The parts of a text between signs. -/
def splitB (c : UInt8) : Str → List Str
  | [] => [[]]
  | x :: s => if x = c then [] :: splitB c s else (x :: (splitB c s).headD []) :: (splitB c s).tail
theorem splitB_ne (c : UInt8) : ∀ s, splitB c s ≠ []
  | [] => by simp [splitB]
  | x :: s => by unfold splitB; split <;> simp
theorem splitB_at (c : UInt8) : ∀ (a s : Str), (∀ x ∈ a, x ≠ c) → splitB c (a ++ c :: s) = a :: splitB c s
  | [], s, _ => by simp [splitB]
  | x :: a, s, h => by
    have ih := splitB_at c a s fun y hy => h y (List.mem_cons_of_mem _ hy)
    rw [List.cons_append, splitB, if_neg (h x (List.mem_cons_self ..)), ih]
    rfl
theorem splitB_one (c : UInt8) : ∀ a : Str, (∀ x ∈ a, x ≠ c) → splitB c a = [a]
  | [], _ => rfl
  | x :: a, h => by
    have ih := splitB_one c a fun y hy => h y (List.mem_cons_of_mem _ hy)
    rw [splitB, if_neg (h x (List.mem_cons_self ..)), ih]
    rfl
/-- What lies before and behind the first sign; all and nothing without one. -/
def cutB (c : UInt8) : Str → Str × Str
  | [] => ([], [])
  | x :: s => if x = c then ([], s) else (x :: (cutB c s).1, (cutB c s).2)
theorem splitB_single (c : UInt8) : ∀ (t q : Str), splitB c t = [q] → t = q
  | [], q, h => by simp only [splitB, List.cons.injEq, and_true] at h; exact h
  | y :: t, q, h => by
    unfold splitB at h
    split at h
    · simp only [List.cons.injEq] at h; exact absurd h.2 (splitB_ne c t)
    · simp only [List.cons.injEq] at h
      obtain ⟨rfl, h2⟩ := h
      cases hs : splitB c t with
      | nil => exact absurd hs (splitB_ne c t)
      | cons p r =>
        rw [hs] at h2
        simp only [List.tail_cons] at h2
        subst h2
        rw [splitB_single c t p hs]
        rfl
theorem cutB_two (c : UInt8) : ∀ (w q0 q1 : Str), splitB c w = [q0, q1] → cutB c w = (q0, q1)
  | [], q0, q1, h => by simp [splitB] at h
  | x :: s, q0, q1, h => by
    unfold splitB at h
    unfold cutB
    split at h
    · rename_i hx
      rw [if_pos hx]
      simp only [List.cons.injEq] at h
      obtain ⟨rfl, h⟩ := h
      rw [splitB_single c s q1 h]
    · rename_i hx
      rw [if_neg hx]
      simp only [List.cons.injEq] at h
      obtain ⟨rfl, h2⟩ := h
      cases hs : splitB c s with
      | nil => exact absurd hs (splitB_ne c s)
      | cons p r =>
        rw [hs] at h2
        simp only [List.tail_cons] at h2
        subst h2
        rw [cutB_two c s p q1 hs]
        rfl
theorem drop_no {s : Str} {c : UInt8} {b i : Nat} (hi : i ≤ s.length) (hN : ∀ k, b ≤ k → k < i → s.getD k 0 ≠ c) : ∀ x ∈ (s.drop b).take (i - b), x ≠ c := by
  intro x hx
  obtain ⟨k, hk, rfl⟩ := List.getElem_of_mem hx
  have hk' : k < (s.drop b).length ∧ k < i - b := by rw [List.length_take] at hk; omega
  rw [List.length_drop] at hk'
  have := hN (b + k) (by omega) (by omega)
  rw [List.getD_eq_getElem?_getD, List.getElem?_eq_getElem (by omega)] at this
  simpa using this
theorem split_cut {s : Str} {c : UInt8} {b i : Nat} (hi : i < s.length) (hb : b ≤ i) (hN : ∀ k, b ≤ k → k < i → s.getD k 0 ≠ c) (hc : s.getD i 0 = c) : splitB c (s.drop b) = (s.drop b).take (i - b) :: splitB c (s.drop (i + 1)) := by
  have e : s.drop b = (s.drop b).take (i - b) ++ c :: s.drop (i + 1) := by
    have h1 := (List.take_append_drop (i - b) (s.drop b)).symm
    rw [List.drop_drop, show b + (i - b) = i by omega, drop_at (getD_some (d := 0) hi), hc] at h1
    exact h1
  have h2 := splitB_at c ((s.drop b).take (i - b)) (s.drop (i + 1)) (drop_no (by omega) hN)
  rw [← e] at h2
  exact h2
theorem split_end {s : Str} {c : UInt8} {b : Nat} (hN : ∀ k, b ≤ k → k < s.length → s.getD k 0 ≠ c) : splitB c (s.drop b) = [(s.drop b).take (s.length - b)] := by
  have e : (s.drop b).take (s.length - b) = s.drop b := List.take_of_length_le (by rw [List.length_drop]; omega)
  have h := splitB_one c _ (drop_no (c := c) (b := b) (Nat.le_refl _) hN)
  rw [e] at h ⊢
  exact h
theorem u8_eq {a c : UInt8} (h : ((a.toNat : Nat) : Int) = ((c.toNat : Nat) : Int)) : a = c := UInt8.toNat_inj.1 (by omega)
theorem u8_ne {a c : UInt8} (h : ¬ ((a.toNat : Nat) : Int) = ((c.toNat : Nat) : Int)) : a ≠ c := fun e => h (by rw [e])
/- a record's text -/
def sumF (n : Nat) : Str → Nat
  | [] => n
  | c :: s => sumF ((31 * n + c.toNat) % 9973) s
def byteSum (s : Str) : Nat := sumF 7 s
theorem sumF_lo : ∀ (s : Str) (n : Nat), n ≤ 9972 → sumF n s ≤ 9972
  | [], n, h => h
  | c :: s, n, h => sumF_lo s _ (by omega)
theorem byteSum_lo (s : Str) : byteSum s ≤ 9972 := sumF_lo s 7 (by omega)
theorem sumF_step {s : Str} {n j : Nat} (h : j < s.length) : sumF n (s.drop j) = sumF ((31 * n + (s.getD j 0).toNat) % 9973) (s.drop (j + 1)) := by
  rw [drop_at (getD_some (d := 0) h), sumF]
theorem keyOk_len {k : Str} (h : keyOk k = true) : k.length ≤ 40 := by
  simp only [keyOk, Bool.and_eq_true, decide_eq_true_eq] at h
  exact h.2
def recRow (c : Cell) : Str := [32] ++ hexB c.1 ++ [61] ++ hexB c.2
def recBad (b : Str) (c : Cell) : Bool := !keyOk c.1 || (decide ((60 : Int) < ((c.2.length : Nat) : Int)) || decide ((4000 : Int) < ((b.length : Nat) : Int)))
def recEnd (b : Str) : Str := if (4000 : Int) < (((b ++ [32, 35] ++ dec ((byteSum b : Nat) : Int) ++ [10]).length : Nat) : Int) then [] else b ++ [32, 35] ++ dec ((byteSum b : Nat) : Int) ++ [10]
def recGo : Str → List Cell → Str
  | b, [] => recEnd b
  | b, c :: l => if recBad b c = true then [] else recGo (b ++ recRow c) l
def recText (seq : Int) (l : List Cell) : Str := if within 1 seq 100000 = true then recGo (dec seq) l else []
theorem recGo_step {l : List Cell} {b : Str} {j : Nat} (h : j < l.length) : recGo b (l.drop j) = if recBad b (l.getD j c0) = true then [] else recGo (b ++ recRow (l.getD j c0)) (l.drop (j + 1)) := by
  rw [drop_at (getD_some (d := c0) h), recGo]
theorem recGo_some : ∀ (l : List Cell) (b : Str), recGo b l ≠ [] → ∃ b', b' = b ++ l.flatMap recRow ∧ recGo b l = b' ++ [32, 35] ++ dec ((byteSum b' : Nat) : Int) ++ [10]
  | [], b, h => by
    refine ⟨b, by simp, ?_⟩
    unfold recGo recEnd at *
    split at h
    · exact absurd rfl h
    · rename_i hn; rw [if_neg hn]
  | c :: l, b, h => by
    unfold recGo at h ⊢
    split at h
    · exact absurd rfl h
    · rename_i hn
      rw [if_neg hn]
      obtain ⟨b', e, h2⟩ := recGo_some l _ h
      exact ⟨b', by rw [e, List.flatMap_cons, List.append_assoc], h2⟩
theorem hexFig_ne (x : Nat) (h : x < 16) : hexFig x ≠ 32 ∧ hexFig x ≠ 61 ∧ hexFig x ≠ 10 := by
  have : ∀ k : Fin 16, hexFig k.val ≠ 32 ∧ hexFig k.val ≠ 61 ∧ hexFig k.val ≠ 10 := by decide
  exact this ⟨x, h⟩
theorem hexB_ne : ∀ (s : Str) (x : UInt8), x ∈ hexB s → x ≠ 32 ∧ x ≠ 61 ∧ x ≠ 10
  | [], x, h => by cases h
  | c :: s, x, h => by
    have hc := c.toNat_lt
    simp only [hexB, List.mem_cons] at h
    rcases h with rfl | rfl | h
    · exact hexFig_ne _ (by omega)
    · exact hexFig_ne _ (by omega)
    · exact hexB_ne s x h
theorem split_rows : ∀ (l : List Cell) (a e : Str), (∀ x ∈ a, x ≠ 32) → (∀ x ∈ e, x ≠ 32) → splitB 32 (a ++ l.flatMap recRow ++ 32 :: e) = a :: (l.map fun c => hexB c.1 ++ [61] ++ hexB c.2) ++ [e]
  | [], a, e, ha, he => by
    rw [List.flatMap_nil, List.append_nil, splitB_at 32 a e ha, splitB_one 32 e he]
    rfl
  | c :: l, a, e, ha, he => by
    have ih := split_rows l (hexB c.1 ++ [61] ++ hexB c.2) e (fun x hx => by
      simp only [List.mem_append, List.mem_singleton] at hx
      rcases hx with (hx | rfl) | hx
      · exact (hexB_ne _ _ hx).1
      · decide
      · exact (hexB_ne _ _ hx).1) he
    have : a ++ (c :: l).flatMap recRow ++ 32 :: e = a ++ 32 :: ((hexB c.1 ++ [61] ++ hexB c.2) ++ l.flatMap recRow ++ 32 :: e) := by
      simp only [List.flatMap_cons, recRow, List.append_assoc, List.cons_append, List.nil_append, List.singleton_append]
    rw [this, splitB_at 32 a _ ha, ih]
    rfl
theorem split_mid (c : Cell) : splitB 61 (hexB c.1 ++ [61] ++ hexB c.2) = [hexB c.1, hexB c.2] := by
  rw [List.append_assoc, List.singleton_append, splitB_at 61 _ _ fun x hx => (hexB_ne _ _ hx).2.1, splitB_one 61 _ fun x hx => (hexB_ne _ _ hx).2.1]
theorem digits_no : ∀ (f k : Nat), k ≤ f → ∀ x ∈ Lib.decDigits k, 48 ≤ x.toNat ∧ x.toNat ≤ 57 := by
  have fig : ∀ k, k < 10 → 48 ≤ (UInt8.ofNat (48 + k)).toNat ∧ (UInt8.ofNat (48 + k)).toNat ≤ 57 := fun k hk => by
    have : ∀ q : Fin 10, 48 ≤ (UInt8.ofNat (48 + q.val)).toNat ∧ (UInt8.ofNat (48 + q.val)).toNat ≤ 57 := by decide
    exact this ⟨k, hk⟩
  intro f
  induction f with
  | zero =>
    intro k hk x hx
    rw [Lib.decDigits, dif_pos (by omega), List.mem_singleton] at hx
    subst hx
    exact fig k (by omega)
  | succ f ih =>
    intro k hk x hx
    rw [Lib.decDigits] at hx
    split at hx
    · rw [List.mem_singleton] at hx
      subst hx
      exact fig k (by omega)
    · rcases List.mem_append.1 hx with hx | hx
      · exact ih (k / 10) (by omega) x hx
      · rw [List.mem_singleton] at hx
        subst hx
        exact fig (k % 10) (by omega)
theorem dec_no32 {n : Int} (h : 0 ≤ n) : ∀ x ∈ dec n, x ≠ 32 := by
  intro x hx
  unfold dec Lib.itoa at hx
  rw [if_neg (by omega)] at hx
  have := digits_no _ _ (Nat.le_refl _) x hx
  rintro rfl
  revert this
  decide
/- reading a record -/
def readWord (w : Str) : Cell := ((unhex (cutB 61 w).1).1, (unhex (cutB 61 w).2).1)
def midsOf (p : List Str) : List Str := (p.drop 1).take (p.length - 2)
def readI (t : Str) : Int × List Cell × Bool :=
  if (4000 : Int) < ((t.length : Nat) : Int) then (0, [], false)
  else if t = [] ∨ recText (readDec ((splitB 32 t).getD 0 [])).1 ((midsOf (splitB 32 t)).map readWord) ≠ t then (0, [], false)
  else ((readDec ((splitB 32 t).getD 0 [])).1, (midsOf (splitB 32 t)).map readWord, true)
def readS (t : Str) : Int × List Cell × Bool :=
  if (4000 : Int) < ((t.length : Nat) : Int) then (0, [], false)
  else if ∃ w ∈ midsOf (splitB 32 t), (splitB 61 w).length ≠ 2 then (0, [], false)
  else if (readDec ((splitB 32 t).getD 0 [])).2 = false ∨ recText (readDec ((splitB 32 t).getD 0 [])).1 ((midsOf (splitB 32 t)).map readWord) = [] ∨ recText (readDec ((splitB 32 t).getD 0 [])).1 ((midsOf (splitB 32 t)).map readWord) ≠ t then (0, [], false)
  else ((readDec ((splitB 32 t).getD 0 [])).1, (midsOf (splitB 32 t)).map readWord, true)
theorem mids_rec {seq : Int} {l : List Cell} {t : Str} (h : recText seq l = t) (ht : t ≠ []) : midsOf (splitB 32 t) = l.map fun c => hexB c.1 ++ [61] ++ hexB c.2 := by
  unfold recText at h
  split at h
  · rename_i hw
    have hw := (show 1 ≤ seq ∧ seq ≤ 100000 by simpa only [within, Bool.and_eq_true, decide_eq_true_eq] using hw)
    obtain ⟨b, hb, he⟩ := recGo_some l (dec seq) (by rw [h]; exact ht)
    have hs := byteSum_lo b
    have e : t = dec seq ++ l.flatMap recRow ++ 32 :: (35 :: dec ((byteSum b : Nat) : Int) ++ [10]) := by
      rw [← h, he, hb]
      simp only [List.append_assoc, List.cons_append, List.nil_append]
    rw [e, split_rows l (dec seq) _ (dec_no32 (by omega)) (fun x hx => by
      simp only [List.cons_append, List.mem_cons, List.mem_append, List.not_mem_nil, or_false] at hx
      rcases hx with rfl | hx | rfl
      · decide
      · exact dec_no32 (Int.natCast_nonneg _) x hx
      · decide)]
    unfold midsOf
    simp only [List.cons_append, List.drop_succ_cons, List.drop_zero, List.length_cons, List.length_append, List.length_map, List.length_nil]
    rw [show l.length + (0 + 1) + 1 - 2 = (l.map fun c => hexB c.1 ++ [61] ++ hexB c.2).length by rw [List.length_map]; omega]
    rw [List.take_append_of_le_length (Nat.le_refl _), List.take_length]
  · exact absurd h.symm ht
theorem readS_eq (t : Str) : readS t = readI t := by
  unfold readS readI
  split
  · rfl
  · by_cases hm : ∃ w ∈ midsOf (splitB 32 t), (splitB 61 w).length ≠ 2
    · rw [if_pos hm]
      symm
      refine if_pos ?_
      by_cases ht : t = []
      · exact .inl ht
      · refine .inr fun hr => ?_
        obtain ⟨w, hw, h2⟩ := hm
        rw [mids_rec hr ht] at hw
        obtain ⟨c, _, rfl⟩ := List.mem_map.1 hw
        rw [split_mid c] at h2
        exact h2 rfl
    · rw [if_neg hm]
      by_cases hr : recText (readDec ((splitB 32 t).getD 0 [])).1 ((midsOf (splitB 32 t)).map readWord) = t
      · by_cases ht : t = []
        · rw [if_pos (.inr (.inl (hr.trans ht))), if_pos (.inl ht)]
        · rw [if_neg (c := t = [] ∨ _) (by rintro (h | h); exact ht h; exact h hr)]
          refine if_neg ?_
          rintro (h | h | h)
          · have h0 := readDec_no h
            rw [h0] at hr
            exact ht hr.symm
          · exact ht (hr.symm.trans h)
          · exact h hr
      · rw [if_pos (.inr (.inr hr)), if_pos (.inr hr)]
theorem splitB_len (c : UInt8) : ∀ s : Str, (splitB c s).length ≤ s.length + 1 ∧ 1 ≤ (splitB c s).length
  | [] => ⟨by simp [splitB], by simp [splitB]⟩
  | x :: s => by
    have ih := splitB_len c s
    unfold splitB
    split
    · simp only [List.length_cons]; omega
    · simp only [List.length_cons, List.length_tail]; omega
theorem splitB_mem (c : UInt8) : ∀ (s x : Str), x ∈ splitB c s → x.length ≤ s.length
  | [], x, h => by simp [splitB] at h; simp [h]
  | y :: s, x, h => by
    unfold splitB at h
    split at h
    · rcases List.mem_cons.1 h with rfl | h
      · simp
      · have := splitB_mem c s x h; simp only [List.length_cons]; omega
    · rcases List.mem_cons.1 h with rfl | h
      · cases hs : splitB c s with
        | nil => simp
        | cons p r =>
          have := splitB_mem c s p (by rw [hs]; exact List.mem_cons_self ..)
          simp only [List.headD_cons, List.length_cons]; omega
      · have := splitB_mem c s x (List.mem_of_mem_tail h); simp only [List.length_cons]; omega
theorem splitB_get (c : UInt8) (s : Str) (k : Nat) : ((splitB c s).getD k []).length ≤ s.length := by
  by_cases h : k < (splitB c s).length
  · exact splitB_mem c s _ (getD_mem h)
  · rw [List.getD_eq_getElem?_getD, List.getElem?_eq_none (by omega)]; exact Nat.zero_le _
theorem readWord_two {w : Str} (h : (splitB 61 w).length = 2) : readWord w = ((unhex ((splitB 61 w).getD 0 [])).1, (unhex ((splitB 61 w).getD 1 [])).1) := by
  match hs : splitB 61 w, h with
  | [q0, q1], _ => rw [readWord, cutB_two 61 w q0 q1 hs]; rfl
theorem okC_read {l : List Str} (h : l.length ≤ 1000000) : okC (l.map readWord) := ⟨by rw [List.length_map]; omega, fun j hj => by
  rw [List.length_map] at hj
  rw [List.getD_eq_getElem?_getD, List.getElem?_eq_getElem (by rw [List.length_map]; exact hj)]
  simp only [List.getElem_map, Option.getD_some, readWord]
  have h1 := unhex_len (cutB 61 l[j]).1
  have h2 := unhex_len (cutB 61 l[j]).2
  exact ⟨by omega, by omega⟩⟩
theorem readS_long {t : Str} (h : (4000 : Int) < ((t.length : Nat) : Int)) : readS t = (0, [], false) := if_pos h
theorem mids_get {p : List Str} {k : Nat} (h1 : 1 ≤ k) (h2 : k + 1 < p.length) : p.getD k [] ∈ midsOf p := by
  unfold midsOf
  rw [List.mem_iff_getElem]
  refine ⟨k - 1, by rw [List.length_take, List.length_drop]; omega, ?_⟩
  rw [List.getElem_take, List.getElem_drop, List.getD_eq_getElem?_getD, List.getElem?_eq_getElem (by omega)]
  simp only [Option.getD_some]
  congr 1
  omega
theorem readS_mid {t : Str} {i : Nat} (h4 : ¬ (4000 : Int) < ((t.length : Nat) : Int)) (h1 : 1 ≤ i) (h2 : i + 1 < (splitB 32 t).length) (h : ¬ (splitB 61 ((splitB 32 t).getD i [])).length = 2) : readS t = (0, [], false) := by
  unfold readS
  rw [if_neg h4, if_pos ⟨_, mids_get h1 h2, h⟩]
theorem readS_end {t : Str} {i : Nat} (h4 : ¬ (4000 : Int) < ((t.length : Nat) : Int)) (hi : i - 1 = (splitB 32 t).length - 2) (hN : ∀ k, 1 ≤ k → k < i → (splitB 61 ((splitB 32 t).getD k [])).length = 2) :
    readS t = if (readDec ((splitB 32 t).getD 0 [])).2 = false ∨ recText (readDec ((splitB 32 t).getD 0 [])).1 ((((splitB 32 t).drop 1).take (i - 1)).map readWord) = [] ∨ recText (readDec ((splitB 32 t).getD 0 [])).1 ((((splitB 32 t).drop 1).take (i - 1)).map readWord) ≠ t then (0, [], false)
      else ((readDec ((splitB 32 t).getD 0 [])).1, (((splitB 32 t).drop 1).take (i - 1)).map readWord, true) := by
  unfold readS
  rw [if_neg h4, hi, if_neg]
  · rfl
  · rintro ⟨w, hw, h⟩
    unfold midsOf at hw
    obtain ⟨k, hk, rfl⟩ := List.getElem_of_mem hw
    rw [List.length_take, List.length_drop] at hk
    have := hN (k + 1) (by omega) (by omega)
    rw [List.getD_eq_getElem?_getD, List.getElem?_eq_getElem (by omega)] at this
    apply h
    rw [List.getElem_take, List.getElem_drop]
    simpa [Nat.add_comm] using this
theorem mids_step {p : List Str} {i : Nat} (h1 : 1 ≤ i) (h2 : i + 1 < p.length) : ((p.drop 1).take (i + 1 - 1)).map readWord = ((p.drop 1).take (i - 1)).map readWord ++ [readWord (p.getD i [])] := by
  rw [show i + 1 - 1 = (i - 1) + 1 by omega, take_at (v := p.getD i []) ?_, List.map_append]
  · rfl
  · rw [List.getElem?_drop, show 1 + (i - 1) = i by omega, List.getD_eq_getElem?_getD, List.getElem?_eq_getElem (by omega)]
    rfl
/- lines -/
def linesG (b : Str) : Str → List Str
  | [] => []
  | c :: s => if c = 10 then (b ++ [c]) :: linesG [] s else linesG (b ++ [c]) s
def linesOf (t : Str) : List Str := linesG [] t
theorem front_snoc {s : Str} {b i : Nat} (hi : i < s.length) (hb : b ≤ i) : (s.drop b).take (i + 1 - b) = (s.drop b).take (i - b) ++ [s.getD i 0] := by
  rw [show i + 1 - b = (i - b) + 1 by omega]
  refine take_at ?_
  rw [List.getElem?_drop, show b + (i - b) = i by omega]
  exact getD_some hi
theorem lines_step {s : Str} {b i : Nat} (hi : i < s.length) (hb : b ≤ i) : linesG ((s.drop b).take (i - b)) (s.drop i) = if s.getD i 0 = 10 then (s.drop b).take (i + 1 - b) :: linesG ((s.drop (i + 1)).take (i + 1 - (i + 1))) (s.drop (i + 1)) else linesG ((s.drop b).take (i + 1 - b)) (s.drop (i + 1)) := by
  conv => lhs; rw [drop_at (getD_some (d := 0) hi), linesG]
  rw [front_snoc hi hb, Nat.sub_self, List.take_zero]
theorem u8_ten {a : UInt8} (h : ((a.toNat : Nat) : Int) = 10) : a = 10 := u8_eq (c := 10) h
theorem u8_not10 {a : UInt8} (h : ¬ ((a.toNat : Nat) : Int) = 10) : ¬ a = 10 := fun e => h (by rw [e]; rfl)
end Go.Proofs.YtjncpgcccgdeiaaGreatDoor

set_option linter.unusedSimpArgs false
set_option linter.unusedVariables false
set_option linter.unnecessarySimpa false
namespace Go.Proofs.YtjncpgcccgdeiaaGreatDoor
open Go Go.RowKit
section
variable {P : Program} {ops : Array Oper} {Q : Exit → Act → World → Prop} {n : Nat} {w0 w : World} {D : List Nat} {L : List Res} {e : Env}
variable {d : Option Tmp} {ty : TypeId} {pos : String} {aft : Array Edge} {gd : Option (Nat × Bool)}
theorem Src.str {P : Program} {w : World} (s : Str) : Src P w 1 s.length (str s) (s.map encB) := by
  have hz : (ByteArray.mk s.toArray).size = s.length := by simp [ByteArray.size]
  refine ⟨fun w' _ => ?_, ?_, by simp, ?_⟩
  · have e := Lib.run_firstCells_string (P := P) w' 1 (ByteArray.mk s.toArray)
    rw [hz] at e
    refine e.trans ?_
    rfl
  · show (pure (ByteArray.mk s.toArray).size : Sem Nat).run P w = _
    rw [hz]
    rfl
  · intro u hu
    obtain ⟨c, _, rfl⟩ := List.mem_map.1 hu
    rfl
theorem JO.appendS (i : Nat) {t u el k m c q by' : Nat} {x y : Operand} {vy : Value} {a : Option Addr} {cs news : List Value} {ti : TypeInfo} {z : Value}
    (hL : L[i]? = some (.row (.slice a m c) el k m cs)) (ht : P.underlying t = some (.slice el)) (hu : P.underlying u = some .string)
    (hti : ∀ w, (typeInfo el).run P w = .ok ti w) (hk : ti.size = k) (hby : ti.bytes = by') (hz : ti.zero = some z) (hzc : z.cells.size = k)
    (hx : rd n e x = .slice a m c) (hy : rd n e y = vy) (hsrc : ∀ w, St w0 D L w → Src P w k q vy news) (hb : (m + q) * by' ≤ 140737488355328) (hmax : m + q ≤ 9223372036854775807) :
    JO P n w0 D L e ⟨d, .call ⟨.builtin .append, #[x, y], #[t, u]⟩, ty, pos, aft, gd⟩ (fun v L' => ∃ a' c', v = .slice a' (m + q) c' ∧ L' = L.set i (.row (.slice a' (m + q) c') el k (m + q) (cs ++ news))) := JO.ofRun fun w hw => by
  have hrow := hw.get hL
  obtain ⟨hnf, hlen, hnl, hone⟩ := hsrc w hw
  have hnews := hnf w rfl
  have hnewsD : (Builtin.firstCells k q vy).run P w.drew = .ok news.toArray w.drew := hnf w.drew rfl
  have h63 : ¬ (9223372036854775807 < ((m : Int) + (q : Int))) := by omega
  have hsl : cs.length = m * k := hrow.1
  by_cases hroom : m + q ≤ c
  · rcases hrow.2 with ⟨hv, h0⟩ | ⟨g, cap, cur, hv, hg0, hg, h1, h2, h3, h4⟩
    · simp only [Value.slice.injEq] at hv
      obtain ⟨rfl, rfl, rfl⟩ := hv
      have hq : q = 0 := by omega
      subst hq
      have hn0 : news = [] := by simpa using hnl
      subst hn0
      refine ⟨_, _, w, ?_, ⟨none, 0, rfl, rfl⟩, ?_⟩
      · simp [execOp, resolve, invoke, builtin, hx, hy, Builtin.append_, run_underlying ht, run_underlying hu, sizeOf, hti, hk, hlen, hnews]
      · have : L.set i (.row (.slice none (0 + 0) 0) el k (0 + 0) (cs ++ [])) = L := by
          rw [List.append_nil]
          exact List.ext_getElem? fun j => by
            rw [List.getElem?_set]
            split
            · rename_i hij; subst hij; split <;> simp_all
            · rfl
        rw [this]; exact hw
    · simp only [Value.slice.injEq] at hv
      obtain ⟨rfl, _, rfl⟩ := hv
      have hfit : m * k + 0 + news.length ≤ cur.size := by
        refine Nat.le_trans ?_ h3
        rw [hnl, Nat.add_zero, ← Nat.add_mul]; exact Nat.mul_le_mul_right _ hroom
      have hst := run_storeCells_R P g (m * k) el news 0 cur w hg hfit hone
      simp only [Nat.add_zero] at hst
      refine ⟨_, _, w.setRow g (cur.toList.take (m * k) ++ news ++ cur.toList.drop (m * k + news.length)).toArray, ?_, ⟨some ⟨g, 0, none⟩, c, rfl, rfl⟩, ?_⟩
      · simp [execOp, resolve, invoke, builtin, hx, hy, Builtin.append_, run_underlying ht, run_underlying hu, sizeOf, hti, hk, hlen, hnews, hroom, add_lit, hst]
      · refine hw.turn1 hL rfl rfl rfl (by simp) (fun q' _ hq' => setRow_other w g q' _ (by simpa [Res.ids, Value.ownBlock] using hq')) ?_ (by simp [Res.ids, Value.ownBlock]) (fun q' hq' => .inl (by simpa [Res.ids, Value.ownBlock] using hq'))
        refine ⟨by rw [List.length_append, hsl, hnl, Nat.add_mul], .inr ⟨g, c, _, rfl, hg0, hg.setRow (by simp only [List.size_toArray, List.length_append, List.length_take, List.length_drop, Array.length_toList]; omega), hroom, h2, ?_, ?_⟩⟩
        · simp only [List.size_toArray, List.length_append, List.length_take, List.length_drop, Array.length_toList]
          omega
        · rw [h4, List.append_assoc, ← List.append_assoc cs]
          rw [List.take_append_of_le_length (by rw [List.length_append, hsl, hnl, Nat.add_mul]; exact Nat.le_refl _)]
          exact List.take_of_length_le (by rw [List.length_append, hsl, hnl, Nat.add_mul]; exact Nat.le_refl _)
  · have hnr : ¬ (m + q ≤ c) := hroom
    have h48 : ¬ (281474976710656 < Builtin.nextslicecap (m + q) c * by') := by
      have := growslice_fits (need := m + q) (old := c) (bytes := by') (by omega) hb
      omega
    have hold : (Builtin.firstCells k m (.slice a m c)).run P w.drew = .ok cs.toArray w.drew := by
      rcases hrow.2 with ⟨hv, h0⟩ | ⟨g, cap, cur, hv, hg0, hg, h1, h2, h3, h4⟩
      · simp only [Value.slice.injEq] at hv
        obtain ⟨rfl, rfl, rfl⟩ := hv
        simp only [Nat.zero_mul, List.length_eq_zero_iff] at hsl
        subst hsl
        simp [Builtin.firstCells]
      · simp only [Value.slice.injEq] at hv
        obtain ⟨rfl, _, rfl⟩ := hv
        refine run_firstCells_some w.drew k m ⟨g, 0, none⟩ m c cs hsl fun j v hj => ?_
        obtain ⟨g', hg', hc'⟩ := row_cell hrow hj
        simp only [Option.some.injEq, Addr.mk.injEq, and_true] at hg'
        rw [add_lit, Nat.zero_add, hg', World.cell?_drew]
        exact hc'
    have hgc := grownCap_ge w (m + q) c el
    have hgm := grownCap_le_maxLen w (m + q) c el (by unfold maxLen; omega)
    have hrest : (Builtin.zeroCells z.cells (grownCap w (m + q) c el - (m + q))).size = (grownCap w (m + q) c el - (m + q)) * k := by rw [size_zeroCells, hzc]
    have hst := (hw.drew).turn (A := [.row (.slice a m c) el k m cs]) (F := L.eraseIdx i)
      (A' := [.row (.slice (some ⟨w.heap.size, 0, none⟩) (m + q) (grownCap w (m + q) c el)) el k (m + q) (cs ++ news)])
      (w' := w.drew.alloc (.cells (cs.toArray ++ news.toArray ++ Builtin.zeroCells z.cells (grownCap w (m + q) c el - (m + q))) el))
      (perm_set i _ (.row (.slice a m c) el k m cs) hL).1 rfl rfl rfl (by simp) (fun q' hq' _ => Below.heap_alloc _ _ _ hq') (by
        intro r hr
        simp only [List.mem_singleton] at hr
        subst hr
        refine ⟨by rw [List.length_append, hsl, hnl, Nat.add_mul], .inr ⟨w.heap.size, _, _, rfl, Nat.zero_le _, CellsAt.new w.drew _ _, hgc, hgm, ?_, ?_⟩⟩
        · refine Nat.le_of_eq (Eq.symm ?_)
          simp only [Array.size_append, List.size_toArray, hsl, hnl, hrest]
          rw [← Nat.add_mul, ← Nat.add_mul]
          congr 1
          omega
        · simp only [Array.toList_append]
          rw [List.take_append_of_le_length (by rw [List.length_append, hsl, hnl, Nat.add_mul]; exact Nat.le_refl _)]
          exact List.take_of_length_le (by rw [List.length_append, hsl, hnl, Nat.add_mul]; exact Nat.le_refl _)) (by simp [idsOf, Res.ids, Value.ownBlock]) (by
        intro j hj
        simp only [idsOf, Res.ids, Value.ownBlock, List.flatMap_cons, List.flatMap_nil, List.append_nil, Option.mem_toList, Option.some.injEq] at hj
        exact .inr (by rw [← hj]; exact Nat.le_refl _))
    refine ⟨_, _, _, ?_, ⟨some ⟨w.heap.size, 0, none⟩, grownCap w (m + q) c el, rfl, rfl⟩, hst.perm (perm_set i _ _ hL).2⟩
    have h63' : ¬ (9223372036854775807 < ((m : Int) + (q : Int))) := h63
    simp [execOp, resolve, invoke, builtin, hx, hy, Builtin.append_, run_underlying ht, run_underlying hu, sizeOf, hti, hk, hby, hz, hlen, hnr, h63, h48, Question.forced, hold, hnewsD, newRow, zeroValue, grownCap]
    congr 2
    apply Array.ext'
    simp [List.append_assoc]
theorem JO.appendS' (i : Nat) {t u el k m c q by' n' : Nat} {x y : Operand} {vy : Value} {a : Option Addr} {cs news cs' : List Value} {ti : TypeInfo} {z : Value}
    (hL : L[i]? = some (.row (.slice a m c) el k m cs)) (ht : P.underlying t = some (.slice el)) (hu : P.underlying u = some .string)
    (hti : ∀ w, (typeInfo el).run P w = .ok ti w) (hk : ti.size = k) (hby : ti.bytes = by') (hz : ti.zero = some z) (hzc : z.cells.size = k)
    (hx : rd n e x = .slice a m c) (hy : rd n e y = vy) (hsrc : ∀ w, St w0 D L w → Src P w k q vy news) (hb : (m + q) * by' ≤ 140737488355328) (hmax : m + q ≤ 9223372036854775807) (hn : m + q = n') (hc : cs ++ news = cs') :
    JO P n w0 D L e ⟨d, .call ⟨.builtin .append, #[x, y], #[t, u]⟩, ty, pos, aft, gd⟩ (fun v L' => ∃ a' c', v = .slice a' n' c' ∧ L' = L.set i (.row (.slice a' n' c') el k n' cs')) := by
  subst hn; subst hc
  exact JO.appendS i hL ht hu hti hk hby hz hzc hx hy hsrc hb hmax
end
end Go.Proofs.YtjncpgcccgdeiaaGreatDoor

set_option linter.unusedSimpArgs false
set_option linter.unusedVariables false
set_option linter.unnecessarySimpa false
namespace Go.Proofs.YtjncpgcccgdeiaaGreatDoor
open Go Go.RowKit
attribute [local irreducible] JL JC JQ JO LO PO JA JX Ct

theorem Y_implSum (s : Str) (hs : s.length ≤ 9223372036854775807) :
    Ct Tryz.prog 82 [str s] [] (fun _ => True) (fun v A' => v = .int .i64 ((byteSum s : Nat) : Int) ∧ A' = []) := by
  refine Ct.intro Tryz.func82 rfl Tryz.ntmps82 (lb rfl) fun w0 hpre => ?_
  refine jC <| jF <| jA (jG (v := iv 0) rfl) <| jE <| jB <| jC <| jF <| jA (jG (v := iv 7) rfl) <| jE <| jB ?_
  refine jC <| jC <| jF <| jA (jD (v := str s) rfl) <| jA (kF kg rfl) <| jA (jD (v := iv 0) rfl) <| jE <| jB <| jf <| kD (fun k_ e_ L_ => ∃ j : Nat, ∃ q : Nat, (j ≤ s.length) ∧ (q ≤ 9972) ∧ (sumF q (s.drop j) = byteSum s) ∧ e_ 0 = str s ∧ e_ 2 = iv 0 ∧ e_ 3 = nv q ∧ e_ 6 = iv (s.length : Int) ∧ e_ 7 = nv j ∧ L_ = [] ∧ k_ = s.length - j) _ ⟨0, 7, by omega, by omega, rfl, rfl, rfl, rfl, rfl, rfl, rfl, rfl⟩ ?_
  rintro _ e_1 _ ⟨j, q, hj, hq, hR, he_2, he_3, he_4, he_5, he_6, rfl, rfl⟩
  refine jC <| jF <| jA (jl he_6 he_5) <| jE <| jB <| jC ?_
  by_cases h_7 : ((j : Nat) : Int) < (s.length : Int)
  · have hlt : j < s.length := by omega
    have hu8 := UInt8.toNat_lt (s.getD j 0)
    refine jW (cB (dT h_7)) <| jT <| jB <| jC <| jf <| jC <| jF <| jA (jD (v := nv j) he_6) <| jA (jG (v := nv j) rfl) <| jE ?_
    refine jB <| jF <| jA (jD (v := nv q) he_4) <| jA (PO.mul (c := ((31 * q : Nat) : Int)) rfl rfl (wr (by omega))) <| jA (jD (v := str s) he_2) <| jA (jD (v := nv j) rfl) <| jA (PO.indexS (i := j) (c := s.getD j 0) kg rfl rfl (getD_some (by omega))) ?_
    have hu_8 := UInt8.toNat_lt (s.getD j 0)
    refine jA (PO.convI (c := ((s.getD j 0).toNat : Int)) kv gC rfl (wr (by omega))) <| jA (jc (c := (((31 * q) + ((s.getD j 0).toNat) : Nat) : Int)) rfl rfl (wr (by omega))) <| jA (PO.remN (c := ((((31 * q) + ((s.getD j 0).toNat)) % 9973 : Nat) : Int)) rfl rfl (by omega) (by omega) (by omega)) <| jA (jG (v := iv ((((31 * q) + ((s.getD j 0).toNat)) % 9973 : Nat) : Int)) rfl) <| jE <| jm <| jB <| jF <| jA (jc (c := ((j + 1 : Nat) : Int)) he_6 rfl (wr (by omega))) <| jA (jD (v := iv ((j + 1 : Nat) : Int)) rfl) ?_
    refine jE ?_
    refine jq (s.length - (j + 1)) (by omega) ⟨j + 1, ((31 * q) + ((s.getD j 0).toNat)) % 9973, by omega, by omega, (by rw [sumF_step hlt] at hR; exact hR), he_2, he_3, rfl, he_5, rfl, rfl, rfl⟩
  refine jR (cB (dF h_7)) <| jx <| jb <| jb <| jy <| jB <| jC <| jF <| jA (jD (v := nv q) he_4) <| jA (jG (v := nv q) rfl) ?_
  refine jE <| jB <| jN <| jV (.inl rfl) rfl (jJ (v := nv q) rfl) (List.nil_sublist _) ?_
  refine ⟨congrArg (fun q : Nat => Value.int .i64 ((q : Nat) : Int)) ?_, rfl⟩
  rw [List.drop_of_length_le (by omega)] at hR
  exact hR

theorem Y_specSum (s : Str) (hs : s.length ≤ 9223372036854775807) :
    Ct Tryz.prog 94 [str s] [] (fun _ => True) (fun v A' => v = .int .i64 ((byteSum s : Nat) : Int) ∧ A' = []) := by
  refine Ct.intro Tryz.func94 rfl Tryz.ntmps94 (lb rfl) fun w0 hpre => ?_
  refine jC <| jF <| jA (jG (v := iv 0) rfl) <| jE <| jB <| jC <| jF <| jA (jG (v := iv 7) rfl) <| jE <| jB ?_
  refine jC <| jC <| jF <| jA (jG (v := iv 0) rfl) <| jE <| jB <| jf <| kD (fun k_ e_ L_ => ∃ j : Nat, ∃ q : Nat, (j ≤ s.length) ∧ (q ≤ 9972) ∧ (sumF q (s.drop j) = byteSum s) ∧ e_ 0 = str s ∧ e_ 2 = iv 0 ∧ e_ 3 = nv q ∧ e_ 4 = nv j ∧ L_ = [] ∧ k_ = s.length - j) _ ⟨0, 7, by omega, by omega, rfl, rfl, rfl, rfl, rfl, rfl, rfl⟩ ?_
  rintro _ e_1 _ ⟨j, q, hj, hq, hR, he_2, he_3, he_4, he_5, rfl, rfl⟩
  refine jC <| jC <| jF <| jA (jD (v := nv j) he_5) <| jA (jD (v := str s) he_2) <| jA (kF kg rfl) <| jA (jl rfl rfl) <| jE <| jB ?_
  by_cases h_6 : ((j : Nat) : Int) < (s.length : Int)
  · have hlt : j < s.length := by omega
    have hu8 := UInt8.toNat_lt (s.getD j 0)
    refine jW (cB (dT h_6)) <| jT <| jB <| jC <| jf <| jF <| jA (jD (v := nv q) he_4) <| jA (PO.mul (c := ((31 * q : Nat) : Int)) rfl rfl (wr (by omega))) <| jA (jD (v := str s) he_2) <| jA (jD (v := nv j) he_5) ?_
    refine jA (PO.indexS (i := j) (c := s.getD j 0) kg rfl rfl (getD_some (by omega))) ?_
    have hu_7 := UInt8.toNat_lt (s.getD j 0)
    refine jA (PO.convI (c := ((s.getD j 0).toNat : Int)) kv gC rfl (wr (by omega))) <| jA (jc (c := (((31 * q) + ((s.getD j 0).toNat) : Nat) : Int)) rfl rfl (wr (by omega))) <| jA (PO.remN (c := ((((31 * q) + ((s.getD j 0).toNat)) % 9973 : Nat) : Int)) rfl rfl (by omega) (by omega) (by omega)) <| jA (jG (v := iv ((((31 * q) + ((s.getD j 0).toNat)) % 9973 : Nat) : Int)) rfl) <| jE <| jm <| jB <| jF <| jA (jD (v := nv j) he_5) <| jA (jc (c := ((j + 1 : Nat) : Int)) rfl rfl (wr (by omega))) ?_
    refine jA (jG (v := iv ((j + 1 : Nat) : Int)) rfl) <| jE ?_
    refine jq (s.length - (j + 1)) (by omega) ⟨j + 1, ((31 * q) + ((s.getD j 0).toNat)) % 9973, by omega, by omega, (by rw [sumF_step hlt] at hR; exact hR), he_2, he_3, rfl, rfl, rfl, rfl⟩
  refine jR (cB (dF h_6)) <| jx <| jb <| jb <| jy <| jB <| jC <| jF <| jA (jD (v := nv q) he_4) <| jA (jG (v := nv q) rfl) ?_
  refine jE <| jB <| jN <| jV (.inl rfl) rfl (jJ (v := nv q) rfl) (List.nil_sublist _) ?_
  refine ⟨congrArg (fun q : Nat => Value.int .i64 ((q : Nat) : Int)) ?_, rfl⟩
  rw [List.drop_of_length_le (by omega)] at hR
  exact hR

theorem Y_sHex (s : Str) (hs : s.length ≤ 20000) : Ct Tryz.prog 93 [str s] [] (fun _ => True) (fun v A' => v = .tuple #[str (hexB s), .bool true] ∧ A' = []) :=
  (N_sHex s (by omega)).weak (fun _ h => h) fun v A' ⟨u, b, e, _, hv, hA⟩ => by
    rw [hexP_no (by omega)] at e
    simp only [Prod.mk.injEq] at e
    obtain ⟨rfl, rfl⟩ := e
    exact ⟨hv, hA⟩

set_option maxRecDepth 4000 in
set_option maxHeartbeats 1000000 in
theorem Y_sRec (seq : Int) (a : Option Addr) (c : Nat) (l : List Cell) (hl : okC l) :
    Ct Tryz.prog 41 [.int .i64 seq, .slice a l.length c] [] (fun w => Sees w (.slice a l.length c) 2 l.length (l.flatMap encC)) (fun v A' => v = str (recText seq l) ∧ A' = []) := by
  refine Ct.intro Tryz.func41 rfl Tryz.ntmps41 (lb rfl) fun w0 hpre => ?_
  have hs_a : Sees w0 _ _ _ _ := hpre
  have hll := hl.1
  refine jC <| jF <| jA (jG (v := str []) rfl) <| jE <| jB <| jC <| jC <| jF <| jA (jD (v := iv seq) rfl) ?_
  refine jH rfl (jI [] Tryz.call89 rfl (Y_l01In seq 1 100000) rfl (fun _ _ => trivial)) ?_
  rintro _ _ ⟨_, ⟨rfl, rfl⟩, rfl⟩
  refine jA (jp rfl) <| jE <| jB ?_
  rcases Bool.eq_false_or_eq_true (within 1 seq 100000) with h_1 | h_1
  · refine jR (cB (cN h_1)) <| jT <| jB <| jC ?_
    have hwi := (show 1 ≤ seq ∧ seq ≤ 100000 by simpa only [within, Bool.and_eq_true, decide_eq_true_eq] using h_1)
    have hdl := dec_len (n := seq) (by omega) (by omega)
    refine jF <| jA (jD (v := iv seq) rfl) ?_
    refine jH rfl (jI [] Tryz.call91 rfl (C_sDec seq (by omega) (by omega)) rfl (fun _ _ => trivial)) ?_
    rintro _ _ ⟨_, ⟨rfl, rfl⟩, rfl⟩
    have hdl_2 := dec_len (n := seq) (by omega) (by omega)
    refine jH rfl (JO.toBytes kg kr kv rfl (by unfold maxLen; omega)) ?_
    rintro _ _ ⟨a_3, c_4, rfl, rfl⟩
    refine jA (jG (v := .slice a_3 ((dec seq).length) c_4) rfl) <| jE <| jB <| jC <| jC <| jF <| jA (jG (v := iv 0) rfl) <| jE <| jB <| jf ?_
    refine kD (fun k_ e_ L_ => ∃ j : Nat, ∃ oa : Option Addr, ∃ oc : Nat, ∃ b : Str, (j ≤ l.length) ∧ (b.length ≤ 5000) ∧ (recGo b (l.drop j) = recGo (dec seq) l) ∧ e_ 1 = .slice a l.length c ∧ e_ 5 = .slice oa b.length oc ∧ e_ 6 = nv j ∧ L_ = [Res.row (.slice oa b.length oc) 5 1 b.length (b.map encB)] ∧ k_ = l.length - j) _ ⟨0, a_3, c_4, (dec seq), by omega, by omega, rfl, rfl, rfl, rfl, rfl, rfl⟩ ?_
    rintro _ e_5 _ ⟨j, oa, oc, b, hj, hb, hR, he_6, he_7, he_8, rfl, rfl⟩
    refine jC <| jC <| jF <| jA (jD (v := nv j) he_8) <| jA (jD (v := .slice a l.length c) he_6) <| jA (jr kf rfl) <| jA (jl rfl rfl) <| jE <| jB ?_
    by_cases h_9 : ((j : Nat) : Int) < ((l.length : Nat) : Int)
    · have hlt : j < l.length := by omega
      refine jW (cB (dT h_9)) <| jT <| jB <| jC <| jf <| jC <| jC <| jF <| jA (jD (v := .slice a l.length c) he_6) <| jA (jD (v := nv j) he_8) ?_
      obtain ⟨hr_10, hr_10b, -⟩ := sees_some hs_a (by omega)
      refine jA (jk (i := j) kf kh hr_10 hr_10b rfl rfl (by omega)) <| jA (kL fo48_0 hr_10 rfl) <| jK (kY (v := str ((l.getD j c0).1)) hs_a nM rfl ki (atC1 (by omega))) ?_
      refine jH rfl (jI [] Tryz.call92 rfl (Y_specKeyOk ((l.getD j c0).1) (hl.2 j hlt).1) rfl (fun _ _ => trivial)) ?_
      rintro _ _ ⟨_, ⟨rfl, rfl⟩, rfl⟩
      refine jA (jp rfl) <| jA (jD (v := .bool (!(keyOk ((l.getD j c0).1)))) rfl) ?_
      rcases Bool.eq_false_or_eq_true (keyOk ((l.getD j c0).1)) with h_11 | h_11
      · have hk40 := keyOk_len h_11
        refine jM rfl rfl rfl (cB (cN h_11)) (jP (jU (jD (v := .slice a l.length c) he_6))) ?_
        rintro _ _ ⟨rfl, rfl⟩
        refine jM rfl rfl rfl (cB (cN h_11)) (jP (jU (jD (v := nv j) he_8))) ?_
        rintro _ _ ⟨rfl, rfl⟩
        refine jM rfl rfl rfl (cB (cN h_11)) (jP (jU (jk (i := j) kf kh hr_10 hr_10b rfl rfl (by omega)))) ?_
        rintro _ _ ⟨rfl, rfl⟩
        refine jM rfl rfl rfl (cB (cN h_11)) (jP (jU (kL fo48_1 hr_10 rfl))) ?_
        rintro _ _ ⟨rfl, rfl⟩
        refine jM rfl rfl rfl (cB (cN h_11)) (jP (kY (v := str ((l.getD j c0).2)) hs_a nM rfl ki (atC2 (by omega)))) ?_
        rintro _ _ ⟨rfl, rfl⟩
        refine jM rfl rfl rfl (cB (cN h_11)) (jP (jU (kF kg rfl))) ?_
        rintro _ _ ⟨rfl, rfl⟩
        refine jM rfl rfl rfl (cB (cN h_11)) (jP (jU (kR rfl rfl))) ?_
        rintro _ _ ⟨rfl, rfl⟩
        refine jA (ji (v := .bool (decide (60 < (((l.getD j c0).2).length : Int)))) (cB (cN h_11)) rfl) <| jA (jD (v := .bool (decide (60 < (((l.getD j c0).2).length : Int)))) rfl) ?_
        by_cases h_12 : 60 < (((l.getD j c0).2).length : Int)
        · refine jS (b := true) rfl rfl rfl (cB (dT h_12)) <| jS (b := true) rfl rfl rfl (cB (dT h_12)) <| jS (b := true) rfl rfl rfl (cB (dT h_12)) <| jA (jh (v := .bool true) (cB (dT h_12)) rfl) <| jE <| jB <| jW (cB rfl) <| jC <| jF <| jA (jG (v := str []) rfl) ?_
          refine jE <| jB <| jN <| jX <| jv <| jX <| jX <| jv <| jX <| jV (.inl rfl) rfl (jJ (v := str []) rfl) (List.nil_sublist _) ?_
          refine ⟨congrArg str ?_, rfl⟩
          have hrt : recText seq l = recGo (dec seq) l := by unfold recText; rw [if_pos h_1]
          rw [hrt, ← hR, recGo_step hlt, if_pos (by simp only [recBad, Bool.and_true, Bool.true_and, Bool.and_false, Bool.false_and, Bool.or_true, Bool.true_or, Bool.or_false, Bool.false_or, Bool.not_true, Bool.not_false, (h_1), ((dT h_9)), (h_11), ((dT h_12))])]
        refine jM rfl rfl rfl (cB (dF h_12)) (jP (jU (jD (v := .slice oa b.length oc) he_7))) ?_
        rintro _ _ ⟨rfl, rfl⟩
        refine jM rfl rfl rfl (cB (dF h_12)) (jP (jU (jr kr rfl))) ?_
        rintro _ _ ⟨rfl, rfl⟩
        refine jM rfl rfl rfl (cB (dF h_12)) (jP (jU (kR rfl rfl))) ?_
        rintro _ _ ⟨rfl, rfl⟩
        refine jA (ji (v := .bool (decide (4000 < ((b.length : Nat) : Int)))) (cB (dF h_12)) rfl) <| jE <| jB ?_
        by_cases h_13 : 4000 < ((b.length : Nat) : Int)
        · refine jW (cB (dT h_13)) <| jC <| jF <| jA (jG (v := str []) rfl) <| jE <| jB <| jN <| jX <| jv <| jX ?_
          refine jX <| jv <| jX <| jV (.inl rfl) rfl (jJ (v := str []) rfl) (List.nil_sublist _) ?_
          refine ⟨congrArg str ?_, rfl⟩
          have hrt : recText seq l = recGo (dec seq) l := by unfold recText; rw [if_pos h_1]
          rw [hrt, ← hR, recGo_step hlt, if_pos (by simp only [recBad, Bool.and_true, Bool.true_and, Bool.and_false, Bool.false_and, Bool.or_true, Bool.true_or, Bool.or_false, Bool.false_or, Bool.not_true, Bool.not_false, (h_1), ((dT h_9)), (h_11), ((dF h_12)), ((dT h_13))])]
        refine jR (cB (dF h_13)) <| jT <| jB <| jC <| jF <| jA (jD (v := .slice a l.length c) he_6) <| jA (jD (v := nv j) he_8) <| jA (jk (i := j) kf kh hr_10 hr_10b rfl rfl (by omega)) <| jA (kL fo48_0 hr_10 rfl) <| jK (kY (v := str ((l.getD j c0).1)) hs_a nM rfl ki (atC1 (by omega))) ?_
        refine jH rfl (jI [] Tryz.call93 rfl (Y_sHex ((l.getD j c0).1) (by omega)) rfl (fun _ _ => trivial)) ?_
        rintro _ _ ⟨_, ⟨rfl, rfl⟩, rfl⟩
        have hxl_14 := hexB_len ((l.getD j c0).1)
        refine jA (jD (v := .tuple #[str (hexB ((l.getD j c0).1)), .bool true]) rfl) <| jA (je (v := str (hexB ((l.getD j c0).1))) rfl rfl) <| jA (je (v := .bool true) rfl rfl) <| jA (jG (v := str (hexB ((l.getD j c0).1))) rfl) <| jA (jG (v := .bool true) rfl) <| jE <| jB <| jC <| jF <| jA (jD (v := .slice a l.length c) he_6) ?_
        refine jA (jD (v := nv j) he_8) <| jA (jk (i := j) kf kh hr_10 hr_10b rfl rfl (by omega)) <| jA (kL fo48_1 hr_10 rfl) <| jK (kY (v := str ((l.getD j c0).2)) hs_a nM rfl ki (atC2 (by omega))) ?_
        refine jH rfl (jI [] Tryz.call93 rfl (Y_sHex ((l.getD j c0).2) (by omega)) rfl (fun _ _ => trivial)) ?_
        rintro _ _ ⟨_, ⟨rfl, rfl⟩, rfl⟩
        have hxl_15 := hexB_len ((l.getD j c0).2)
        refine jA (jD (v := .tuple #[str (hexB ((l.getD j c0).2)), .bool true]) rfl) <| jA (je (v := str (hexB ((l.getD j c0).2))) rfl rfl) <| jA (je (v := .bool true) rfl rfl) <| jA (jG (v := str (hexB ((l.getD j c0).2))) rfl) <| jA (jG (v := .bool true) rfl) <| jE <| jB <| jF <| jA (jD (v := .slice oa b.length oc) he_7) ?_
        refine jH rfl (kH (ps := [(0, .int .u8 32)]) (cur := #[.int .u8 32]) kr gH gK rfl (by kernel_rfl) (by decide) (by decide)) ?_
        rintro _ _ ⟨a_16, rfl, rfl⟩
        refine jH rfl (kU 1 (q := 1) (news := ([32] : List UInt8).map encB) (n' := (b ++ ([32] : List UInt8)).length) (cs' := (b ++ ([32] : List UInt8)).map encB) rfl kr kr Tryz.typeInfo5 rfl (by' := 1) rfl rfl rfl rfl rfl (fun w hw => Src.sees (hw.see (i := 0) rfl) (oneB _)) (by (try simp only [LE]); omega) (by (try simp only [LE]); omega) (by simp only [List.length_append, List.length_take, List.length_drop, List.length_cons, List.length_nil] <;> first | rfl | omega) (by simp only [List.map_append])) ?_
        rintro _ _ ⟨a_17, c_18, rfl, rfl⟩
        refine jA (jD (v := str (hexB ((l.getD j c0).1))) rfl) ?_
        refine jH rfl (JO.appendS' 1 (q := (hexB ((l.getD j c0).1)).length) (news := (hexB ((l.getD j c0).1)).map encB) (n' := ((b ++ ([32] : List UInt8)) ++ (hexB ((l.getD j c0).1))).length) (cs' := ((b ++ ([32] : List UInt8)) ++ (hexB ((l.getD j c0).1))).map encB) rfl kr kg Tryz.typeInfo5 rfl (by' := 1) rfl rfl rfl rfl rfl (fun w hw => Src.str (hexB ((l.getD j c0).1))) (by (try simp only [List.length_append, List.length_cons, List.length_nil]); omega) (by (try simp only [List.length_append, List.length_cons, List.length_nil]); omega) (by simp only [List.length_append]) (by simp only [List.map_append])) ?_
        rintro _ _ ⟨a_19, c_20, rfl, rfl⟩
        refine jH rfl (kH (ps := [(0, .int .u8 61)]) (cur := #[.int .u8 61]) kr gH gK rfl (by kernel_rfl) (by decide) (by decide)) ?_
        rintro _ _ ⟨a_21, rfl, rfl⟩
        refine jH rfl (kU 2 (q := 1) (news := ([61] : List UInt8).map encB) (n' := (((b ++ ([32] : List UInt8)) ++ (hexB ((l.getD j c0).1))) ++ ([61] : List UInt8)).length) (cs' := (((b ++ ([32] : List UInt8)) ++ (hexB ((l.getD j c0).1))) ++ ([61] : List UInt8)).map encB) rfl kr kr Tryz.typeInfo5 rfl (by' := 1) rfl rfl rfl rfl rfl (fun w hw => Src.sees (hw.see (i := 0) rfl) (oneB _)) (by (try simp only [LE]); omega) (by (try simp only [LE]); omega) (by simp only [List.length_append, List.length_take, List.length_drop, List.length_cons, List.length_nil] <;> first | rfl | omega) (by simp only [List.map_append])) ?_
        rintro _ _ ⟨a_22, c_23, rfl, rfl⟩
        refine jA (jD (v := str (hexB ((l.getD j c0).2))) rfl) ?_
        refine jH rfl (JO.appendS' 2 (q := (hexB ((l.getD j c0).2)).length) (news := (hexB ((l.getD j c0).2)).map encB) (n' := ((((b ++ ([32] : List UInt8)) ++ (hexB ((l.getD j c0).1))) ++ ([61] : List UInt8)) ++ (hexB ((l.getD j c0).2))).length) (cs' := ((((b ++ ([32] : List UInt8)) ++ (hexB ((l.getD j c0).1))) ++ ([61] : List UInt8)) ++ (hexB ((l.getD j c0).2))).map encB) rfl kr kg Tryz.typeInfo5 rfl (by' := 1) rfl rfl rfl rfl rfl (fun w hw => Src.str (hexB ((l.getD j c0).2))) (by (try simp only [List.length_append, List.length_cons, List.length_nil]); omega) (by (try simp only [List.length_append, List.length_cons, List.length_nil]); omega) (by simp only [List.length_append]) (by simp only [List.map_append])) ?_
        rintro _ _ ⟨a_24, c_25, rfl, rfl⟩
        refine jA (jG (v := .slice a_24 (((((b ++ ([32] : List UInt8)) ++ (hexB ((l.getD j c0).1))) ++ ([61] : List UInt8)) ++ (hexB ((l.getD j c0).2))).length) c_25) rfl) <| jE <| jm <| jB <| jF <| jA (jD (v := nv j) he_8) <| jA (jc (c := ((j + 1 : Nat) : Int)) rfl rfl (wr (by omega))) <| jA (jG (v := iv ((j + 1 : Nat) : Int)) rfl) <| jE <| kB [2] (A := [Res.row (.slice a_24 (((((b ++ ([32] : List UInt8)) ++ (hexB ((l.getD j c0).1))) ++ ([61] : List UInt8)) ++ (hexB ((l.getD j c0).2))).length) c_25) 5 1 (((((b ++ ([32] : List UInt8)) ++ (hexB ((l.getD j c0).1))) ++ ([61] : List UInt8)) ++ (hexB ((l.getD j c0).2))).length) (((((b ++ ([32] : List UInt8)) ++ (hexB ((l.getD j c0).1))) ++ ([61] : List UInt8)) ++ (hexB ((l.getD j c0).2))).map encB)]) rfl ?_
        refine jq (l.length - (j + 1)) (by omega) ⟨j + 1, a_24, c_25, ((((b ++ ([32] : List UInt8)) ++ (hexB ((l.getD j c0).1))) ++ ([61] : List UInt8)) ++ (hexB ((l.getD j c0).2))), by omega, (by simp only [List.length_append, List.length_cons, List.length_nil]; omega), (by rw [recGo_step hlt, if_neg (by simp only [recBad, Bool.and_true, Bool.true_and, Bool.and_false, Bool.false_and, Bool.or_true, Bool.true_or, Bool.or_false, Bool.false_or, Bool.not_true, Bool.not_false, (h_1), ((dT h_9)), (h_11), ((dF h_12)), ((dF h_13))]; exact Bool.false_ne_true)] at hR; simp only [recRow, ← List.append_assoc] at hR; exact hR), he_6, rfl, rfl, rfl, rfl⟩
      refine jS (b := true) rfl rfl rfl (cB (cN h_11)) <| jS (b := true) rfl rfl rfl (cB (cN h_11)) <| jS (b := true) rfl rfl rfl (cB (cN h_11)) <| jS (b := true) rfl rfl rfl (cB (cN h_11)) <| jS (b := true) rfl rfl rfl (cB (cN h_11)) <| jS (b := true) rfl rfl rfl (cB (cN h_11)) <| jS (b := true) rfl rfl rfl (cB (cN h_11)) <| jA (jh (v := .bool true) (cB (cN h_11)) rfl) <| jA (jD (v := .bool true) rfl) <| jS (b := true) rfl rfl rfl (cB rfl) ?_
      refine jS (b := true) rfl rfl rfl (cB rfl) <| jS (b := true) rfl rfl rfl (cB rfl) <| jA (jh (v := .bool true) (cB rfl) rfl) <| jE <| jB <| jW (cB rfl) <| jC <| jF <| jA (jG (v := str []) rfl) <| jE ?_
      refine jB <| jN <| jX <| jv <| jX <| jX <| jv <| jX <| jV (.inl rfl) rfl (jJ (v := str []) rfl) (List.nil_sublist _) ?_
      refine ⟨congrArg str ?_, rfl⟩
      have hrt : recText seq l = recGo (dec seq) l := by unfold recText; rw [if_pos h_1]
      rw [hrt, ← hR, recGo_step hlt, if_pos (by simp only [recBad, Bool.and_true, Bool.true_and, Bool.and_false, Bool.false_and, Bool.or_true, Bool.true_or, Bool.or_false, Bool.false_or, Bool.not_true, Bool.not_false, (h_1), ((dT h_9)), (h_11)])]
    refine jR (cB (dF h_9)) <| jx <| jb <| jb <| jy <| jB <| jC <| kJ [Res.row (.slice oa b.length oc) 5 1 b.length (b.map encB)] 7 mixed (by simp) <| jL 0 rfl (jD (v := .slice oa b.length oc) he_7) <| jL 3 rfl (jD (v := .slice oa b.length oc) he_7) ?_
    refine JA.two (i := 1) (j := 4) (by kernel_rfl) ?_ ?_
    · refine jz rfl rfl (jP (LO.toStr 0 b rfl kr kv kg rfl rfl)) ?_
      rintro _ _ ⟨rfl, rfl⟩
      refine ⟨by simp, ?_⟩
      refine jL 2 rfl (kc rfl rfl (by (try simp only [List.length_append, List.length_cons, List.length_nil, List.length_drop, List.length_take]); omega)) <| jj (i := 4) ?_
      refine jz rfl rfl (jP (LO.toStr 0 b rfl kr kv kg rfl rfl)) ?_
      rintro _ _ ⟨rfl, rfl⟩
      refine ⟨by simp, ?_⟩
      refine jj (i := 5) ?_
      refine jz rfl rfl (jI [] Tryz.call94 rfl (Y_specSum b (by (try simp only [List.length_append, List.length_cons, List.length_nil]); omega)) rfl (fun _ _ => trivial)) ?_
      rintro _ _ ⟨_, ⟨rfl, rfl⟩, rfl⟩
      have hbs_27 := byteSum_lo b
      refine ⟨by simp, ?_⟩
      refine jj (i := 6) ?_
      refine jz rfl rfl (jI [] Tryz.call91 rfl (C_sDec ((byteSum b : Nat) : Int) (by omega) (by omega)) rfl (fun _ _ => trivial)) ?_
      rintro _ _ ⟨_, ⟨rfl, rfl⟩, rfl⟩
      have hdl_29 := dec_len (n := ((byteSum b : Nat) : Int)) (by omega) (by omega)
      refine ⟨by simp, ?_⟩
      refine jL 7 rfl (kc rfl rfl (by (try simp only [List.length_append, List.length_cons, List.length_nil, List.length_drop, List.length_take]); omega)) <| jL 8 rfl (kc rfl rfl (by (try simp only [List.length_append, List.length_cons, List.length_nil, List.length_drop, List.length_take]); omega)) <| jL 9 rfl (jG (v := str (((b ++ [32, 35]) ++ (dec ((byteSum b : Nat) : Int))) ++ [10])) rfl) <| kI (by kernel_rfl) <| jB <| jC <| jC <| jF <| jA (jD (v := str (((b ++ [32, 35]) ++ (dec ((byteSum b : Nat) : Int))) ++ [10])) rfl) <| jA (kF kg rfl) ?_
      refine jA (kR rfl rfl) <| jE <| jB ?_
      by_cases h_30 : 4000 < ((((b ++ [32, 35]) ++ (dec ((byteSum b : Nat) : Int))) ++ [10]).length : Int)
      · refine jW (cB (dT h_30)) <| jC <| jF <| jA (jG (v := str []) rfl) <| jE <| jB <| jN <| jX <| jV (.inl rfl) rfl (jJ (v := str []) rfl) (List.nil_sublist _) ?_
        refine ⟨congrArg str ?_, rfl⟩
        have hrt : recText seq l = recGo (dec seq) l := by unfold recText; rw [if_pos h_1]
        rw [hrt, ← hR, List.drop_of_length_le (by omega), recGo, recEnd]
        first | rw [if_pos (by assumption)] | rw [if_neg (by assumption)]
      refine jR (cB (dF h_30)) <| jT <| jB <| jC <| jF <| jA (jD (v := str (((b ++ [32, 35]) ++ (dec ((byteSum b : Nat) : Int))) ++ [10])) rfl) <| jA (jG (v := str (((b ++ [32, 35]) ++ (dec ((byteSum b : Nat) : Int))) ++ [10])) rfl) <| jE <| jB <| jN ?_
      refine jV (.inl rfl) rfl (jJ (v := str (((b ++ [32, 35]) ++ (dec ((byteSum b : Nat) : Int))) ++ [10])) rfl) (List.nil_sublist _) ?_
      refine ⟨congrArg str ?_, rfl⟩
      have hrt : recText seq l = recGo (dec seq) l := by unfold recText; rw [if_pos h_1]
      rw [hrt, ← hR, List.drop_of_length_le (by omega), recGo, recEnd]
      first | rw [if_pos (by assumption)] | rw [if_neg (by assumption)]
    refine jz rfl rfl (jP (LO.toStr 0 b rfl kr kv kg rfl rfl)) ?_
    rintro _ _ ⟨rfl, rfl⟩
    refine ⟨by simp, ?_⟩
    refine JA.two (i := 1) (j := 5) (by kernel_rfl) ?_ ?_
    · refine jz rfl rfl (jP (LO.toStr 0 b rfl kr kv kg rfl rfl)) ?_
      rintro _ _ ⟨rfl, rfl⟩
      refine ⟨by simp, ?_⟩
      refine jL 2 rfl (kc rfl rfl (by (try simp only [List.length_append, List.length_cons, List.length_nil, List.length_drop, List.length_take]); omega)) <| jj (i := 5) ?_
      refine jz rfl rfl (jI [] Tryz.call94 rfl (Y_specSum b (by (try simp only [List.length_append, List.length_cons, List.length_nil]); omega)) rfl (fun _ _ => trivial)) ?_
      rintro _ _ ⟨_, ⟨rfl, rfl⟩, rfl⟩
      have hbs_33 := byteSum_lo b
      refine ⟨by simp, ?_⟩
      refine jj (i := 6) ?_
      refine jz rfl rfl (jI [] Tryz.call91 rfl (C_sDec ((byteSum b : Nat) : Int) (by omega) (by omega)) rfl (fun _ _ => trivial)) ?_
      rintro _ _ ⟨_, ⟨rfl, rfl⟩, rfl⟩
      have hdl_35 := dec_len (n := ((byteSum b : Nat) : Int)) (by omega) (by omega)
      refine ⟨by simp, ?_⟩
      refine jL 7 rfl (kc rfl rfl (by (try simp only [List.length_append, List.length_cons, List.length_nil, List.length_drop, List.length_take]); omega)) <| jL 8 rfl (kc rfl rfl (by (try simp only [List.length_append, List.length_cons, List.length_nil, List.length_drop, List.length_take]); omega)) <| jL 9 rfl (jG (v := str (((b ++ [32, 35]) ++ (dec ((byteSum b : Nat) : Int))) ++ [10])) rfl) <| kI (by kernel_rfl) <| jB <| jC <| jC <| jF <| jA (jD (v := str (((b ++ [32, 35]) ++ (dec ((byteSum b : Nat) : Int))) ++ [10])) rfl) <| jA (kF kg rfl) ?_
      refine jA (kR rfl rfl) <| jE <| jB ?_
      by_cases h_36 : 4000 < ((((b ++ [32, 35]) ++ (dec ((byteSum b : Nat) : Int))) ++ [10]).length : Int)
      · refine jW (cB (dT h_36)) <| jC <| jF <| jA (jG (v := str []) rfl) <| jE <| jB <| jN <| jX <| jV (.inl rfl) rfl (jJ (v := str []) rfl) (List.nil_sublist _) ?_
        refine ⟨congrArg str ?_, rfl⟩
        have hrt : recText seq l = recGo (dec seq) l := by unfold recText; rw [if_pos h_1]
        rw [hrt, ← hR, List.drop_of_length_le (by omega), recGo, recEnd]
        first | rw [if_pos (by assumption)] | rw [if_neg (by assumption)]
      refine jR (cB (dF h_36)) <| jT <| jB <| jC <| jF <| jA (jD (v := str (((b ++ [32, 35]) ++ (dec ((byteSum b : Nat) : Int))) ++ [10])) rfl) <| jA (jG (v := str (((b ++ [32, 35]) ++ (dec ((byteSum b : Nat) : Int))) ++ [10])) rfl) <| jE <| jB <| jN ?_
      refine jV (.inl rfl) rfl (jJ (v := str (((b ++ [32, 35]) ++ (dec ((byteSum b : Nat) : Int))) ++ [10])) rfl) (List.nil_sublist _) ?_
      refine ⟨congrArg str ?_, rfl⟩
      have hrt : recText seq l = recGo (dec seq) l := by unfold recText; rw [if_pos h_1]
      rw [hrt, ← hR, List.drop_of_length_le (by omega), recGo, recEnd]
      first | rw [if_pos (by assumption)] | rw [if_neg (by assumption)]
    refine jz rfl rfl (jI [] Tryz.call94 rfl (Y_specSum b (by (try simp only [List.length_append, List.length_cons, List.length_nil]); omega)) rfl (fun _ _ => trivial)) ?_
    rintro _ _ ⟨_, ⟨rfl, rfl⟩, rfl⟩
    have hbs_37 := byteSum_lo b
    refine ⟨by simp, ?_⟩
    refine JA.two (i := 1) (j := 6) (by kernel_rfl) ?_ ?_
    · refine jz rfl rfl (jP (LO.toStr 0 b rfl kr kv kg rfl rfl)) ?_
      rintro _ _ ⟨rfl, rfl⟩
      refine ⟨by simp, ?_⟩
      refine jL 2 rfl (kc rfl rfl (by (try simp only [List.length_append, List.length_cons, List.length_nil, List.length_drop, List.length_take]); omega)) <| jj (i := 6) ?_
      refine jz rfl rfl (jI [] Tryz.call91 rfl (C_sDec ((byteSum b : Nat) : Int) (by omega) (by omega)) rfl (fun _ _ => trivial)) ?_
      rintro _ _ ⟨_, ⟨rfl, rfl⟩, rfl⟩
      have hdl_40 := dec_len (n := ((byteSum b : Nat) : Int)) (by omega) (by omega)
      refine ⟨by simp, ?_⟩
      refine jL 7 rfl (kc rfl rfl (by (try simp only [List.length_append, List.length_cons, List.length_nil, List.length_drop, List.length_take]); omega)) <| jL 8 rfl (kc rfl rfl (by (try simp only [List.length_append, List.length_cons, List.length_nil, List.length_drop, List.length_take]); omega)) <| jL 9 rfl (jG (v := str (((b ++ [32, 35]) ++ (dec ((byteSum b : Nat) : Int))) ++ [10])) rfl) <| kI (by kernel_rfl) <| jB <| jC <| jC <| jF <| jA (jD (v := str (((b ++ [32, 35]) ++ (dec ((byteSum b : Nat) : Int))) ++ [10])) rfl) <| jA (kF kg rfl) ?_
      refine jA (kR rfl rfl) <| jE <| jB ?_
      by_cases h_41 : 4000 < ((((b ++ [32, 35]) ++ (dec ((byteSum b : Nat) : Int))) ++ [10]).length : Int)
      · refine jW (cB (dT h_41)) <| jC <| jF <| jA (jG (v := str []) rfl) <| jE <| jB <| jN <| jX <| jV (.inl rfl) rfl (jJ (v := str []) rfl) (List.nil_sublist _) ?_
        refine ⟨congrArg str ?_, rfl⟩
        have hrt : recText seq l = recGo (dec seq) l := by unfold recText; rw [if_pos h_1]
        rw [hrt, ← hR, List.drop_of_length_le (by omega), recGo, recEnd]
        first | rw [if_pos (by assumption)] | rw [if_neg (by assumption)]
      refine jR (cB (dF h_41)) <| jT <| jB <| jC <| jF <| jA (jD (v := str (((b ++ [32, 35]) ++ (dec ((byteSum b : Nat) : Int))) ++ [10])) rfl) <| jA (jG (v := str (((b ++ [32, 35]) ++ (dec ((byteSum b : Nat) : Int))) ++ [10])) rfl) <| jE <| jB <| jN ?_
      refine jV (.inl rfl) rfl (jJ (v := str (((b ++ [32, 35]) ++ (dec ((byteSum b : Nat) : Int))) ++ [10])) rfl) (List.nil_sublist _) ?_
      refine ⟨congrArg str ?_, rfl⟩
      have hrt : recText seq l = recGo (dec seq) l := by unfold recText; rw [if_pos h_1]
      rw [hrt, ← hR, List.drop_of_length_le (by omega), recGo, recEnd]
      first | rw [if_pos (by assumption)] | rw [if_neg (by assumption)]
    refine jz rfl rfl (jI [] Tryz.call91 rfl (C_sDec ((byteSum b : Nat) : Int) (by omega) (by omega)) rfl (fun _ _ => trivial)) ?_
    rintro _ _ ⟨_, ⟨rfl, rfl⟩, rfl⟩
    have hdl_42 := dec_len (n := ((byteSum b : Nat) : Int)) (by omega) (by omega)
    refine ⟨by simp, ?_⟩
    refine jj (i := 1) ?_
    refine jz rfl rfl (jP (LO.toStr 0 b rfl kr kv kg rfl rfl)) ?_
    rintro _ _ ⟨rfl, rfl⟩
    refine ⟨by simp, ?_⟩
    refine jL 2 rfl (kc rfl rfl (by (try simp only [List.length_append, List.length_cons, List.length_nil, List.length_drop, List.length_take]); omega)) <| jL 7 rfl (kc rfl rfl (by (try simp only [List.length_append, List.length_cons, List.length_nil, List.length_drop, List.length_take]); omega)) <| jL 8 rfl (kc rfl rfl (by (try simp only [List.length_append, List.length_cons, List.length_nil, List.length_drop, List.length_take]); omega)) <| jL 9 rfl (jG (v := str (((b ++ [32, 35]) ++ (dec ((byteSum b : Nat) : Int))) ++ [10])) rfl) <| kI (by kernel_rfl) <| jB <| jC <| jC <| jF <| jA (jD (v := str (((b ++ [32, 35]) ++ (dec ((byteSum b : Nat) : Int))) ++ [10])) rfl) ?_
    refine jA (kF kg rfl) <| jA (kR rfl rfl) <| jE <| jB ?_
    by_cases h_43 : 4000 < ((((b ++ [32, 35]) ++ (dec ((byteSum b : Nat) : Int))) ++ [10]).length : Int)
    · refine jW (cB (dT h_43)) <| jC <| jF <| jA (jG (v := str []) rfl) <| jE <| jB <| jN <| jX <| jV (.inl rfl) rfl (jJ (v := str []) rfl) (List.nil_sublist _) ?_
      refine ⟨congrArg str ?_, rfl⟩
      have hrt : recText seq l = recGo (dec seq) l := by unfold recText; rw [if_pos h_1]
      rw [hrt, ← hR, List.drop_of_length_le (by omega), recGo, recEnd]
      first | rw [if_pos (by assumption)] | rw [if_neg (by assumption)]
    refine jR (cB (dF h_43)) <| jT <| jB <| jC <| jF <| jA (jD (v := str (((b ++ [32, 35]) ++ (dec ((byteSum b : Nat) : Int))) ++ [10])) rfl) <| jA (jG (v := str (((b ++ [32, 35]) ++ (dec ((byteSum b : Nat) : Int))) ++ [10])) rfl) <| jE <| jB <| jN ?_
    refine jV (.inl rfl) rfl (jJ (v := str (((b ++ [32, 35]) ++ (dec ((byteSum b : Nat) : Int))) ++ [10])) rfl) (List.nil_sublist _) ?_
    refine ⟨congrArg str ?_, rfl⟩
    have hrt : recText seq l = recGo (dec seq) l := by unfold recText; rw [if_pos h_1]
    rw [hrt, ← hR, List.drop_of_length_le (by omega), recGo, recEnd]
    first | rw [if_pos (by assumption)] | rw [if_neg (by assumption)]
  refine jW (cB (cN h_1)) <| jC <| jF <| jA (jG (v := str []) rfl) <| jE <| jB <| jN <| jX <| jV (.inl rfl) rfl (jJ (v := str []) rfl) (List.nil_sublist _) ?_
  refine ⟨congrArg str ?_, rfl⟩
  unfold recText
  rw [h_1]
  rfl

set_option maxRecDepth 4000 in
set_option maxHeartbeats 1000000 in
theorem Y_sSplit (s : Str) (sg : UInt8) (hs : s.length ≤ 100000000) :
    Ct Tryz.prog 105 [str s, .int .u8 ((sg.toNat : Nat) : Int)] [] (fun _ => True) (fun v A' => ∃ a c, v = .slice a (splitB sg s).length c ∧ A' = [.row (.slice a (splitB sg s).length c) 9 1 (splitB sg s).length ((splitB sg s).map str)]) := by
  refine Ct.intro Tryz.func105 rfl Tryz.ntmps105 (lb rfl) fun w0 hpre => ?_
  refine jC <| jF <| jA (jG (v := .slice none 0 0) rfl) <| jE <| jB <| jC <| jF ?_
  refine jH rfl (kH (ps := []) (cur := #[]) ku kt Tryz.zeroValue9 rfl (by kernel_rfl) (by decide) (by decide)) ?_
  rintro _ _ ⟨a_1, rfl, rfl⟩
  refine jA (jG (v := .slice a_1 0 0) rfl) <| jE <| jB <| jC <| jF <| jA (jG (v := iv 0) rfl) <| jE <| jB <| jC <| jC ?_
  refine jF <| jA (jG (v := iv 0) rfl) <| jE <| jB <| jf <| kD (fun k_ e_ L_ => ∃ i : Nat, ∃ b : Nat, ∃ oa : Option Addr, ∃ oc : Nat, ∃ o_ : List Str, (i ≤ s.length + 1) ∧ (b ≤ i) ∧ (o_.length ≤ i) ∧ (∀ k, b ≤ k → k < i → i ≤ s.length → s.getD k 0 ≠ sg) ∧ (i ≤ s.length → o_ ++ splitB sg (s.drop b) = splitB sg s) ∧ (s.length < i → o_ = splitB sg s) ∧ e_ 0 = str s ∧ e_ 1 = .int .u8 ((sg.toNat : Nat) : Int) ∧ e_ 4 = .slice none 0 0 ∧ e_ 5 = .slice oa o_.length oc ∧ e_ 6 = nv b ∧ e_ 7 = nv i ∧ L_ = [rS oa oc o_] ∧ k_ = s.length + 1 - i) _ ⟨0, 0, a_1, 0, [], by omega, by omega, (by simp), (fun k h1 h2 => absurd h2 (by omega)), (fun _ => rfl), (fun h3 => absurd h3 (by omega)), rfl, rfl, rfl, rfl, rfl, rfl, rfl, rfl⟩ ?_
  rintro _ e_2 _ ⟨i, b, oa, oc, o_, hi, hb, ho, hN, hR, hE, he_3, he_4, he_5, he_6, he_7, he_8, rfl, rfl⟩
  refine jC <| jC <| jF <| jA (jD (v := nv i) he_8) <| jA (jD (v := str s) he_3) <| jA (kF kg rfl) <| jA (PO.leq rfl rfl) <| jE <| jB ?_
  by_cases h_9 : ((i : Nat) : Int) ≤ (s.length : Int)
  · refine jW (cB (dT h_9)) <| jT <| jB <| jC <| jf <| jC <| jF <| jA (jD (v := nv i) he_8) <| jA (jD (v := str s) he_3) <| jA (kF kg rfl) ?_
    refine jA (kO rfl rfl) <| jA (jD (v := .bool (decide (((i : Nat) : Int) = (s.length : Int)))) rfl) ?_
    by_cases h_10 : ((i : Nat) : Int) = (s.length : Int)
    · refine jS (b := true) rfl rfl rfl (cB (dT h_10)) <| jS (b := true) rfl rfl rfl (cB (dT h_10)) <| jS (b := true) rfl rfl rfl (cB (dT h_10)) <| jS (b := true) rfl rfl rfl (cB (dT h_10)) <| jS (b := true) rfl rfl rfl (cB (dT h_10)) <| jA (jh (v := .bool true) (cB (dT h_10)) rfl) <| jE <| jB <| jW (cB rfl) <| jC ?_
      refine jF <| jA (jD (v := .slice oa o_.length oc) he_6) <| jA (jD (v := str s) he_3) <| jA (jD (v := nv b) he_7) <| jA (jD (v := nv i) he_8) <| jA (PO.sliceS (i := b) (j := i) kg rfl rfl rfl (by omega) (by omega)) ?_
      refine jH rfl (kH (ps := [(0, str ((s.drop b).take (i - b)))]) (cur := #[str ((s.drop b).take (i - b))]) ku kt Tryz.zeroValue9 rfl (by kernel_rfl) (by decide) (by decide)) ?_
      rintro _ _ ⟨a_11, rfl, rfl⟩
      refine jH rfl (kU 1 (q := 1) (news := ([(s.drop b).take (i - b)] : List Str).map str) (n' := (o_ ++ ([(s.drop b).take (i - b)] : List Str)).length) (cs' := (o_ ++ ([(s.drop b).take (i - b)] : List Str)).map str) rfl ku ku Tryz.typeInfo9 rfl (by' := 16) rfl rfl rfl rfl rfl (fun w hw => Src.sees (hw.see (i := 0) rfl) (oneS _)) (by (try simp only [LE]); omega) (by (try simp only [LE]); omega) (by simp only [List.length_append, List.length_take, List.length_drop, List.length_cons, List.length_nil] <;> first | rfl | omega) (by simp only [List.map_append])) ?_
      rintro _ _ ⟨a_12, c_13, rfl, rfl⟩
      refine jA (jG (v := .slice a_12 ((o_ ++ ([(s.drop b).take (i - b)] : List Str)).length) c_13) rfl) <| jE <| jB <| jF <| jA (jD (v := nv i) he_8) <| jA (jc (c := ((i + 1 : Nat) : Int)) rfl rfl (wr (by omega))) <| jA (jG (v := iv ((i + 1 : Nat) : Int)) rfl) <| jE <| jm <| jB ?_
      refine jF <| jA (jD (v := nv i) he_8) <| jA (jc (c := ((i + 1 : Nat) : Int)) rfl rfl (wr (by omega))) <| jA (jG (v := iv ((i + 1 : Nat) : Int)) rfl) <| jE <| kB [1] (A := [rS a_12 c_13 (o_ ++ ([(s.drop b).take (i - b)] : List Str))]) rfl ?_
      refine jq (s.length + 1 - (i + 1)) (by omega) ⟨i + 1, i + 1, a_12, c_13, (o_ ++ ([(s.drop b).take (i - b)] : List Str)), by omega, by omega, (by (try simp only [List.length_append, List.length_cons, List.length_nil]); omega), (fun k h1 h2 h3 => absurd h3 (by omega)), (fun h3 => absurd h3 (by omega)), (fun _ => by have hil : i = s.length := (by omega); subst hil; have h_ := hR (by omega); rw [split_end (fun k h1 h2 => hN k h1 h2 (by omega))] at h_; exact h_), he_3, he_4, he_5, rfl, rfl, rfl, rfl, rfl⟩
    refine jM rfl rfl rfl (cB (dF h_10)) (jP (jU (jD (v := str s) he_3))) ?_
    rintro _ _ ⟨rfl, rfl⟩
    refine jM rfl rfl rfl (cB (dF h_10)) (jP (jU (jD (v := nv i) he_8))) ?_
    rintro _ _ ⟨rfl, rfl⟩
    refine jM rfl rfl rfl (cB (dF h_10)) (jP (jU (PO.indexS (i := i) (c := s.getD i 0) kg rfl rfl (getD_some (by omega))))) ?_
    rintro _ _ ⟨rfl, rfl⟩
    have hu_14 := UInt8.toNat_lt (s.getD i 0)
    refine jM rfl rfl rfl (cB (dF h_10)) (jP (jU (jD (v := .int .u8 ((sg.toNat : Nat) : Int)) he_4))) ?_
    rintro _ _ ⟨rfl, rfl⟩
    refine jM rfl rfl rfl (cB (dF h_10)) (jP (jU (kO rfl rfl))) ?_
    rintro _ _ ⟨rfl, rfl⟩
    refine jA (ji (v := .bool (decide (((s.getD i 0).toNat : Int) = ((sg.toNat : Nat) : Int)))) (cB (dF h_10)) rfl) <| jE <| jB ?_
    by_cases h_15 : ((s.getD i 0).toNat : Int) = ((sg.toNat : Nat) : Int)
    · have hu_16 := u8_eq h_15
      refine jW (cB (dT h_15)) <| jC <| jF <| jA (jD (v := .slice oa o_.length oc) he_6) <| jA (jD (v := str s) he_3) <| jA (jD (v := nv b) he_7) <| jA (jD (v := nv i) he_8) <| jA (PO.sliceS (i := b) (j := i) kg rfl rfl rfl (by omega) (by omega)) ?_
      refine jH rfl (kH (ps := [(0, str ((s.drop b).take (i - b)))]) (cur := #[str ((s.drop b).take (i - b))]) ku kt Tryz.zeroValue9 rfl (by kernel_rfl) (by decide) (by decide)) ?_
      rintro _ _ ⟨a_17, rfl, rfl⟩
      refine jH rfl (kU 1 (q := 1) (news := ([(s.drop b).take (i - b)] : List Str).map str) (n' := (o_ ++ ([(s.drop b).take (i - b)] : List Str)).length) (cs' := (o_ ++ ([(s.drop b).take (i - b)] : List Str)).map str) rfl ku ku Tryz.typeInfo9 rfl (by' := 16) rfl rfl rfl rfl rfl (fun w hw => Src.sees (hw.see (i := 0) rfl) (oneS _)) (by (try simp only [LE]); omega) (by (try simp only [LE]); omega) (by simp only [List.length_append, List.length_take, List.length_drop, List.length_cons, List.length_nil] <;> first | rfl | omega) (by simp only [List.map_append])) ?_
      rintro _ _ ⟨a_18, c_19, rfl, rfl⟩
      refine jA (jG (v := .slice a_18 ((o_ ++ ([(s.drop b).take (i - b)] : List Str)).length) c_19) rfl) <| jE <| jB <| jF <| jA (jD (v := nv i) he_8) <| jA (jc (c := ((i + 1 : Nat) : Int)) rfl rfl (wr (by omega))) <| jA (jG (v := iv ((i + 1 : Nat) : Int)) rfl) <| jE <| jm <| jB ?_
      refine jF <| jA (jD (v := nv i) he_8) <| jA (jc (c := ((i + 1 : Nat) : Int)) rfl rfl (wr (by omega))) <| jA (jG (v := iv ((i + 1 : Nat) : Int)) rfl) <| jE <| kB [1] (A := [rS a_18 c_19 (o_ ++ ([(s.drop b).take (i - b)] : List Str))]) rfl ?_
      refine jq (s.length + 1 - (i + 1)) (by omega) ⟨i + 1, i + 1, a_18, c_19, (o_ ++ ([(s.drop b).take (i - b)] : List Str)), by omega, by omega, (by (try simp only [List.length_append, List.length_cons, List.length_nil]); omega), (fun k h1 h2 h3 => absurd h2 (by omega)), (fun h3 => by have h_ := hR (by omega); rw [split_cut (by omega) hb (fun k h1 h2 => hN k h1 h2 (by omega)) hu_16] at h_; rw [List.append_assoc]; exact h_), (fun h3 => absurd h3 (by omega)), he_3, he_4, he_5, rfl, rfl, rfl, rfl, rfl⟩
    have hu_20 := u8_ne h_15
    refine jR (cB (dF h_15)) <| jT <| jm <| jB <| jF <| jA (jD (v := nv i) he_8) <| jA (jc (c := ((i + 1 : Nat) : Int)) rfl rfl (wr (by omega))) <| jA (jG (v := iv ((i + 1 : Nat) : Int)) rfl) <| jE <| kB [0] (A := [rS oa oc o_]) rfl ?_
    refine jq (s.length + 1 - (i + 1)) (by omega) ⟨i + 1, b, oa, oc, o_, by omega, by omega, (by (try simp only [List.length_append, List.length_cons, List.length_nil]); omega), (fun k h1 h2 h3 => if h : k = i then h ▸ hu_20 else hN k h1 (by omega) (by omega)), (fun h3 => hR (by omega)), (fun h3 => absurd h3 (by omega)), he_3, he_4, he_5, he_6, he_7, rfl, rfl, rfl⟩
  refine jR (cB (dF h_9)) <| jx <| jb <| jb <| jy <| jB <| jC <| jF <| jA (jD (v := .slice oa o_.length oc) he_6) <| jA (jG (v := .slice oa o_.length oc) rfl) ?_
  refine jE <| jB <| jN <| jV (.inl rfl) rfl (jJ (v := .slice oa o_.length oc) rfl) (List.Sublist.refl _) ?_
  have he := hE (by omega)
  exact ⟨_, _, by rw [← he], by rw [← he]⟩

theorem Y_sUnhex (t : Str) (ht : t.length ≤ 100000000) : Ct Tryz.prog 107 [str t] [] (fun _ => True) (fun v A' => v = .tuple #[str (unhex t).1, .bool (unhex t).2] ∧ A' = []) :=
  (N_sUnhex t (by omega)).weak (fun _ h => h) fun v A' ⟨u, b, e, _, hv, hA⟩ => ⟨by rw [hv, e], hA⟩

set_option maxRecDepth 4000 in
set_option maxHeartbeats 1000000 in
theorem Y_sRead (t : Str) (ht : t.length ≤ 100000000) :
    Ct Tryz.prog 58 [str t] [] (fun _ => True) (fun v A' => ∃ a c, v = .tuple #[.int .i64 (readI t).1, .slice a (readI t).2.1.length c, .bool (readI t).2.2] ∧ A' = [.row (.slice a (readI t).2.1.length c) 48 2 (readI t).2.1.length ((readI t).2.1.flatMap encC)]) := by
  refine Ct.intro Tryz.func58 rfl Tryz.ntmps58 (lb rfl) fun w0 hpre => ?_
  refine jC <| jF <| jA (jG (v := iv 0) rfl) <| jA (jG (v := .slice none 0 0) rfl) <| jA (jG (v := .bool false) rfl) <| jE <| jB <| jC <| jF ?_
  refine jH rfl (kH (ps := []) (cur := #[]) kf kh kw rfl (by kernel_rfl) (by decide) (by decide)) ?_
  rintro _ _ ⟨a_1, rfl, rfl⟩
  refine jA (jG (v := .slice a_1 0 0) rfl) <| jE <| jB <| jC <| jC <| jF <| jA (jD (v := str t) rfl) <| jA (kF kg rfl) <| jA (kR rfl rfl) <| jE ?_
  refine jB ?_
  by_cases h_2 : 4000 < (t.length : Int)
  · refine jW (cB (dT h_2)) <| jC <| jF <| jA (jD (v := .slice a_1 0 0) rfl) <| jA (jG (v := iv 0) rfl) <| jA (jG (v := .slice a_1 0 0) rfl) <| jA (jG (v := .bool false) rfl) <| jE <| jB <| jN ?_
    refine jX <| Done.three (.inl rfl) rfl (jJ (v := iv 0) rfl) (jJ (v := .slice a_1 0 0) rfl) (jJ (v := .bool false) rfl) (List.Sublist.refl _) ?_
    have he := readS_long h_2
    exact ⟨a_1, 0, by rw [← readS_eq, he] <;> rfl, by rw [← readS_eq, he] <;> rfl⟩
  refine jR (cB (dF h_2)) <| jT <| jB <| jC <| jF <| jA (jD (v := str t) rfl) ?_
  refine jH rfl (jI [] Tryz.call105 rfl (Y_sSplit t 32 (by omega)) rfl (fun _ _ => trivial)) ?_
  rintro _ _ ⟨_, ⟨a_3, c_4, rfl, rfl⟩, rfl⟩
  have hsp_5 := splitB_len 32 t
  refine jA (jG (v := .slice a_3 ((splitB 32 t).length) c_4) rfl) <| jE <| jB <| jC <| jF <| jA (jD (v := .slice a_3 ((splitB 32 t).length) c_4) rfl) ?_
  refine kN fun hst => ?_
  obtain ⟨hr_6, hr_6b, -⟩ := row_some 0 rfl (by omega) hst
  refine jA (jk (i := 0) ku kt hr_6 hr_6b rfl rfl (by omega)) <| jK (ka 0 (v := str ((splitB 32 t).getD 0 [])) rfl rfl ki (atS (by omega))) ?_
  refine jH rfl (jI [] Tryz.call106 rfl (C_sReadDec ((splitB 32 t).getD 0 []) (by have h_2 := splitB_get 32 t 0; omega)) rfl (fun _ _ => trivial)) ?_
  rintro _ _ ⟨_, ⟨rfl, rfl⟩, rfl⟩
  refine jA (jD (v := .tuple #[iv ((readDec ((splitB 32 t).getD 0 [])).1), .bool ((readDec ((splitB 32 t).getD 0 [])).2)]) rfl) <| jA (je (v := iv ((readDec ((splitB 32 t).getD 0 [])).1)) rfl rfl) <| jA (je (v := .bool ((readDec ((splitB 32 t).getD 0 [])).2)) rfl rfl) <| jA (jG (v := iv ((readDec ((splitB 32 t).getD 0 [])).1)) rfl) <| jA (jG (v := .bool ((readDec ((splitB 32 t).getD 0 [])).2)) rfl) <| jE <| jB <| jC <| jF ?_
  refine jH rfl (kH (ps := []) (cur := #[]) kf kh kw rfl (by kernel_rfl) (by decide) (by decide)) ?_
  rintro _ _ ⟨a_7, rfl, rfl⟩
  refine jA (jG (v := .slice a_7 0 0) rfl) <| jE <| jB <| jC <| jC <| jF <| jA (jG (v := iv 1) rfl) <| jE <| jB <| jf ?_
  refine kD (fun k_ e_ L_ => ∃ i : Nat, ∃ oa : Option Addr, ∃ oc : Nat, ∃ o_ : List Cell, (1 ≤ i) ∧ (i = 1 ∨ i + 1 ≤ (splitB 32 t).length) ∧ (o_.length ≤ i) ∧ (o_ = (((splitB 32 t).drop 1).take (i - 1)).map readWord) ∧ (∀ k, 1 ≤ k → k < i → (splitB 61 ((splitB 32 t).getD k [])).length = 2) ∧ e_ 0 = str t ∧ e_ 5 = .slice a_1 0 0 ∧ e_ 6 = .slice a_3 ((splitB 32 t).length) c_4 ∧ e_ 7 = iv ((readDec ((splitB 32 t).getD 0 [])).1) ∧ e_ 8 = .bool ((readDec ((splitB 32 t).getD 0 [])).2) ∧ e_ 9 = .slice oa o_.length oc ∧ e_ 10 = nv i ∧ L_ = [rC oa oc o_, rS a_3 c_4 (splitB 32 t), Res.row (.slice a_1 0 0) 48 2 0 (([] : List Cell).flatMap encC)] ∧ k_ = (splitB 32 t).length - i) _ ⟨1, a_7, 0, [], by omega, by omega, (by simp), (by simp), (fun k h1 h2 => absurd h1 (by omega)), rfl, rfl, rfl, rfl, rfl, rfl, rfl, rfl, rfl⟩ ?_
  rintro _ e_8 _ ⟨i, oa, oc, o_, h1, hi, hol, ho, hN, he_9, he_10, he_11, he_12, he_13, he_14, he_15, rfl, rfl⟩
  refine jC <| jC <| jF <| jA (jD (v := nv i) he_15) <| jA (jD (v := .slice a_3 ((splitB 32 t).length) c_4) he_11) <| jA (jr ku rfl) <| jA (kZ (c := (((splitB 32 t).length : Nat) : Int) - 1) rfl rfl (wr (by omega))) <| jA (jl rfl rfl) <| jE <| jB ?_
  by_cases h_16 : ((i : Nat) : Int) < ((((splitB 32 t).length : Nat) : Int) - 1)
  · refine jW (cB (dT h_16)) <| jT <| jB <| jC <| jf <| jC <| jF <| jA (jD (v := .slice a_3 ((splitB 32 t).length) c_4) he_11) <| jA (jD (v := nv i) he_15) <| jA (jk (i := i) ku kt hr_6 hr_6b rfl rfl (by omega)) ?_
    refine jK (ka 1 (v := str ((splitB 32 t).getD i [])) rfl rfl ki (atS (by omega))) ?_
    refine jH rfl (jI [] Tryz.call105 rfl (Y_sSplit ((splitB 32 t).getD i []) 61 (by have h_1 := splitB_get 32 t i; have h_2 := splitB_get 32 t 0; have h_3 := splitB_get 61 ((splitB 32 t).getD i []) 0; have h_4 := splitB_get 61 ((splitB 32 t).getD i []) 1; omega)) rfl (fun _ _ => trivial)) ?_
    rintro _ _ ⟨_, ⟨a_17, c_18, rfl, rfl⟩, rfl⟩
    have hsp_19 := splitB_len 61 ((splitB 32 t).getD i [])
    refine jA (jG (v := .slice a_17 ((splitB 61 ((splitB 32 t).getD i [])).length) c_18) rfl) <| jE <| jB <| jC <| jC <| jF <| jA (jD (v := .slice a_17 ((splitB 61 ((splitB 32 t).getD i [])).length) c_18) rfl) <| jA (jr ku rfl) <| jA (kS rfl rfl) <| jE ?_
    refine jB ?_
    by_cases h_20 : (((splitB 61 ((splitB 32 t).getD i [])).length : Nat) : Int) = 2
    · refine jR (cB (cN (dT h_20))) <| jT <| jB <| jC <| jF <| jA (jD (v := .slice a_17 ((splitB 61 ((splitB 32 t).getD i [])).length) c_18) rfl) ?_
      refine kN fun hst => ?_
      obtain ⟨hr_21, hr_21b, -⟩ := row_some 0 rfl (by omega) hst
      refine jA (jk (i := 0) ku kt hr_21 hr_21b rfl rfl (by omega)) <| jK (ka 0 (v := str ((splitB 61 ((splitB 32 t).getD i [])).getD 0 [])) rfl rfl ki (atS (by omega))) ?_
      refine jH rfl (jI [] Tryz.call107 rfl (Y_sUnhex ((splitB 61 ((splitB 32 t).getD i [])).getD 0 []) (by have h_1 := splitB_get 32 t i; have h_2 := splitB_get 32 t 0; have h_3 := splitB_get 61 ((splitB 32 t).getD i []) 0; have h_4 := splitB_get 61 ((splitB 32 t).getD i []) 1; omega)) rfl (fun _ _ => trivial)) ?_
      rintro _ _ ⟨_, ⟨rfl, rfl⟩, rfl⟩
      refine jA (jD (v := .tuple #[str ((unhex ((splitB 61 ((splitB 32 t).getD i [])).getD 0 [])).1), .bool ((unhex ((splitB 61 ((splitB 32 t).getD i [])).getD 0 [])).2)]) rfl) <| jA (je (v := str ((unhex ((splitB 61 ((splitB 32 t).getD i [])).getD 0 [])).1)) rfl rfl) <| jA (je (v := .bool ((unhex ((splitB 61 ((splitB 32 t).getD i [])).getD 0 [])).2)) rfl rfl) <| jA (jG (v := str ((unhex ((splitB 61 ((splitB 32 t).getD i [])).getD 0 [])).1)) rfl) <| jA (jG (v := .bool ((unhex ((splitB 61 ((splitB 32 t).getD i [])).getD 0 [])).2)) rfl) <| jE <| jB <| jC <| jF <| jA (jD (v := .slice a_17 ((splitB 61 ((splitB 32 t).getD i [])).length) c_18) rfl) ?_
      refine jA (jk (i := 1) ku kt hr_21 hr_21b rfl rfl (by omega)) <| jK (ka 0 (v := str ((splitB 61 ((splitB 32 t).getD i [])).getD 1 [])) rfl rfl ki (atS (by omega))) ?_
      refine jH rfl (jI [] Tryz.call107 rfl (Y_sUnhex ((splitB 61 ((splitB 32 t).getD i [])).getD 1 []) (by have h_1 := splitB_get 32 t i; have h_2 := splitB_get 32 t 0; have h_3 := splitB_get 61 ((splitB 32 t).getD i []) 0; have h_4 := splitB_get 61 ((splitB 32 t).getD i []) 1; omega)) rfl (fun _ _ => trivial)) ?_
      rintro _ _ ⟨_, ⟨rfl, rfl⟩, rfl⟩
      refine jA (jD (v := .tuple #[str ((unhex ((splitB 61 ((splitB 32 t).getD i [])).getD 1 [])).1), .bool ((unhex ((splitB 61 ((splitB 32 t).getD i [])).getD 1 [])).2)]) rfl) <| jA (je (v := str ((unhex ((splitB 61 ((splitB 32 t).getD i [])).getD 1 [])).1)) rfl rfl) <| jA (je (v := .bool ((unhex ((splitB 61 ((splitB 32 t).getD i [])).getD 1 [])).2)) rfl rfl) <| jA (jG (v := str ((unhex ((splitB 61 ((splitB 32 t).getD i [])).getD 1 [])).1)) rfl) <| jA (jG (v := .bool ((unhex ((splitB 61 ((splitB 32 t).getD i [])).getD 1 [])).2)) rfl) <| jE <| jB <| jF <| jA (jD (v := .slice oa o_.length oc) he_14) <| jA (jD (v := str ((unhex ((splitB 61 ((splitB 32 t).getD i [])).getD 0 [])).1)) rfl) ?_
      refine jA (jD (v := str ((unhex ((splitB 61 ((splitB 32 t).getD i [])).getD 1 [])).1)) rfl) <| jA (kW (ps := [(0, str ((unhex ((splitB 61 ((splitB 32 t).getD i [])).getD 0 [])).1)), (1, str ((unhex ((splitB 61 ((splitB 32 t).getD i [])).getD 1 [])).1))]) (cs := [str ((unhex ((splitB 61 ((splitB 32 t).getD i [])).getD 0 [])).1), str ((unhex ((splitB 61 ((splitB 32 t).getD i [])).getD 1 [])).1)]) rfl (by kernel_rfl)) ?_
      refine jH rfl (kH (ps := [(0, .agg #[str ((unhex ((splitB 61 ((splitB 32 t).getD i [])).getD 0 [])).1), str ((unhex ((splitB 61 ((splitB 32 t).getD i [])).getD 1 [])).1)])]) (cur := #[str ((unhex ((splitB 61 ((splitB 32 t).getD i [])).getD 0 [])).1), str ((unhex ((splitB 61 ((splitB 32 t).getD i [])).getD 1 [])).1)]) kf kh kw rfl (by kernel_rfl) (by decide) (by decide)) ?_
      rintro _ _ ⟨a_22, rfl, rfl⟩
      refine jH rfl (kU 2 (q := 1) (news := ([((unhex ((splitB 61 ((splitB 32 t).getD i [])).getD 0 [])).1, (unhex ((splitB 61 ((splitB 32 t).getD i [])).getD 1 [])).1)] : List Cell).flatMap encC) (n' := (o_ ++ ([((unhex ((splitB 61 ((splitB 32 t).getD i [])).getD 0 [])).1, (unhex ((splitB 61 ((splitB 32 t).getD i [])).getD 1 [])).1)] : List Cell)).length) (cs' := (o_ ++ ([((unhex ((splitB 61 ((splitB 32 t).getD i [])).getD 0 [])).1, (unhex ((splitB 61 ((splitB 32 t).getD i [])).getD 1 [])).1)] : List Cell)).flatMap encC) rfl kf kf ky rfl (by' := 32) rfl rfl rfl rfl rfl (fun w hw => Src.sees (hw.see (i := 0) rfl) (oneC _)) (by (try simp only [LE]); omega) (by (try simp only [LE]); omega) (by simp only [List.length_append, List.length_take, List.length_drop, List.length_cons, List.length_nil] <;> first | rfl | omega) (by simp only [List.flatMap_append])) ?_
      rintro _ _ ⟨a_23, c_24, rfl, rfl⟩
      refine jA (jG (v := .slice a_23 ((o_ ++ ([((unhex ((splitB 61 ((splitB 32 t).getD i [])).getD 0 [])).1, (unhex ((splitB 61 ((splitB 32 t).getD i [])).getD 1 [])).1)] : List Cell)).length) c_24) rfl) <| jE <| jm <| jB <| jF <| jA (jD (v := nv i) he_15) <| jA (jc (c := ((i + 1 : Nat) : Int)) rfl rfl (wr (by omega))) <| jA (jG (v := iv ((i + 1 : Nat) : Int)) rfl) <| jE <| kB [2, 2, 2] (A := [rC a_23 c_24 (o_ ++ ([((unhex ((splitB 61 ((splitB 32 t).getD i [])).getD 0 [])).1, (unhex ((splitB 61 ((splitB 32 t).getD i [])).getD 1 [])).1)] : List Cell)), rS a_3 c_4 (splitB 32 t), Res.row (.slice a_1 0 0) 48 2 0 (([] : List Cell).flatMap encC)]) rfl ?_
      refine jq ((splitB 32 t).length - (i + 1)) (by omega) ⟨i + 1, a_23, c_24, (o_ ++ ([((unhex ((splitB 61 ((splitB 32 t).getD i [])).getD 0 [])).1, (unhex ((splitB 61 ((splitB 32 t).getD i [])).getD 1 [])).1)] : List Cell)), by omega, by omega, (by (try simp only [List.length_append, List.length_cons, List.length_nil]); omega), (by rw [mids_step (by omega) (by omega), ← ho, readWord_two (by have h_ := h_20; omega)]), (fun k h1 h2 => if h : k = i then h ▸ (by have h_ := h_20; omega) else hN k h1 (by omega)), he_9, he_10, he_11, he_12, he_13, rfl, rfl, rfl, rfl⟩
    refine jW (cB (cN (dF h_20))) <| jC <| jF <| jA (jD (v := .slice a_1 0 0) he_10) <| jA (jG (v := iv 0) rfl) <| jA (jG (v := .slice a_1 0 0) rfl) <| jA (jG (v := .bool false) rfl) <| jE <| jB <| jN ?_
    refine jX <| jv <| jX <| jX <| jv <| jX <| kM (pick_perm [3] (A := [Res.row (.slice a_1 0 0) 48 2 0 (([] : List Cell).flatMap encC)]) (F := [rS a_17 c_18 (splitB 61 ((splitB 32 t).getD i [])), rC oa oc o_, rS a_3 c_4 (splitB 32 t)]) rfl).symm <| Done.three (.inl rfl) rfl (jJ (v := iv 0) rfl) (jJ (v := .slice a_1 0 0) rfl) (jJ (v := .bool false) rfl) (tS 1 _) ?_
    have he := readS_mid h_2 (by omega) (by omega) (show ¬ (splitB 61 ((splitB 32 t).getD i [])).length = 2 by have h_ := h_20; omega)
    exact ⟨a_1, 0, by rw [← readS_eq, he] <;> rfl, by rw [← readS_eq, he] <;> rfl⟩
  refine jR (cB (dF h_16)) <| jx <| jb <| jb <| jy <| jB <| jC ?_
  have hokl : okC o_ := by rw [ho]; exact okC_read (by rw [List.length_take, List.length_drop]; omega)
  refine jF <| jA (jD (v := iv ((readDec ((splitB 32 t).getD 0 [])).1)) he_12) <| jA (jD (v := .slice oa o_.length oc) he_14) ?_
  refine jH rfl (jI [] Tryz.call41 rfl (Y_sRec ((readDec ((splitB 32 t).getD 0 [])).1) oa oc o_ hokl) rfl (fun w hw => hw.see (i := 0) rfl)) ?_
  rintro _ _ ⟨_, ⟨rfl, rfl⟩, rfl⟩
  refine jA (jG (v := str (recText ((readDec ((splitB 32 t).getD 0 [])).1) o_)) rfl) <| jE <| jB <| jC <| jC <| jF <| jA (jD (v := .bool ((readDec ((splitB 32 t).getD 0 [])).2)) he_13) <| jA (jp rfl) <| jA (jD (v := .bool (!((readDec ((splitB 32 t).getD 0 [])).2))) rfl) ?_
  rcases Bool.eq_false_or_eq_true ((readDec ((splitB 32 t).getD 0 [])).2) with h_25 | h_25
  · refine jM rfl rfl rfl (cB (cN h_25)) (jP (jU (jD (v := str (recText ((readDec ((splitB 32 t).getD 0 [])).1) o_)) rfl))) ?_
    rintro _ _ ⟨rfl, rfl⟩
    refine jM rfl rfl rfl (cB (cN h_25)) (jP (jU (PO.eqlS rfl rfl))) ?_
    rintro _ _ ⟨rfl, rfl⟩
    refine jA (ji (v := .bool (decide ((recText ((readDec ((splitB 32 t).getD 0 [])).1) o_) = []))) (cB (cN h_25)) rfl) <| jA (jD (v := .bool (decide ((recText ((readDec ((splitB 32 t).getD 0 [])).1) o_) = []))) rfl) ?_
    by_cases h_26 : (recText ((readDec ((splitB 32 t).getD 0 [])).1) o_) = []
    · refine jS (b := true) rfl rfl rfl (cB (dT h_26)) <| jS (b := true) rfl rfl rfl (cB (dT h_26)) <| jS (b := true) rfl rfl rfl (cB (dT h_26)) <| jA (jh (v := .bool true) (cB (dT h_26)) rfl) <| jE <| jB <| jW (cB rfl) <| jC <| jF <| jA (jD (v := .slice a_1 0 0) he_10) ?_
      refine jA (jG (v := iv 0) rfl) <| jA (jG (v := .slice a_1 0 0) rfl) <| jA (jG (v := .bool false) rfl) <| jE <| jB <| jN <| jX <| kM (pick_perm [2] (A := [Res.row (.slice a_1 0 0) 48 2 0 (([] : List Cell).flatMap encC)]) (F := [rC oa oc o_, rS a_3 c_4 (splitB 32 t)]) rfl).symm <| Done.three (.inl rfl) rfl (jJ (v := iv 0) rfl) (jJ (v := .slice a_1 0 0) rfl) (jJ (v := .bool false) rfl) (tS 1 _) ?_
      have he := readS_end h_2 (i := i) (by omega) hN
      rw [← ho] at he
      rw [if_pos (by first | exact .inl (by assumption) | exact .inr (.inl (by assumption)) | exact .inr (.inr (by assumption)))] at he
      exact ⟨a_1, 0, by rw [← readS_eq, he] <;> rfl, by rw [← readS_eq, he] <;> rfl⟩
    refine jM rfl rfl rfl (cB (dF h_26)) (jP (jU (jD (v := str (recText ((readDec ((splitB 32 t).getD 0 [])).1) o_)) rfl))) ?_
    rintro _ _ ⟨rfl, rfl⟩
    refine jM rfl rfl rfl (cB (dF h_26)) (jP (jU (jD (v := str t) he_9))) ?_
    rintro _ _ ⟨rfl, rfl⟩
    refine jM rfl rfl rfl (cB (dF h_26)) (jP (jU (PO.neqS rfl rfl))) ?_
    rintro _ _ ⟨rfl, rfl⟩
    refine jA (ji (v := .bool (!(decide ((recText ((readDec ((splitB 32 t).getD 0 [])).1) o_) = t)))) (cB (dF h_26)) rfl) <| jE <| jB ?_
    by_cases h_27 : (recText ((readDec ((splitB 32 t).getD 0 [])).1) o_) = t
    · refine jR (cB (cN (dT h_27))) <| jT <| jB <| jC <| jF <| jA (jD (v := iv ((readDec ((splitB 32 t).getD 0 [])).1)) he_12) <| jA (jD (v := .slice oa o_.length oc) he_14) <| jA (jG (v := iv ((readDec ((splitB 32 t).getD 0 [])).1)) rfl) <| jA (jG (v := .slice oa o_.length oc) rfl) <| jA (jG (v := .bool true) rfl) ?_
      refine jE <| jB <| jN <| Done.three (.inl rfl) rfl (jJ (v := iv ((readDec ((splitB 32 t).getD 0 [])).1)) rfl) (jJ (v := .slice oa o_.length oc) rfl) (jJ (v := .bool true) rfl) (tS 1 _) ?_
      have he := readS_end h_2 (i := i) (by omega) hN
      rw [← ho] at he
      rw [if_neg (by rintro (h_ | h_ | h_) <;> simp_all)] at he
      exact ⟨oa, oc, by rw [← readS_eq, he] <;> rfl, by rw [← readS_eq, he] <;> rfl⟩
    refine jW (cB (cN (dF h_27))) <| jC <| jF <| jA (jD (v := .slice a_1 0 0) he_10) <| jA (jG (v := iv 0) rfl) <| jA (jG (v := .slice a_1 0 0) rfl) <| jA (jG (v := .bool false) rfl) <| jE <| jB <| jN ?_
    refine jX <| kM (pick_perm [2] (A := [Res.row (.slice a_1 0 0) 48 2 0 (([] : List Cell).flatMap encC)]) (F := [rC oa oc o_, rS a_3 c_4 (splitB 32 t)]) rfl).symm <| Done.three (.inl rfl) rfl (jJ (v := iv 0) rfl) (jJ (v := .slice a_1 0 0) rfl) (jJ (v := .bool false) rfl) (tS 1 _) ?_
    have he := readS_end h_2 (i := i) (by omega) hN
    rw [← ho] at he
    rw [if_pos (by first | exact .inl (by assumption) | exact .inr (.inl (by assumption)) | exact .inr (.inr (by assumption)))] at he
    exact ⟨a_1, 0, by rw [← readS_eq, he] <;> rfl, by rw [← readS_eq, he] <;> rfl⟩
  refine jS (b := true) rfl rfl rfl (cB (cN h_25)) <| jS (b := true) rfl rfl rfl (cB (cN h_25)) <| jA (jh (v := .bool true) (cB (cN h_25)) rfl) <| jA (jD (v := .bool true) rfl) <| jS (b := true) rfl rfl rfl (cB rfl) <| jS (b := true) rfl rfl rfl (cB rfl) <| jS (b := true) rfl rfl rfl (cB rfl) <| jA (jh (v := .bool true) (cB rfl) rfl) <| jE <| jB ?_
  refine jW (cB rfl) <| jC <| jF <| jA (jD (v := .slice a_1 0 0) he_10) <| jA (jG (v := iv 0) rfl) <| jA (jG (v := .slice a_1 0 0) rfl) <| jA (jG (v := .bool false) rfl) <| jE <| jB <| jN ?_
  refine jX <| kM (pick_perm [2] (A := [Res.row (.slice a_1 0 0) 48 2 0 (([] : List Cell).flatMap encC)]) (F := [rC oa oc o_, rS a_3 c_4 (splitB 32 t)]) rfl).symm <| Done.three (.inl rfl) rfl (jJ (v := iv 0) rfl) (jJ (v := .slice a_1 0 0) rfl) (jJ (v := .bool false) rfl) (tS 1 _) ?_
  have he := readS_end h_2 (i := i) (by omega) hN
  rw [← ho] at he
  rw [if_pos (by first | exact .inl (by assumption) | exact .inr (.inl (by assumption)) | exact .inr (.inr (by assumption)))] at he
  exact ⟨a_1, 0, by rw [← readS_eq, he] <;> rfl, by rw [← readS_eq, he] <;> rfl⟩

set_option maxRecDepth 4000 in
set_option maxHeartbeats 1000000 in
theorem Y_sLines (s : Str) (hs : s.length ≤ 100000000) :
    Ct Tryz.prog 57 [str s] [] (fun _ => True) (fun v A' => ∃ a c, v = .slice a (linesOf s).length c ∧ A' = [.row (.slice a (linesOf s).length c) 9 1 (linesOf s).length ((linesOf s).map str)]) := by
  refine Ct.intro Tryz.func57 rfl Tryz.ntmps57 (lb rfl) fun w0 hpre => ?_
  refine jC <| jF <| jA (jG (v := .slice none 0 0) rfl) <| jE <| jB <| jC <| jF ?_
  refine jH rfl (kH (ps := []) (cur := #[]) ku kt Tryz.zeroValue9 rfl (by kernel_rfl) (by decide) (by decide)) ?_
  rintro _ _ ⟨a_1, rfl, rfl⟩
  refine jA (jG (v := .slice a_1 0 0) rfl) <| jE <| jB <| jC <| jF <| jA (jG (v := iv 0) rfl) <| jE <| jB <| jC <| jC ?_
  refine jF <| jA (jG (v := iv 0) rfl) <| jE <| jB <| jf <| kD (fun k_ e_ L_ => ∃ i : Nat, ∃ b : Nat, ∃ oa : Option Addr, ∃ oc : Nat, ∃ o_ : List Str, (i ≤ s.length) ∧ (b ≤ i) ∧ (o_.length ≤ i) ∧ (o_ ++ linesG ((s.drop b).take (i - b)) (s.drop i) = linesOf s) ∧ e_ 0 = str s ∧ e_ 2 = .slice none 0 0 ∧ e_ 3 = .slice oa o_.length oc ∧ e_ 4 = nv b ∧ e_ 5 = nv i ∧ L_ = [rS oa oc o_] ∧ k_ = s.length - i) _ ⟨0, 0, a_1, 0, [], by omega, by omega, (by simp), rfl, rfl, rfl, rfl, rfl, rfl, rfl, rfl⟩ ?_
  rintro _ e_2 _ ⟨i, b, oa, oc, o_, hi, hb, ho, hR, he_3, he_4, he_5, he_6, he_7, rfl, rfl⟩
  refine jC <| jC <| jF <| jA (jD (v := nv i) he_7) <| jA (jD (v := str s) he_3) <| jA (kF kg rfl) <| jA (jl rfl rfl) <| jE <| jB ?_
  by_cases h_8 : ((i : Nat) : Int) < (s.length : Int)
  · refine jW (cB (dT h_8)) <| jT <| jB <| jC <| jf <| jC <| jF <| jA (jD (v := str s) he_3) <| jA (jD (v := nv i) he_7) <| jA (PO.indexS (i := i) (c := s.getD i 0) kg rfl rfl (getD_some (by omega))) ?_
    have hu_9 := UInt8.toNat_lt (s.getD i 0)
    refine jA (kO rfl rfl) <| jE <| jB ?_
    by_cases h_10 : ((s.getD i 0).toNat : Int) = 10
    · have hu_11 := u8_ten h_10
      refine jW (cB (dT h_10)) <| jC <| jF <| jA (jD (v := .slice oa o_.length oc) he_5) <| jA (jD (v := str s) he_3) <| jA (jD (v := nv b) he_6) <| jA (jD (v := nv i) he_7) <| jA (jc (c := ((i + 1 : Nat) : Int)) rfl rfl (wr (by omega))) <| jA (PO.sliceS (i := b) (j := (i + 1)) kg rfl rfl rfl (by omega) (by omega)) ?_
      refine jH rfl (kH (ps := [(0, str ((s.drop b).take ((i + 1) - b)))]) (cur := #[str ((s.drop b).take ((i + 1) - b))]) ku kt Tryz.zeroValue9 rfl (by kernel_rfl) (by decide) (by decide)) ?_
      rintro _ _ ⟨a_12, rfl, rfl⟩
      refine jH rfl (kU 1 (q := 1) (news := ([(s.drop b).take ((i + 1) - b)] : List Str).map str) (n' := (o_ ++ ([(s.drop b).take ((i + 1) - b)] : List Str)).length) (cs' := (o_ ++ ([(s.drop b).take ((i + 1) - b)] : List Str)).map str) rfl ku ku Tryz.typeInfo9 rfl (by' := 16) rfl rfl rfl rfl rfl (fun w hw => Src.sees (hw.see (i := 0) rfl) (oneS _)) (by (try simp only [LE]); omega) (by (try simp only [LE]); omega) (by simp only [List.length_append, List.length_take, List.length_drop, List.length_cons, List.length_nil] <;> first | rfl | omega) (by simp only [List.map_append])) ?_
      rintro _ _ ⟨a_13, c_14, rfl, rfl⟩
      refine jA (jG (v := .slice a_13 ((o_ ++ ([(s.drop b).take ((i + 1) - b)] : List Str)).length) c_14) rfl) <| jE <| jB <| jF <| jA (jD (v := nv i) he_7) <| jA (jc (c := ((i + 1 : Nat) : Int)) rfl rfl (wr (by omega))) <| jA (jG (v := iv ((i + 1 : Nat) : Int)) rfl) <| jE <| jm <| jB ?_
      refine jF <| jA (jD (v := nv i) he_7) <| jA (jc (c := ((i + 1 : Nat) : Int)) rfl rfl (wr (by omega))) <| jA (jG (v := iv ((i + 1 : Nat) : Int)) rfl) <| jE <| kB [1] (A := [rS a_13 c_14 (o_ ++ ([(s.drop b).take ((i + 1) - b)] : List Str))]) rfl ?_
      refine jq (s.length - (i + 1)) (by omega) ⟨i + 1, i + 1, a_13, c_14, (o_ ++ ([(s.drop b).take ((i + 1) - b)] : List Str)), by omega, by omega, (by (try simp only [List.length_append, List.length_cons, List.length_nil]); omega), (by rw [lines_step (by omega) hb, if_pos hu_11] at hR; rw [List.append_assoc]; exact hR), he_3, he_4, rfl, rfl, rfl, rfl, rfl⟩
    have hu_15 := u8_not10 h_10
    refine jR (cB (dF h_10)) <| jT <| jm <| jB <| jF <| jA (jD (v := nv i) he_7) <| jA (jc (c := ((i + 1 : Nat) : Int)) rfl rfl (wr (by omega))) <| jA (jG (v := iv ((i + 1 : Nat) : Int)) rfl) <| jE <| kB [0] (A := [rS oa oc o_]) rfl ?_
    refine jq (s.length - (i + 1)) (by omega) ⟨i + 1, b, oa, oc, o_, by omega, by omega, (by (try simp only [List.length_append, List.length_cons, List.length_nil]); omega), (by rw [lines_step (by omega) hb, if_neg hu_15] at hR; exact hR), he_3, he_4, he_5, he_6, rfl, rfl, rfl⟩
  refine jR (cB (dF h_8)) <| jx <| jb <| jb <| jy <| jB <| jC <| jF <| jA (jD (v := .slice oa o_.length oc) he_5) <| jA (jG (v := .slice oa o_.length oc) rfl) ?_
  refine jE <| jB <| jN <| jV (.inl rfl) rfl (jJ (v := .slice oa o_.length oc) rfl) (List.Sublist.refl _) ?_
  have he : o_ = linesOf s := by rw [show s.drop i = [] from List.drop_of_length_le (by omega), linesG, List.append_nil] at hR; exact hR
  exact ⟨oa, oc, by rw [← he], by rw [← he]⟩

set_option maxRecDepth 4000 in
set_option maxHeartbeats 1000000 in
theorem Y_iBest (d : DX) (hz : d.dat.okz) (hl : d.l.length ≤ 1000000000) :
    Ct Tryz.prog 48 [.agg #[.slice d.a d.l.length d.c, str d.jt, .int .i64 d.js]] [] (fun w => SeesA w (rdsD d)) (fun v A' => v = .int .i64 (bestD d.dat) ∧ A' = []) := by
  refine Ct.intro Tryz.func48 rfl Tryz.ntmps48 (lb rfl) fun w0 hpre => ?_
  have hs_1 : Sees w0 (.slice d.a d.l.length d.c) 3 d.l.length (d.l.flatMap encO) := (hpre).head
  have hi_2 : SeesA w0 (d.l.flatMap rdsO) := (hpre).tail
  refine jC <| jF ?_
  refine jH rfl (kG (cs := [.slice d.a d.l.length d.c, str d.jt, iv d.js]) rfl rfl) ?_
  rintro _ _ ⟨b_3, rfl, rfl⟩
  refine jA (jG (v := iv 0) rfl) <| jE <| jB <| jC <| jF <| jA (jG (v := iv (-1)) rfl) <| jE <| jB <| jC <| jC ?_
  refine jF <| jA (jQ fo31_0 rfl) <| jK (jZ 0 (v := .slice d.a d.l.length d.c) rfl rfl ks rfl) <| jA (jr km rfl) <| jA (jD (v := iv 0) rfl) <| jE <| jB <| jf <| kD (fun k_ e_ L_ => ∃ j : Nat, (j ≤ d.l.length) ∧ e_ 1 = .pointer (some ⟨b_3, 0, none⟩) ∧ e_ 2 = iv 0 ∧ e_ 3 = iv (bestF (fun i => (d.l.getD i o0).t) j) ∧ e_ 7 = .slice d.a d.l.length d.c ∧ e_ 8 = nv d.l.length ∧ e_ 9 = nv j ∧ L_ = [bk b_3 31 [.slice d.a d.l.length d.c, str d.jt, iv d.js]] ∧ k_ = d.l.length - j) _ ⟨0, by omega, rfl, rfl, rfl, rfl, rfl, rfl, rfl, rfl⟩ ?_
  rintro _ e_4 _ ⟨j, hj, he_5, he_6, he_7, he_8, he_9, he_10, rfl, rfl⟩
  refine jC <| jF <| jA (jl he_10 he_9) <| jE <| jB <| jC ?_
  by_cases h_11 : ((j : Nat) : Int) < ((d.l.length : Nat) : Int)
  · have hlt : j < d.l.length := by omega
    refine jW (cB (dT h_11)) <| jT <| jB <| jC <| jf <| jC <| jF <| jA (jD (v := nv j) he_10) ?_
    obtain ⟨hr_12, hr_12b, -⟩ := sees_some hs_1 (by omega)
    refine jA (jk (i := j) km kj hr_12 hr_12b he_8 he_10 (by omega)) ?_
    have hi_13 := SeesA.elem hi_2 o0 (show j < d.l.length by omega)
    have hs_14 := seesO hi_13
    refine jK (kX (vs := [iv ((d.l.getD j o0).t.seq), .slice ((d.l.getD j o0).x.a0) ((d.l.getD j o0).t.cells.length) ((d.l.getD j o0).x.c0), .bool ((d.l.getD j o0).t.whole)]) hs_1 nM rfl gB kj (flat_take encO_len o0 d.l j (by omega)) rfl (by decide)) ?_
    refine jH rfl (jo (z := .agg #[iv 0, .slice none 0 0, .bool false]) (cs := [iv 0, .slice none 0 0, .bool false]) gD rfl) ?_
    rintro _ _ ⟨b_15, rfl, rfl⟩
    refine jA (jG (v := nv j) rfl) ?_
    refine jH rfl (ja 0 (vs := [iv ((d.l.getD j o0).t.seq), .slice ((d.l.getD j o0).x.a0) ((d.l.getD j o0).t.cells.length) ((d.l.getD j o0).x.c0), .bool ((d.l.getD j o0).t.whole)]) (cs' := [iv ((d.l.getD j o0).t.seq), .slice ((d.l.getD j o0).x.a0) ((d.l.getD j o0).t.cells.length) ((d.l.getD j o0).x.c0), .bool ((d.l.getD j o0).t.whole)]) rfl rfl rfl rfl kj rfl rfl (lb rfl) rfl) ?_
    rintro _ _ rfl
    refine jE <| jB <| jC <| kJ [bk b_15 60 [iv ((d.l.getD j o0).t.seq), .slice ((d.l.getD j o0).x.a0) ((d.l.getD j o0).t.cells.length) ((d.l.getD j o0).x.c0), .bool ((d.l.getD j o0).t.whole)], bk b_3 31 [.slice d.a d.l.length d.c, str d.jt, iv d.js]] 1000 mixed (by simp) <| jL 0 rfl (jQ fo60_2 rfl) <| jw 1 rfl (jZ 0 (v := .bool ((d.l.getD j o0).t.whole)) rfl rfl gI rfl) <| jL 2 rfl (jD (v := .bool ((d.l.getD j o0).t.whole)) rfl) ?_
    rcases Bool.eq_false_or_eq_true ((d.l.getD j o0).t.whole) with h_16 | h_16
    · refine jg 3 rfl (by kernel_rfl) (NP.th (NP.bl (NP.th (NP.th (NP.bl (NP.th NP.body)))))) (by kernel_rfl) (by kernel_rfl) rfl rfl rfl (cB h_16) (jD (v := iv (bestF (fun i => (d.l.getD i o0).t) j)) he_7) <| jg 4 rfl (by kernel_rfl) (NP.th (NP.bl (NP.th (NP.th (NP.bl (NP.th NP.body)))))) (by kernel_rfl) (by kernel_rfl) rfl rfl rfl (cB h_16) (jl rfl rfl) <| jg 5 rfl (by kernel_rfl) (NP.th (NP.bl (NP.th (NP.th (NP.bl (NP.th NP.body)))))) (by kernel_rfl) (by kernel_rfl) rfl rfl rfl (cB h_16) (jD (v := .bool (decide ((bestF (fun i => (d.l.getD i o0).t) j) < 0))) rfl) ?_
      by_cases h_17 : (bestF (fun i => (d.l.getD i o0).t) j) < 0
      · refine jd 6 (b := true) rfl (by kernel_rfl) (NP.th (NP.bl (NP.th (NP.th (NP.bl (NP.th NP.body)))))) (by kernel_rfl) (by kernel_rfl) rfl rfl rfl (cB (dT h_17)) <| jd 7 (b := true) rfl (by kernel_rfl) (NP.th (NP.bl (NP.th (NP.th (NP.bl (NP.th NP.body)))))) (by kernel_rfl) (by kernel_rfl) rfl rfl rfl (cB (dT h_17)) <| jd 8 (b := true) rfl (by kernel_rfl) (NP.th (NP.bl (NP.th (NP.th (NP.bl (NP.th NP.body)))))) (by kernel_rfl) (by kernel_rfl) rfl rfl rfl (cB (dT h_17)) <| jd 9 (b := true) rfl (by kernel_rfl) (NP.th (NP.bl (NP.th (NP.th (NP.bl (NP.th NP.body)))))) (by kernel_rfl) (by kernel_rfl) rfl rfl rfl (cB (dT h_17)) <| jd 10 (b := true) rfl (by kernel_rfl) (NP.th (NP.bl (NP.th (NP.th (NP.bl (NP.th NP.body)))))) (by kernel_rfl) (by kernel_rfl) rfl rfl rfl (cB (dT h_17)) <| jd 11 (b := true) rfl (by kernel_rfl) (NP.th (NP.bl (NP.th (NP.th (NP.bl (NP.th NP.body)))))) (by kernel_rfl) (by kernel_rfl) rfl rfl rfl (cB (dT h_17)) <| jd 12 (b := true) rfl (by kernel_rfl) (NP.th (NP.bl (NP.th (NP.th (NP.bl (NP.th NP.body)))))) (by kernel_rfl) (by kernel_rfl) rfl rfl rfl (cB (dT h_17)) <| jd 13 (b := true) rfl (by kernel_rfl) (NP.th (NP.bl (NP.th (NP.th (NP.bl (NP.th NP.body)))))) (by kernel_rfl) (by kernel_rfl) rfl rfl rfl (cB (dT h_17)) <| jd 14 (b := true) rfl (by kernel_rfl) (NP.th (NP.bl (NP.th (NP.th (NP.bl (NP.th NP.body)))))) (by kernel_rfl) (by kernel_rfl) rfl rfl rfl (cB (dT h_17)) <| jg 15 rfl (by kernel_rfl) (NP.th (NP.bl (NP.th (NP.th (NP.bl (NP.th NP.body)))))) (by kernel_rfl) (by kernel_rfl) rfl rfl rfl (cB h_16) (jh (v := .bool true) (cB (dT h_17)) rfl) ?_
        refine jL 16 rfl (jh (v := .bool true) (cB h_16) rfl) <| kI (by kernel_rfl) <| jB <| jW (cB rfl) <| jF <| jA (jD (v := nv j) rfl) <| jA (jG (v := nv j) rfl) <| jE <| jm <| jB ?_
        refine jF <| jA (jc (c := ((j + 1 : Nat) : Int)) he_10 rfl (wr (by omega))) <| jA (jD (v := iv ((j + 1 : Nat) : Int)) rfl) <| jE <| kB [1] (A := [bk b_3 31 [.slice d.a d.l.length d.c, str d.jt, iv d.js]]) rfl ?_
        refine jq (d.l.length - (j + 1)) (by omega) ⟨j + 1, by omega, he_5, he_6, (by simp only [bestF]; first | (rw [if_pos ⟨by assumption, .inl (by assumption)⟩]; first | rfl | assumption) | (rw [if_neg (by rintro ⟨h_, _⟩; simp_all)]; first | rfl | assumption)), he_8, he_9, rfl, rfl, rfl⟩
      have hlo := bestF_lo (fun i => (d.l.getD i o0).t) j
      obtain ⟨q_18, hq_19⟩ : ∃ n_ : Nat, bestF (fun i => (d.l.getD i o0).t) j = ((n_ : Nat) : Int) := ⟨(bestF (fun i => (d.l.getD i o0).t) j).toNat, by omega⟩
      refine jg 6 rfl (by kernel_rfl) (NP.th (NP.bl (NP.th (NP.th (NP.bl (NP.th NP.body)))))) (by kernel_rfl) (by kernel_rfl) rfl rfl rfl (cB (dF h_17)) (jQ fo60_0 rfl) <| kK 7 rfl (by kernel_rfl) (NP.th (NP.bl (NP.th (NP.th (NP.bl (NP.th NP.body)))))) (by kernel_rfl) (by kernel_rfl) (by kernel_rfl) rfl rfl rfl (cB (dF h_17)) (jZ 0 (v := iv ((d.l.getD j o0).t.seq)) rfl rfl kq rfl) <| jg 8 rfl (by kernel_rfl) (NP.th (NP.bl (NP.th (NP.th (NP.bl (NP.th NP.body)))))) (by kernel_rfl) (by kernel_rfl) rfl rfl rfl (cB (dF h_17)) (jQ fo31_0 he_5) <| kK 9 rfl (by kernel_rfl) (NP.th (NP.bl (NP.th (NP.th (NP.bl (NP.th NP.body)))))) (by kernel_rfl) (by kernel_rfl) (by kernel_rfl) rfl rfl rfl (cB (dF h_17)) (jZ 1 (v := .slice d.a d.l.length d.c) rfl rfl ks rfl) <| jg 10 rfl (by kernel_rfl) (NP.th (NP.bl (NP.th (NP.th (NP.bl (NP.th NP.body)))))) (by kernel_rfl) (by kernel_rfl) rfl rfl rfl (cB (dF h_17)) (jD (v := nv q_18) ((he_7).trans (congrArg (Value.int .i64) hq_19))) <| jg 11 rfl (by kernel_rfl) (NP.th (NP.bl (NP.th (NP.th (NP.bl (NP.th NP.body)))))) (by kernel_rfl) (by kernel_rfl) rfl rfl rfl (cB (dF h_17)) (jk (i := q_18) km kj hr_12 hr_12b rfl rfl (by omega)) <| jg 12 rfl (by kernel_rfl) (NP.th (NP.bl (NP.th (NP.th (NP.bl (NP.th NP.body)))))) (by kernel_rfl) (by kernel_rfl) rfl rfl rfl (cB (dF h_17)) (kL fo60_0 hr_12 rfl) ?_
      have hi_20 := SeesA.elem hi_2 o0 (show q_18 < d.l.length by omega)
      have hs_21 := seesO hi_20
      refine kK 13 rfl (by kernel_rfl) (NP.th (NP.bl (NP.th (NP.th (NP.bl (NP.th NP.body)))))) (by kernel_rfl) (by kernel_rfl) (by kernel_rfl) rfl rfl rfl (cB (dF h_17)) (kY (v := iv ((d.l.getD q_18 o0).t.seq)) hs_1 nM rfl kq (flat_at encO_len o0 d.l q_18 0 (by omega) (by decide))) <| jg 14 rfl (by kernel_rfl) (NP.th (NP.bl (NP.th (NP.th (NP.bl (NP.th NP.body)))))) (by kernel_rfl) (by kernel_rfl) rfl rfl rfl (cB (dF h_17)) (kR rfl rfl) <| jg 15 rfl (by kernel_rfl) (NP.th (NP.bl (NP.th (NP.th (NP.bl (NP.th NP.body)))))) (by kernel_rfl) (by kernel_rfl) rfl rfl rfl (cB h_16) (ji (v := .bool (decide (((d.l.getD q_18 o0).t.seq) < ((d.l.getD j o0).t.seq)))) (cB (dF h_17)) rfl) <| jL 16 rfl (jh (v := .bool (decide (((d.l.getD q_18 o0).t.seq) < ((d.l.getD j o0).t.seq)))) (cB h_16) rfl) <| kI (by kernel_rfl) <| jB ?_
      by_cases h_22 : ((d.l.getD q_18 o0).t.seq) < ((d.l.getD j o0).t.seq)
      · refine jW (cB (dT h_22)) <| jF <| jA (jD (v := nv j) rfl) <| jA (jG (v := nv j) rfl) <| jE <| jm <| jB <| jF <| jA (jc (c := ((j + 1 : Nat) : Int)) he_10 rfl (wr (by omega))) <| jA (jD (v := iv ((j + 1 : Nat) : Int)) rfl) ?_
        refine jE <| kB [1] (A := [bk b_3 31 [.slice d.a d.l.length d.c, str d.jt, iv d.js]]) rfl ?_
        refine jq (d.l.length - (j + 1)) (by omega) ⟨j + 1, by omega, he_5, he_6, (by first | rfl | (simp only [bestF]; first | (rw [if_pos ⟨by assumption, .inr (by rw [hq_19]; simp only [Int.toNat_natCast]; omega)⟩]; first | rfl | assumption) | (rw [if_neg (by rintro ⟨_, h_ | h_⟩ <;> first | omega | (simp only [hq_19, Int.toNat_natCast] at h_; omega))]; first | assumption | (rw [hq_19]; first | rfl | assumption)))), he_8, he_9, rfl, rfl, rfl⟩
      refine jR (cB (dF h_22)) <| jT <| jm <| jB <| jF <| jA (jc (c := ((j + 1 : Nat) : Int)) he_10 rfl (wr (by omega))) <| jA (jD (v := iv ((j + 1 : Nat) : Int)) rfl) <| jE <| kB [1] (A := [bk b_3 31 [.slice d.a d.l.length d.c, str d.jt, iv d.js]]) rfl ?_
      refine jq (d.l.length - (j + 1)) (by omega) ⟨j + 1, by omega, he_5, he_6, (by first | rfl | (simp only [bestF]; first | (rw [if_pos ⟨by assumption, .inr (by rw [hq_19]; simp only [Int.toNat_natCast]; omega)⟩]; first | rfl | assumption) | (rw [if_neg (by rintro ⟨_, h_ | h_⟩ <;> first | omega | (simp only [hq_19, Int.toNat_natCast] at h_; omega))]; first | assumption | (rw [hq_19]; first | rfl | assumption)))), he_8, he_9, rfl, rfl, rfl⟩
    refine jd 3 (b := false) rfl (by kernel_rfl) (NP.th (NP.bl (NP.th (NP.th (NP.bl (NP.th NP.body)))))) (by kernel_rfl) (by kernel_rfl) rfl rfl rfl (cB h_16) <| jd 4 (b := false) rfl (by kernel_rfl) (NP.th (NP.bl (NP.th (NP.th (NP.bl (NP.th NP.body)))))) (by kernel_rfl) (by kernel_rfl) rfl rfl rfl (cB h_16) <| jd 5 (b := false) rfl (by kernel_rfl) (NP.th (NP.bl (NP.th (NP.th (NP.bl (NP.th NP.body)))))) (by kernel_rfl) (by kernel_rfl) rfl rfl rfl (cB h_16) <| kE 6 rfl (by kernel_rfl) (NP.th (NP.bl (NP.th (NP.th (NP.bl (NP.th NP.body)))))) (by kernel_rfl) (by kernel_rfl) rfl rfl rfl rfl <| kE 7 rfl (by kernel_rfl) (NP.th (NP.bl (NP.th (NP.th (NP.bl (NP.th NP.body)))))) (by kernel_rfl) (by kernel_rfl) rfl rfl rfl rfl <| kE 8 rfl (by kernel_rfl) (NP.th (NP.bl (NP.th (NP.th (NP.bl (NP.th NP.body)))))) (by kernel_rfl) (by kernel_rfl) rfl rfl rfl rfl <| kE 9 rfl (by kernel_rfl) (NP.th (NP.bl (NP.th (NP.th (NP.bl (NP.th NP.body)))))) (by kernel_rfl) (by kernel_rfl) rfl rfl rfl rfl <| kE 10 rfl (by kernel_rfl) (NP.th (NP.bl (NP.th (NP.th (NP.bl (NP.th NP.body)))))) (by kernel_rfl) (by kernel_rfl) rfl rfl rfl rfl <| kE 11 rfl (by kernel_rfl) (NP.th (NP.bl (NP.th (NP.th (NP.bl (NP.th NP.body)))))) (by kernel_rfl) (by kernel_rfl) rfl rfl rfl rfl <| kE 12 rfl (by kernel_rfl) (NP.th (NP.bl (NP.th (NP.th (NP.bl (NP.th NP.body)))))) (by kernel_rfl) (by kernel_rfl) rfl rfl rfl rfl ?_
    refine kE 13 rfl (by kernel_rfl) (NP.th (NP.bl (NP.th (NP.th (NP.bl (NP.th NP.body)))))) (by kernel_rfl) (by kernel_rfl) rfl rfl rfl rfl <| kE 14 rfl (by kernel_rfl) (NP.th (NP.bl (NP.th (NP.th (NP.bl (NP.th NP.body)))))) (by kernel_rfl) (by kernel_rfl) rfl rfl rfl rfl <| jd 15 (b := false) rfl (by kernel_rfl) (NP.th (NP.bl (NP.th (NP.th (NP.bl (NP.th NP.body)))))) (by kernel_rfl) (by kernel_rfl) rfl rfl rfl (cB h_16) <| jL 16 rfl (ji (v := .bool false) (cB h_16) rfl) <| kI (by kernel_rfl) <| jB <| jR (cB rfl) <| jT <| jm <| jB ?_
    refine jF <| jA (jc (c := ((j + 1 : Nat) : Int)) he_10 rfl (wr (by omega))) <| jA (jD (v := iv ((j + 1 : Nat) : Int)) rfl) <| jE <| kB [1] (A := [bk b_3 31 [.slice d.a d.l.length d.c, str d.jt, iv d.js]]) rfl ?_
    refine jq (d.l.length - (j + 1)) (by omega) ⟨j + 1, by omega, he_5, he_6, (by simp only [bestF]; first | (rw [if_pos ⟨by assumption, .inl (by assumption)⟩]; first | rfl | assumption) | (rw [if_neg (by rintro ⟨h_, _⟩; simp_all)]; first | rfl | assumption)), he_8, he_9, rfl, rfl, rfl⟩
  refine jR (cB (dF h_11)) <| jx <| jb <| jb <| jy <| jB <| jC <| jF <| jA (jD (v := iv (bestF (fun i => (d.l.getD i o0).t) j)) he_7) <| jA (jG (v := iv (bestF (fun i => (d.l.getD i o0).t) j)) rfl) ?_
  refine jE <| jB <| jN <| jV (.inl rfl) rfl (jJ (v := iv (bestF (fun i => (d.l.getD i o0).t) j)) rfl) (List.nil_sublist _) ?_
  refine ⟨congrArg (Value.int .i64) ?_, rfl⟩
  rw [bestD_dat, show d.l.length = j by omega]

end Go.Proofs.YtjncpgcccgdeiaaGreatDoor

set_option linter.unusedSimpArgs false
set_option linter.unusedVariables false
set_option linter.unnecessarySimpa false
namespace Go.Proofs.YtjncpgcccgdeiaaGreatDoor
open Go Go.RowKit
section
variable {P : Program} {ops : Array Oper} {Q : Exit → Act → World → Prop} {n : Nat} {w0 w : World} {D : List Nat} {L : List Res} {e : Env}
variable {d : Option Tmp} {ty : TypeId} {pos : String} {aft : Array Edge} {gd : Option (Nat × Bool)}
theorem LO.toUnsafe (i : Nat) {src dst t el b : Nat} {cs : List Value} {x : Operand} {fr : Nat × Nat} (hL : L[i]? = some (.blk b (.cells cs.toArray el fr))) (hs : P.underlying src = some (.pointer t)) (hd : P.underlying dst = some .unsafePointer)
    (hx : rd n e x = .pointer (some ⟨b, 0, none⟩)) (ht : (P.info? t).map (·.size) = some 2) (h0 : 0 < cs.length) : LO P n w0 D L e ⟨d, .convert src dst x, ty, pos, aft, gd⟩ (.pointer (some ⟨b, 0, none⟩)) := fun w hw => by
  have hb : w.heap[b]? = some (.cells cs.toArray el fr) := hw.get hL
  have hsh : w.shape? b = some (el, cs.length) := by simp [World.shape?, hb]
  obtain ⟨j, hj, hjs⟩ := Option.map_eq_some_iff.1 ht
  have h := Lib.run_to_unsafe (P := P) w ⟨b, 0, none⟩ hs hd hj (by rw [hjs]; decide) hsh h0
  simp [execOp, hx, h]
theorem LO.fromUnsafe (i : Nat) {src dst t el b : Nat} {cs : List Value} {x : Operand} {fr : Nat × Nat} (hL : L[i]? = some (.blk b (.cells cs.toArray el fr))) (hs : P.underlying src = some .unsafePointer) (hd : P.underlying dst = some (.pointer t))
    (hx : rd n e x = .pointer (some ⟨b, 0, none⟩)) (ht : (P.info? t).map (·.size) = some 2) (hlies : liesAt P P.depth el (cs.length / P.cellsOf el) 0 t 1 = true) : LO P n w0 D L e ⟨d, .convert src dst x, ty, pos, aft, gd⟩ (.pointer (some ⟨b, 0, none⟩)) := fun w hw => by
  have hb : w.heap[b]? = some (.cells cs.toArray el fr) := hw.get hL
  have hsh : w.shape? b = some (el, cs.length) := by simp [World.shape?, hb]
  obtain ⟨j, hj, hjs⟩ := Option.map_eq_some_iff.1 ht
  have h := Lib.run_from_unsafe (P := P) w ⟨b, 0, none⟩ hs hd hj hsh hlies
  simp [execOp, hx, h]
theorem PO.noEscape {f : FuncId} {fn : Func} {x : Operand} {ats : Array TypeId} {v : Value} (hf : P.funcs[f]? = some fn) (hname : (fn.name == "runtime.NumGoroutine") = false) (hb : fn.body.isNone = true) (hn : Extern.findNext fn = none)
    (he : Extern.find fn = some Extern.AbiNoEscape.same) (hx : rd n e x = v) : PO P n e ⟨d, .call ⟨.value (.func f), #[x], ats⟩, ty, pos, aft, gd⟩ v := fun w => by
  have h := run_callFunc_extern hf hname hb hn he #[v] w
  have h0 : rd n e (.func f) = .func (.func f) #[] #[] := rfl
  simp [execOp, resolve, invoke, h0, Deferred.ofValue, hx, h, Lib.run_noEscape, Result.andThen]
theorem run_eql_ptr_nil {tp te : TypeId} {j : TypeInfo} (hp : P.underlying tp = some (.pointer te)) (hte : P.info? te = some j) (q : Option Addr) : (binOp .eql tp (.pointer q) (.pointer none)).run P w = .ok (.bool q.isNone) w := by
  have h : ∀ d : Nat, (Op.equalIn (d + 1) tp (.pointer q) (.pointer none)).run P w = .ok q.isNone w := fun d => by
    cases q <;> simp [Op.equalIn, run_underlying hp, sizeOf, typeInfo, hte, sameAddr]
  simp only [binOp]
  simp [Op.equal, Op.maxDepth, h 9999]
theorem PO.eqlPN {x y : Operand} {q : Option Addr} {t u te : TypeId} (hp : P.underlying t = some (.pointer te)) (ht : (P.info? te).map (·.size) = some 2) (hx : rd n e x = .pointer q) (hy : rd n e y = .pointer none) : PO P n e ⟨d, .binOp .eql t x y u, ty, pos, aft, gd⟩ (.bool q.isNone) := fun w => by
  obtain ⟨j, hte, _⟩ := Option.map_eq_some_iff.1 ht
  have h := run_eql_ptr_nil (w := w) hp hte q
  simp [execOp, hx, hy, eqGuard, h]
theorem PO.neqPP {x y : Operand} {a : Addr} {t u te : TypeId} (hp : P.underlying t = some (.pointer te)) (ht : (P.info? te).map (·.size) = some 2) (hx : rd n e x = .pointer (some a)) (hy : rd n e y = .pointer (some a)) : PO P n e ⟨d, .binOp .neq t x y u, ty, pos, aft, gd⟩ (.bool false) := fun w => by
  obtain ⟨j, hte, _⟩ := Option.map_eq_some_iff.1 ht
  have h := Lib.run_neq_ptr_same (P := P) (w := w) a hp hte
  simp [execOp, hx, hy, eqGuard, h]
theorem PO.sliceVlh {x lo hi : Operand} {a : Option Addr} {m c i j k : Nat} {q q' : IntKind} {t el : TypeId} (ht : P.underlying t = some (.slice el)) (hs : ∀ w, (sizeOf el).run P w = .ok k w) (ha : a.bind (·.spot) = none)
    (hx : rd n e x = .slice a m c) (hl : rd n e lo = .int q i) (hh : rd n e hi = .int q' j) (h1 : i ≤ j) (h2 : j ≤ c) : PO P n e ⟨d, .slice t x (some lo) (some hi) none, ty, pos, aft, gd⟩ (.slice (subA k a c i) (j - i) (c - i)) := fun w => by
  have hsub := sub_add (k := k) (c := c) (lo := i) ha
  simp [execOp, run_sliceAt_slice _ _ _ _ _ _ (elem_of ht), Instr.slice, run_underlying ht, hx, hl, hh, Instr.sliceBounds, Instr.sliceBound, asIntOf, hs, h1, h2, hsub]
theorem PO.indexSub {x y : Operand} {a : Option Addr} {m c lo : Nat} {k : IntKind} {i s : Nat} {t el : TypeId} (ht : P.underlying t = some (.slice el)) (hs : ∀ w, (sizeOf el).run P w = .ok s w) (ha : a.isSome = true) (hsp : a.bind (·.spot) = none)
    (hx : rd n e x = .slice (subA s a c lo) m (c - lo)) (hy : rd n e y = .int k i) (hi : i < m) (hc : lo + m ≤ c) : PO P n e ⟨d, .indexAddr t x y, ty, pos, aft, gd⟩ (elp a ((lo + i) * s)) := by
  cases a with
  | none => simp at ha
  | some q =>
    obtain ⟨b, o, sp⟩ := q
    simp only [Option.bind_some] at hsp
    subst hsp
    have e1 : subA s (some ⟨b, o, none⟩) c lo = some ⟨b, o + lo * s, none⟩ := by unfold subA; rw [if_neg (by omega)]; rfl
    rw [e1] at hx
    have h := jk (n := n) (e := e) (d := d) (ty := ty) (pos := pos) (aft := aft) (gd := gd) ht hs rfl rfl hx hy hi
    have e2 : elp (some ⟨b, o + lo * s, none⟩) (i * s) = elp (some ⟨b, o, none⟩) ((lo + i) * s) := by simp only [elp, Nat.add_mul, Nat.add_assoc]
    rw [e2] at h
    exact h
theorem PO.unsafeData {x : Operand} {a : Option Addr} {q : Addr} {m c : Nat} {ts : Array TypeId} (ha : a = some q) (hx : rd n e x = .slice a m c) (hc : c ≠ 0) : PO P n e ⟨d, .call ⟨.builtin .unsafeSliceData, #[x], ts⟩, ty, pos, aft, gd⟩ (.pointer (some q)) := fun w => by
  subst ha
  have h := fun ts ty => Lib.run_unsafeSliceData_row (P := P) (w := w) ts ty q m c hc
  simp [execOp, resolve, invoke, builtin, hx, h]
theorem freeze_at {w : World} {g m : Nat} {cur : Array Value} {t : TypeId} {fz : Nat × Nat} (h : w.heap[g]? = some (.cells cur t fz)) : ∃ fz', (w.freeze ⟨g, 0, none⟩ m).heap[g]? = some (.cells cur t fz') := by
  unfold World.freeze
  split
  · exact ⟨fz, h⟩
  · obtain ⟨lo, hi⟩ := fz
    refine ⟨if lo == hi then (0, 0 + m) else (min lo 0, max hi (0 + m)), ?_⟩
    simp [Array.getElem?_modify, h]
theorem freeze_other {w : World} {g k m : Nat} (h : k ≠ g) : (w.freeze ⟨g, 0, none⟩ m).heap[k]? = w.heap[k]? := by
  unfold World.freeze
  split
  · rfl
  · simp [Array.getElem?_modify, Ne.symm h]
theorem freeze_size (w : World) (g m : Nat) : (w.freeze ⟨g, 0, none⟩ m).heap.size = w.heap.size := by
  unfold World.freeze
  split <;> simp
theorem JO.unsafeStr (i : Nat) {x y : Operand} {g pt it : Nat} {cur : Array Value} {fz : Nat × Nat} {l : Str} (hL : L[i]? = some (.blk g (.cells cur TB fz))) (hp : P.underlying pt = some (.pointer TB)) (hc : P.cellsOf TB = 1)
    (hx : rd n e x = .pointer (some ⟨g, 0, none⟩)) (hy : rd n e y = .int .i64 l.length) (h0 : l ≠ []) (hn : l.length ≤ cur.size) (h63 : l.length ≤ 9223372036854775807) (ht : cur.toList.take l.length = l.map encB) :
    JO P n w0 D L e ⟨d, .call ⟨.builtin .unsafeString, #[x, y], #[pt, it]⟩, ty, pos, aft, gd⟩ (fun v L' => ∃ fz', v = str l ∧ L' = L.set i (.blk g (.cells cur TB fz'))) := JO.ofRun fun w hw => by
  have hb : w.heap[g]? = some (.cells cur TB fz) := hw.get hL
  have hlt := (Array.getElem?_eq_some_iff.1 hb).1
  have hrun := Lib.run_unsafeString_row (P := P) w pt it ty TB hp hc g cur.size (by simp [World.shape?, hb]) l h0 hn h63 (fun j b hj => by
    have e1 : (cur.toList.take l.length)[j]? = some (encB b) := by rw [ht, List.getElem?_map, hj]; rfl
    have hjl : j < l.length := (List.getElem?_eq_some_iff.1 hj).1
    rw [List.getElem?_take, if_pos hjl] at e1
    have hadd : (⟨g, 0, none⟩ : Addr).add j = ⟨g, 0 + j, none⟩ := by unfold Addr.add; split <;> simp_all
    rw [hadd, Nat.zero_add, cell_of_row w g j cur TB fz hb]
    simpa [encB] using e1)
  obtain ⟨fz', hfz⟩ := freeze_at (m := l.length) hb
  refine ⟨str l, _, w.freeze ⟨g, 0, none⟩ l.length, ?_, ⟨fz', rfl, rfl⟩, ?_⟩
  · simp [execOp, resolve, invoke, builtin, hx, hy, hrun, str]
  · refine hw.turn1 hL (by unfold World.freeze; split <;> rfl) (by unfold World.freeze; split <;> rfl) (by unfold World.freeze; split <;> rfl) (Nat.le_of_eq (freeze_size w g l.length).symm) (fun k _ hk => freeze_other (by simpa [Res.ids] using hk)) hfz (by simp [Res.ids]) (fun i hi => .inl hi)
/-- A row that is not empty is a block. -/
theorem row_blk {i m t k c : Nat} {a : Option Addr} {xs : List Value} {w : World} (hw : St w0 D L w) (hL : L[i]? = some (.row (.slice a m c) t k m xs)) (hm : 0 < m) :
    ∃ g cur fz, a = some ⟨g, 0, none⟩ ∧ m ≤ c ∧ c ≤ maxLen ∧ c * k ≤ cur.size ∧ cur.toList.take (m * k) = xs ∧ St w0 D (L.set i (.blk g (.cells cur t fz))) w := by
  have h := hw.get hL
  rcases h.2 with ⟨_, h0⟩ | ⟨g, cap, cur, hv, hb, ⟨fz, hg, _⟩, h1, h2, h3, h4⟩
  · omega
  · simp only [Value.slice.injEq] at hv
    obtain ⟨rfl, _, rfl⟩ := hv
    refine ⟨g, cur, fz, rfl, h1, h2, h3, h4, ?_⟩
    refine hw.turn1 hL rfl rfl rfl (Nat.le_refl _) (fun _ _ _ => rfl) hg (by simp [Res.ids]) (fun i hi => .inl ?_)
    simpa [Res.ids, Value.ownBlock] using hi
theorem JC.rowBlk (i : Nat) {m t k c : Nat} {a : Option Addr} {xs : List Value} {z : Code} (hL : L[i]? = some (.row (.slice a m c) t k m xs)) (hm : 0 < m)
    (h : ∀ g cur fz, a = some ⟨g, 0, none⟩ → m ≤ c → c ≤ maxLen → c * k ≤ cur.size → cur.toList.take (m * k) = xs → JC P Q n w0 D (L.set i (.blk g (.cells cur t fz))) z e) : JC P Q n w0 D L z e := fun w hw => by
  obtain ⟨g, cur, fz, h1, h2, h3, h4, h5, h6⟩ := row_blk hw hL hm
  exact h g cur fz h1 h2 h3 h4 h5 w h6
end
end Go.Proofs.YtjncpgcccgdeiaaGreatDoor

set_option linter.unusedSimpArgs false
set_option linter.unusedVariables false
set_option linter.unnecessarySimpa false
namespace Go.Proofs.YtjncpgcccgdeiaaGreatDoor
open Go Go.RowKit
attribute [local irreducible] JL JC JQ JO LO PO JA JX Ct

theorem fo93_0 : FieldOff Tryz.prog 93 0 0 := FieldOff.mk Tryz.underlying93 rfl rfl rfl Tryz.sizeOf91
theorem fo93_1 : FieldOff Tryz.prog 93 1 1 := FieldOff.mk Tryz.underlying93 rfl rfl rfl Tryz.sizeOf39
theorem Y_cc0 (b : Nat) (sa : Option Addr) (m sc : Nat) :
    Ct Tryz.prog 120 [.pointer (some ⟨b, 0, none⟩)] [bk b 93 [.pointer none, .slice sa m sc]] (fun _ => True) (fun v A' => v = .tuple #[] ∧ A' = [bk b 93 [.pointer (some ⟨b, 0, none⟩), .slice sa m sc]]) := by
  refine Ct.intro Tryz.func120 rfl Tryz.ntmps120 (lb rfl) fun w0 hpre => ?_
  refine jC <| jF <| jA (jD (v := .pointer (some ⟨b, 0, none⟩)) rfl) <| jA (PO.nilCheck rfl) <| jA (jQ fo93_0 rfl) <| jK (jZ 0 (v := .pointer none) rfl rfl Tryz.isAgg91 rfl) <| jA (PO.eqlPN Tryz.underlying91 (by kernel_rfl) rfl rfl) <| jE <| jB <| jW (cB rfl) ?_
  refine jF <| jA (jD (v := .pointer (some ⟨b, 0, none⟩)) rfl) <| jA (jD (v := .pointer (some ⟨b, 0, none⟩)) rfl) <| jK (LO.toUnsafe 0 rfl Tryz.underlying91 Tryz.underlying152 rfl (by kernel_rfl) (lb rfl)) <| jA (PO.noEscape Tryz.func151 (by kernel_rfl) (by kernel_rfl) (by kernel_rfl) (by kernel_rfl) rfl) <| jK (LO.fromUnsafe 0 rfl Tryz.underlying152 Tryz.underlying91 rfl (by kernel_rfl) (by kernel_rfl)) <| jA (PO.nilCheck rfl) <| jA (jQ fo93_0 rfl) ?_
  refine jH rfl (ja 0 (vs := [.pointer (some ⟨b, 0, none⟩)]) (cs' := [.pointer (some ⟨b, 0, none⟩), .slice sa m sc]) rfl rfl rfl rfl Tryz.sizeOf91 rfl rfl (lb rfl) rfl) ?_
  rintro _ _ rfl
  refine jE <| Done.none (.inr rfl) rfl (List.Sublist.refl _) ?_
  exact ⟨rfl, rfl⟩

theorem Y_cc1 (b : Nat) (sa : Option Addr) (m sc : Nat) :
    Ct Tryz.prog 120 [.pointer (some ⟨b, 0, none⟩)] [bk b 93 [.pointer (some ⟨b, 0, none⟩), .slice sa m sc]] (fun _ => True) (fun v A' => v = .tuple #[] ∧ A' = [bk b 93 [.pointer (some ⟨b, 0, none⟩), .slice sa m sc]]) := by
  refine Ct.intro Tryz.func120 rfl Tryz.ntmps120 (lb rfl) fun w0 hpre => ?_
  refine jC <| jF <| jA (jD (v := .pointer (some ⟨b, 0, none⟩)) rfl) <| jA (PO.nilCheck rfl) <| jA (jQ fo93_0 rfl) <| jK (jZ 0 (v := .pointer (some ⟨b, 0, none⟩)) rfl rfl Tryz.isAgg91 rfl) <| jA (PO.eqlPN Tryz.underlying91 (by kernel_rfl) rfl rfl) <| jE <| jB <| jR (cB rfl) ?_
  refine jC <| jF <| jA (jD (v := .pointer (some ⟨b, 0, none⟩)) rfl) <| jA (PO.nilCheck rfl) <| jA (jQ fo93_0 rfl) <| jK (jZ 0 (v := .pointer (some ⟨b, 0, none⟩)) rfl rfl Tryz.isAgg91 rfl) <| jA (jD (v := .pointer (some ⟨b, 0, none⟩)) rfl) <| jA (PO.neqPP Tryz.underlying91 (by kernel_rfl) rfl rfl) <| jE <| jB ?_
  refine jR (cB rfl) <| jT <| Done.none (.inr rfl) rfl (List.Sublist.refl _) ?_
  exact ⟨rfl, rfl⟩

theorem Y_ws0 (b : Nat) (sa : Option Addr) (sc : Nat) (l s : Str) (hl : l.length ≤ 100000000) (hs : s.length ≤ 100000000) :
    Ct Tryz.prog 77 [.pointer (some ⟨b, 0, none⟩), str s] [bk b 93 [.pointer none, .slice sa l.length sc], Res.row (.slice sa l.length sc) 5 1 l.length (l.map encB)] (fun _ => True) (fun v A' => ∃ a c, v = .tuple #[.int .i64 ((s.length : Nat) : Int), .nilIface] ∧ A' = [bk b 93 [.pointer (some ⟨b, 0, none⟩), .slice a (l ++ s).length c], .row (.slice a (l ++ s).length c) 5 1 (l ++ s).length ((l ++ s).map encB)]) := by
  refine Ct.intro Tryz.func77 rfl Tryz.ntmps77 (lb rfl) fun w0 hpre => ?_
  refine jC <| jF <| jA (jG (v := iv 0) rfl) <| jA (jG (v := .nilIface) rfl) <| jE <| jB <| jC <| jF <| jA (jD (v := .pointer (some ⟨b, 0, none⟩)) rfl) ?_
  refine jH rfl (jI [0] Tryz.call120 rfl (Y_cc0 b sa l.length sc) rfl (fun _ _ => trivial)) ?_
  rintro _ _ ⟨_, ⟨rfl, rfl⟩, rfl⟩
  refine jE <| jB <| jC <| jF <| jA (jD (v := .pointer (some ⟨b, 0, none⟩)) rfl) <| jA (jD (v := .pointer (some ⟨b, 0, none⟩)) rfl) <| jA (PO.nilCheck rfl) <| jA (jQ fo93_1 rfl) <| jK (jZ 0 (v := .slice sa l.length sc) rfl rfl Tryz.isAgg39 rfl) <| jA (jD (v := str s) rfl) ?_
  refine jH rfl (JO.appendS' 1 (q := s.length) (news := s.map encB) (n' := (l ++ s).length) (cs' := (l ++ s).map encB) rfl kr kg Tryz.typeInfo5 rfl (by' := 1) rfl rfl rfl rfl rfl (fun w hw => Src.str s) (by (try simp only [List.length_append, List.length_cons, List.length_nil]); omega) (by (try simp only [List.length_append, List.length_cons, List.length_nil]); omega) (by simp only [List.length_append]) (by simp only [List.map_append])) ?_
  rintro _ _ ⟨a_1, c_2, rfl, rfl⟩
  refine jA (PO.nilCheck rfl) <| jA (jQ fo93_1 rfl) ?_
  refine jH rfl (ja 0 (vs := [.slice a_1 ((l ++ s).length) c_2]) (cs' := [.pointer (some ⟨b, 0, none⟩), .slice a_1 ((l ++ s).length) c_2]) rfl rfl rfl rfl Tryz.sizeOf39 rfl rfl (lb rfl) rfl) ?_
  rintro _ _ rfl
  refine jE <| jB <| jC <| jF <| jA (jD (v := str s) rfl) <| jA (kF kg rfl) <| jA (jG (v := iv (s.length : Int)) rfl) <| jA (jG (v := .nilIface) rfl) <| jE <| jB ?_
  refine jN <| kC (.inl rfl) rfl (jJ (v := iv (s.length : Int)) rfl) (jJ (v := .nilIface) rfl) (List.Sublist.refl _) ?_
  exact ⟨_, _, rfl, rfl⟩

theorem Y_ws1 (b : Nat) (sa : Option Addr) (sc : Nat) (l s : Str) (hl : l.length ≤ 100000000) (hs : s.length ≤ 100000000) :
    Ct Tryz.prog 77 [.pointer (some ⟨b, 0, none⟩), str s] [bk b 93 [.pointer (some ⟨b, 0, none⟩), .slice sa l.length sc], Res.row (.slice sa l.length sc) 5 1 l.length (l.map encB)] (fun _ => True) (fun v A' => ∃ a c, v = .tuple #[.int .i64 ((s.length : Nat) : Int), .nilIface] ∧ A' = [bk b 93 [.pointer (some ⟨b, 0, none⟩), .slice a (l ++ s).length c], .row (.slice a (l ++ s).length c) 5 1 (l ++ s).length ((l ++ s).map encB)]) := by
  refine Ct.intro Tryz.func77 rfl Tryz.ntmps77 (lb rfl) fun w0 hpre => ?_
  refine jC <| jF <| jA (jG (v := iv 0) rfl) <| jA (jG (v := .nilIface) rfl) <| jE <| jB <| jC <| jF <| jA (jD (v := .pointer (some ⟨b, 0, none⟩)) rfl) ?_
  refine jH rfl (jI [0] Tryz.call120 rfl (Y_cc1 b sa l.length sc) rfl (fun _ _ => trivial)) ?_
  rintro _ _ ⟨_, ⟨rfl, rfl⟩, rfl⟩
  refine jE <| jB <| jC <| jF <| jA (jD (v := .pointer (some ⟨b, 0, none⟩)) rfl) <| jA (jD (v := .pointer (some ⟨b, 0, none⟩)) rfl) <| jA (PO.nilCheck rfl) <| jA (jQ fo93_1 rfl) <| jK (jZ 0 (v := .slice sa l.length sc) rfl rfl Tryz.isAgg39 rfl) <| jA (jD (v := str s) rfl) ?_
  refine jH rfl (JO.appendS' 1 (q := s.length) (news := s.map encB) (n' := (l ++ s).length) (cs' := (l ++ s).map encB) rfl kr kg Tryz.typeInfo5 rfl (by' := 1) rfl rfl rfl rfl rfl (fun w hw => Src.str s) (by (try simp only [List.length_append, List.length_cons, List.length_nil]); omega) (by (try simp only [List.length_append, List.length_cons, List.length_nil]); omega) (by simp only [List.length_append]) (by simp only [List.map_append])) ?_
  rintro _ _ ⟨a_1, c_2, rfl, rfl⟩
  refine jA (PO.nilCheck rfl) <| jA (jQ fo93_1 rfl) ?_
  refine jH rfl (ja 0 (vs := [.slice a_1 ((l ++ s).length) c_2]) (cs' := [.pointer (some ⟨b, 0, none⟩), .slice a_1 ((l ++ s).length) c_2]) rfl rfl rfl rfl Tryz.sizeOf39 rfl rfl (lb rfl) rfl) ?_
  rintro _ _ rfl
  refine jE <| jB <| jC <| jF <| jA (jD (v := str s) rfl) <| jA (kF kg rfl) <| jA (jG (v := iv (s.length : Int)) rfl) <| jA (jG (v := .nilIface) rfl) <| jE <| jB ?_
  refine jN <| kC (.inl rfl) rfl (jJ (v := iv (s.length : Int)) rfl) (jJ (v := .nilIface) rfl) (List.Sublist.refl _) ?_
  exact ⟨_, _, rfl, rfl⟩

theorem Y_blen (b : Nat) (u : Option Addr) (sa : Option Addr) (m sc : Nat) :
    Ct Tryz.prog 79 [.pointer (some ⟨b, 0, none⟩)] [bk b 93 [.pointer u, .slice sa m sc]] (fun _ => True) (fun v A' => v = .int .i64 ((m : Nat) : Int) ∧ A' = [bk b 93 [.pointer u, .slice sa m sc]]) := by
  refine Ct.intro Tryz.func79 rfl Tryz.ntmps79 (lb rfl) fun w0 hpre => ?_
  refine jC <| jF <| jA (jG (v := iv 0) rfl) <| jE <| jB <| jC <| jF <| jA (jD (v := .pointer (some ⟨b, 0, none⟩)) rfl) <| jA (PO.nilCheck rfl) <| jA (jQ fo93_1 rfl) ?_
  refine jK (jZ 0 (v := .slice sa m sc) rfl rfl Tryz.isAgg39 rfl) <| jA (jr kr rfl) <| jA (jG (v := nv m) rfl) <| jE <| jB <| jN <| jV (.inl rfl) rfl (jJ (v := nv m) rfl) (List.Sublist.refl _) ?_
  exact ⟨rfl, rfl⟩

end Go.Proofs.YtjncpgcccgdeiaaGreatDoor

set_option linter.unusedSimpArgs false
set_option linter.unusedVariables false
set_option linter.unnecessarySimpa false
namespace Go.Proofs.YtjncpgcccgdeiaaGreatDoor
open Go Go.RowKit
theorem ix_cases (c : UInt8) : ∀ s : Str, (Lib.indexByte s c = -1 ∧ ∀ x ∈ s, x ≠ c) ∨ (∃ i : Nat, Lib.indexByte s c = ((i : Nat) : Int) ∧ i < s.length ∧ (∀ k, k < i → s.getD k 0 ≠ c) ∧ s.getD i 0 = c)
  | [] => .inl ⟨rfl, fun _ h => by cases h⟩
  | b :: s => by
    by_cases hb : b = c
    · subst hb
      exact .inr ⟨0, by simp [Lib.indexByte], by simp, fun k h => absurd h (Nat.not_lt_zero k), rfl⟩
    · have hb' : (b == c) = false := by simpa using hb
      rcases ix_cases c s with ⟨h1, h2⟩ | ⟨i, h1, h2, h3, h4⟩
      · refine .inl ⟨by simp [Lib.indexByte, hb', h1], fun x hx => ?_⟩
        rcases List.mem_cons.1 hx with rfl | hx
        · exact hb
        · exact h2 x hx
      · refine .inr ⟨i + 1, ?_, by simp; omega, fun k hk => ?_, by simpa using h4⟩
        · have : ¬ (((i : Nat) : Int) = -1) := by omega
          simp [Lib.indexByte, hb', h1, this]
        · cases k with
          | zero => simpa using hb
          | succ k => simpa using h3 k (by omega)
theorem front_no {c : UInt8} {s : Str} {i : Nat} (hi : i ≤ s.length) (h : ∀ k, k < i → s.getD k 0 ≠ c) : ∀ x ∈ s.take i, x ≠ c := by
  have := drop_no (s := s) (c := c) (b := 0) (i := i) hi (fun k _ hk => h k hk)
  simpa using this
theorem cut_at {c : UInt8} {s : Str} {i : Nat} (hi : i < s.length) (hc : s.getD i 0 = c) : s = s.take i ++ c :: s.drop (i + 1) := by
  have h1 := (List.take_append_drop i s).symm
  rw [drop_at (getD_some (d := 0) hi), hc] at h1
  exact h1
theorem split_first {c : UInt8} {s : Str} {i : Nat} (hi : i < s.length) (hN : ∀ k, k < i → s.getD k 0 ≠ c) (hc : s.getD i 0 = c) : splitB c s = s.take i :: splitB c (s.drop (i + 1)) := by
  have := split_cut (s := s) (c := c) (b := 0) (i := i) hi (Nat.zero_le _) (fun k _ hk => hN k hk) hc
  simpa using this
theorem splitB_count (c : UInt8) : ∀ s : Str, (splitB c s).length = s.count c + 1
  | [] => rfl
  | x :: s => by
    have ih := splitB_count c s
    unfold splitB
    by_cases h : x = c
    · subst h; rw [if_pos rfl, List.length_cons, ih, List.count_cons_self]
    · rw [if_neg h, List.length_cons, List.length_tail, ih, List.count_cons_of_ne h]; omega
theorem cutB_no {c : UInt8} : ∀ {s : Str}, (∀ x ∈ s, x ≠ c) → cutB c s = (s, [])
  | [], _ => rfl
  | x :: s, h => by
    rw [cutB, if_neg (h x (List.mem_cons_self ..)), cutB_no fun y hy => h y (List.mem_cons_of_mem _ hy)]
theorem cutB_app {c : UInt8} : ∀ {a : Str} (r : Str), (∀ x ∈ a, x ≠ c) → cutB c (a ++ c :: r) = (a, r)
  | [], r, _ => by simp [cutB]
  | x :: a, r, h => by
    rw [List.cons_append, cutB, if_neg (h x (List.mem_cons_self ..)), cutB_app r fun y hy => h y (List.mem_cons_of_mem _ hy)]
theorem cutB_first {c : UInt8} {s : Str} {i : Nat} (hi : i < s.length) (hN : ∀ k, k < i → s.getD k 0 ≠ c) (hc : s.getD i 0 = c) : cutB c s = (s.take i, s.drop (i + 1)) := by
  have h := cutB_app (c := c) (a := s.take i) (s.drop (i + 1)) (front_no (by omega) hN)
  rw [← cut_at hi hc] at h
  exact h
theorem linesG_no : ∀ {s : Str} (b : Str), (∀ x ∈ s, x ≠ 10) → linesG b s = []
  | [], _, _ => rfl
  | x :: s, b, h => by
    rw [linesG, if_neg (h x (List.mem_cons_self ..)), linesG_no _ fun y hy => h y (List.mem_cons_of_mem _ hy)]
theorem linesG_app : ∀ {a : Str} (b r : Str), (∀ x ∈ a, x ≠ 10) → linesG b (a ++ 10 :: r) = (b ++ a ++ [10]) :: linesG [] r
  | [], b, r, _ => by simp [linesG]
  | x :: a, b, r, h => by
    rw [List.cons_append, linesG, if_neg (h x (List.mem_cons_self ..)), linesG_app _ r fun y hy => h y (List.mem_cons_of_mem _ hy)]
    simp
theorem lines_no {s : Str} (h : ∀ x ∈ s, x ≠ 10) : linesOf s = [] := linesG_no [] h
theorem lines_first {s : Str} {i : Nat} (hi : i < s.length) (hN : ∀ k, k < i → s.getD k 0 ≠ 10) (hc : s.getD i 0 = 10) : linesOf s = s.take (i + 1) :: linesOf (s.drop (i + 1)) := by
  have h := linesG_app (a := s.take i) [] (s.drop (i + 1)) (front_no (by omega) hN)
  rw [← cut_at hi hc, List.nil_append] at h
  rw [linesOf, h, take_at (getD_some (d := 0) hi), hc]
  rfl
theorem suffix_line {s : Str} {i : Nat} (hi : i < s.length) (hc : s.getD i 0 = 10) : Lib.hasSuffix (s.take (i + 1)) [10] = true := by
  rw [take_at (getD_some (d := 0) hi), hc]
  unfold Lib.hasSuffix
  rw [List.isSuffixOf_iff_suffix]
  exact List.suffix_append _ _
theorem suffix_none {s : Str} (h : ∀ x ∈ s, x ≠ 10) : Lib.hasSuffix s [10] = false := by
  unfold Lib.hasSuffix
  rw [Bool.eq_false_iff]
  intro hs
  rw [List.isSuffixOf_iff_suffix] at hs
  exact h 10 (hs.subset (List.mem_singleton_self _)) rfl
theorem fillS (m : Nat) : (List.replicate m [str []]).flatten = (List.replicate m ([] : Str)).map str := by
  induction m with
  | zero => rfl
  | succ m ih => rw [List.replicate_succ, List.flatten_cons, ih, List.replicate_succ, List.map_cons]; rfl
theorem drop_head {α : Type} {l r : List α} {x d : α} {i : Nat} (h : l.drop i = x :: r) : l.getD i d = x ∧ l.drop (i + 1) = r ∧ i < l.length := by
  have hi : i < l.length := by
    rcases Nat.lt_or_ge i l.length with h1 | h1
    · exact h1
    · rw [List.drop_of_length_le h1] at h; cases h
  rw [drop_at (getD_some (d := d) hi)] at h
  simp only [List.cons.injEq] at h
  exact ⟨h.1, h.2, hi⟩
theorem split_last {c : UInt8} {t : Str} (h : (splitB c t).length = 1) : splitB c t = [t] := by
  cases hq : splitB c t with
  | nil => exact absurd hq (splitB_ne c t)
  | cons p r =>
    cases r with
    | nil => rw [splitB_single c t p hq]
    | cons p2 r2 => rw [hq] at h; simp at h
theorem dec_pos (n : Int) : 0 < (dec n).length := by
  have h : ∀ k, 0 < (Lib.decDigits k).length := fun k => by
    rw [Lib.decDigits]
    split <;> simp
  unfold dec Lib.itoa
  split
  · simp
  · exact h _
end Go.Proofs.YtjncpgcccgdeiaaGreatDoor

namespace Go.Proofs
open Go.Shelf
def Tryz.lays143_ren : Go.Shelf.Ren := ⟨fun | 143 => 164 | 219 => 169 | 217 => 191 | 225 => 192 | 224 => 193 | 267 => 194 | 266 => 204 | 314 => 205 | n => n, fun | 9 => 9 | 3 => 3 | 4 => 4 | 5 => 5 | 46 => 151 | 146 => 201 | 51 => 187 | n => n, fun | 1 => 0 | n => n⟩
theorem Tryz.lays143 : Go.Proofs.Lays.n143 Tryz.prog Tryz.lays143_ren := {
  mixed := by kernel_rfl
  f143 := Tryz.func164.trans (congrArg some (by kernel_rfl))
  f217 := Tryz.func191.trans (congrArg some (by kernel_rfl))
  f219 := Tryz.func169.trans (congrArg some (by kernel_rfl))
  f224 := Tryz.func193.trans (congrArg some (by kernel_rfl))
  f225 := Tryz.func192.trans (congrArg some (by kernel_rfl))
  f266 := Tryz.func204.trans (congrArg some (by kernel_rfl))
  f267 := Tryz.func194.trans (congrArg some (by kernel_rfl))
  f314 := Tryz.func205.trans (congrArg some (by kernel_rfl))
  t3 := Tryz.underlying3
  a3 := Tryz.isAgg3
  z3 := Tryz.sizeOf3
  v3 := Tryz.zeroValue3
  t4 := Tryz.underlying4
  a4 := Tryz.isAgg4
  z4 := Tryz.sizeOf4
  v4 := Tryz.zeroValue4
  t5 := Tryz.underlying5
  a5 := Tryz.isAgg5
  z5 := Tryz.sizeOf5
  v5 := Tryz.zeroValue5
  t9 := Tryz.underlying9
  a9 := Tryz.isAgg9
  z9 := Tryz.sizeOf9
  v9 := Tryz.zeroValue9
  t46 := Tryz.underlying151
  a46 := Tryz.isAgg151
  z46 := Tryz.sizeOf151
  v46 := Tryz.zeroValue151
  t51 := Tryz.underlying187
  a51 := Tryz.isAgg187
  z51 := Tryz.sizeOf187
  v51 := Tryz.zeroValue187
  t146 := Tryz.underlying201
  a146 := Tryz.isAgg201
  z146 := Tryz.sizeOf201
  v146 := Tryz.zeroValue201
  g1 := by kernel_rfl }
open Go.RowKit Go.Lib in
theorem Tryz.strings_Index_one (s : ByteArray) (c : UInt8) (w : World) :
    Calls Tryz.prog 164 #[.string s, .string ⟨#[c]⟩] w fun e w' => e = .returned (.int .i64 (Lib.indexByte s.data.toList c)) ∧ w' = w := Any.strings_Index_one Tryz.lays143 s c w
def Tryz.lays138_ren : Go.Shelf.Ren := ⟨fun | 138 => 166 | 195 => 184 | 218 => 185 | 143 => 164 | 219 => 169 | 217 => 191 | 225 => 192 | 224 => 193 | 267 => 194 | 266 => 204 | 314 => 205 | n => n, fun | 9 => 9 | 3 => 3 | 4 => 4 | 5 => 5 | 0 => 0 | 46 => 151 | 146 => 201 | 51 => 187 | n => n, fun | 1 => 0 | n => n⟩
theorem Tryz.lays138 : Go.Proofs.Lays.n138 Tryz.prog Tryz.lays138_ren := {
  mixed := by kernel_rfl
  f138 := Tryz.func166.trans (congrArg some (by kernel_rfl))
  f143 := Tryz.func164.trans (congrArg some (by kernel_rfl))
  f195 := Tryz.func184.trans (congrArg some (by kernel_rfl))
  f217 := Tryz.func191.trans (congrArg some (by kernel_rfl))
  f218 := Tryz.func185.trans (congrArg some (by kernel_rfl))
  f219 := Tryz.func169.trans (congrArg some (by kernel_rfl))
  f224 := Tryz.func193.trans (congrArg some (by kernel_rfl))
  f225 := Tryz.func192.trans (congrArg some (by kernel_rfl))
  f266 := Tryz.func204.trans (congrArg some (by kernel_rfl))
  f267 := Tryz.func194.trans (congrArg some (by kernel_rfl))
  f314 := Tryz.func205.trans (congrArg some (by kernel_rfl))
  t0 := Tryz.underlying0
  a0 := Tryz.isAgg0
  z0 := Tryz.sizeOf0
  v0 := Tryz.zeroValue0
  t3 := Tryz.underlying3
  a3 := Tryz.isAgg3
  z3 := Tryz.sizeOf3
  v3 := Tryz.zeroValue3
  t4 := Tryz.underlying4
  a4 := Tryz.isAgg4
  z4 := Tryz.sizeOf4
  v4 := Tryz.zeroValue4
  t5 := Tryz.underlying5
  a5 := Tryz.isAgg5
  z5 := Tryz.sizeOf5
  v5 := Tryz.zeroValue5
  t9 := Tryz.underlying9
  a9 := Tryz.isAgg9
  z9 := Tryz.sizeOf9
  v9 := Tryz.zeroValue9
  t46 := Tryz.underlying151
  a46 := Tryz.isAgg151
  z46 := Tryz.sizeOf151
  v46 := Tryz.zeroValue151
  t51 := Tryz.underlying187
  a51 := Tryz.isAgg187
  z51 := Tryz.sizeOf187
  v51 := Tryz.zeroValue187
  t146 := Tryz.underlying201
  a146 := Tryz.isAgg201
  z146 := Tryz.sizeOf201
  v146 := Tryz.zeroValue201
  g1 := by kernel_rfl }
open Go.RowKit Go.Lib in
theorem Tryz.strings_Count_one (s : ByteArray) (c : UInt8) (w : World) :
    Calls Tryz.prog 166 #[.string s, .string ⟨#[c]⟩] w fun e w' => e = .returned (.int .i64 (Lib.countByte s.data.toList c)) ∧ w' = w := Any.strings_Count_one Tryz.lays138 s c w
def Tryz.lays100_ren : Go.Shelf.Ren := ⟨fun | 100 => 111 | 207 => 143 | n => n, fun | 9 => 9 | 4 => 4 | 3 => 3 | n => n, fun | n => n⟩
theorem Tryz.lays100 : Go.Proofs.Lays.n100 Tryz.prog Tryz.lays100_ren := {
  mixed := by kernel_rfl
  f100 := Tryz.func111.trans (congrArg some (by kernel_rfl))
  f207 := Tryz.func143.trans (congrArg some (by kernel_rfl))
  t3 := Tryz.underlying3
  a3 := Tryz.isAgg3
  z3 := Tryz.sizeOf3
  v3 := Tryz.zeroValue3
  t4 := Tryz.underlying4
  a4 := Tryz.isAgg4
  z4 := Tryz.sizeOf4
  v4 := Tryz.zeroValue4
  t9 := Tryz.underlying9
  a9 := Tryz.isAgg9
  z9 := Tryz.sizeOf9
  v9 := Tryz.zeroValue9 }
open Go.RowKit Go.Lib in
theorem Tryz.strings_HasSuffix (s p : ByteArray) (w : World) (hs : s.size ≤ 9223372036854775807) :
    Calls Tryz.prog 111 #[.string s, .string p] w fun e w' => e = .returned (.bool (Lib.hasSuffix s.data.toList p.data.toList)) ∧ w' = w := Any.strings_HasSuffix Tryz.lays100 s p w hs
def Tryz.lays219_ren : Go.Shelf.Ren := ⟨fun | 219 => 169 | 217 => 191 | 225 => 192 | 224 => 193 | 267 => 194 | 266 => 204 | 314 => 205 | n => n, fun | 9 => 9 | 3 => 3 | 4 => 4 | 5 => 5 | 46 => 151 | 146 => 201 | 51 => 187 | n => n, fun | 1 => 0 | n => n⟩
theorem Tryz.lays219 : Go.Proofs.Lays.n219 Tryz.prog Tryz.lays219_ren := {
  mixed := by kernel_rfl
  f217 := Tryz.func191.trans (congrArg some (by kernel_rfl))
  f219 := Tryz.func169.trans (congrArg some (by kernel_rfl))
  f224 := Tryz.func193.trans (congrArg some (by kernel_rfl))
  f225 := Tryz.func192.trans (congrArg some (by kernel_rfl))
  f266 := Tryz.func204.trans (congrArg some (by kernel_rfl))
  f267 := Tryz.func194.trans (congrArg some (by kernel_rfl))
  f314 := Tryz.func205.trans (congrArg some (by kernel_rfl))
  t3 := Tryz.underlying3
  a3 := Tryz.isAgg3
  z3 := Tryz.sizeOf3
  v3 := Tryz.zeroValue3
  t4 := Tryz.underlying4
  a4 := Tryz.isAgg4
  z4 := Tryz.sizeOf4
  v4 := Tryz.zeroValue4
  t5 := Tryz.underlying5
  a5 := Tryz.isAgg5
  z5 := Tryz.sizeOf5
  v5 := Tryz.zeroValue5
  t9 := Tryz.underlying9
  a9 := Tryz.isAgg9
  z9 := Tryz.sizeOf9
  v9 := Tryz.zeroValue9
  t46 := Tryz.underlying151
  a46 := Tryz.isAgg151
  z46 := Tryz.sizeOf151
  v46 := Tryz.zeroValue151
  t51 := Tryz.underlying187
  a51 := Tryz.isAgg187
  z51 := Tryz.sizeOf187
  v51 := Tryz.zeroValue187
  t146 := Tryz.underlying201
  a146 := Tryz.isAgg201
  z146 := Tryz.sizeOf201
  v146 := Tryz.zeroValue201
  g1 := by kernel_rfl }
open Go.RowKit Go.Lib in
theorem Tryz.stringslite_Index_one (s : ByteArray) (c : UInt8) (w : World) :
    Calls Tryz.prog 169 #[.string s, .string ⟨#[c]⟩] w fun e w' => e = .returned (.int .i64 (Lib.indexByte s.data.toList c)) ∧ w' = w := Any.stringslite_Index_one Tryz.lays219 s c w
end Go.Proofs

set_option linter.unusedSimpArgs false
set_option linter.unusedVariables false
set_option linter.unnecessarySimpa false
namespace Go.Proofs.YtjncpgcccgdeiaaGreatDoor
open Go Go.RowKit

theorem C_ix (s : Str) (c : UInt8) : Ct Tryz.prog 164 [str s, str [c]] [] (fun _ => True) (fun v A' => A' = [] ∧ ((v = .int .i64 (-1) ∧ ∀ x ∈ s, x ≠ c) ∨ ∃ i : Nat, v = .int .i64 ((i : Nat) : Int) ∧ i < s.length ∧ (∀ k, k < i → s.getD k 0 ≠ c) ∧ s.getD i 0 = c)) := fun w hA _ => by
  refine (Tryz.strings_Index_one ⟨s.toArray⟩ c w).mono fun e w' h => ?_
  obtain ⟨rfl, rfl⟩ := h
  refine ⟨_, [], rfl, ⟨rfl, ?_⟩, hA.below (Below.refl _ _)⟩
  rw [List.toList_toArray]
  rcases ix_cases c s with ⟨h1, h2⟩ | ⟨i, h1, h2⟩
  · exact .inl ⟨by rw [h1], h2⟩
  · exact .inr ⟨i, by rw [h1], h2⟩

theorem C_lix (s : Str) (c : UInt8) : Ct Tryz.prog 169 [str s, str [c]] [] (fun _ => True) (fun v A' => A' = [] ∧ ((v = .int .i64 (-1) ∧ ∀ x ∈ s, x ≠ c) ∨ ∃ i : Nat, v = .int .i64 ((i : Nat) : Int) ∧ i < s.length ∧ (∀ k, k < i → s.getD k 0 ≠ c) ∧ s.getD i 0 = c)) := fun w hA _ => by
  refine (Tryz.stringslite_Index_one ⟨s.toArray⟩ c w).mono fun e w' h => ?_
  obtain ⟨rfl, rfl⟩ := h
  refine ⟨_, [], rfl, ⟨rfl, ?_⟩, hA.below (Below.refl _ _)⟩
  rw [List.toList_toArray]
  rcases ix_cases c s with ⟨h1, h2⟩ | ⟨i, h1, h2⟩
  · exact .inl ⟨by rw [h1], h2⟩
  · exact .inr ⟨i, by rw [h1], h2⟩

theorem C_cnt (s : Str) (c : UInt8) : Ct Tryz.prog 166 [str s, str [c]] [] (fun _ => True) (fun v A' => v = .int .i64 ((s.count c : Nat) : Int) ∧ A' = []) := fun w hA _ => by
  refine (Tryz.strings_Count_one ⟨s.toArray⟩ c w).mono fun e w' h => ?_
  obtain ⟨rfl, rfl⟩ := h
  exact ⟨_, [], rfl, ⟨by rw [List.toList_toArray]; rfl, rfl⟩, hA.below (Below.refl _ _)⟩
theorem C_sfx (s p : Str) (hs : s.length ≤ 9223372036854775807) : Ct Tryz.prog 111 [str s, str p] [] (fun _ => True) (fun v A' => v = .bool (Lib.hasSuffix s p) ∧ A' = []) := fun w hA _ => by
  refine (Tryz.strings_HasSuffix ⟨s.toArray⟩ ⟨p.toArray⟩ w (by simpa [ByteArray.size] using hs)).mono fun e w' h => ?_
  obtain ⟨rfl, rfl⟩ := h
  exact ⟨_, [], rfl, ⟨by rw [List.toList_toArray, List.toList_toArray], rfl⟩, hA.below (Below.refl _ _)⟩

theorem JO.makeSliceS {P : Program} {n : Nat} {w0 : World} {D : List Nat} {L : List Res} {e : Env} {d : Option Tmp} {ty : TypeId} {pos : String} {aft : Array Edge} {gd : Option (Nat × Bool)} {m : Nat} {t el : TypeId} {x : Operand} {ti : TypeInfo}
    (ht : P.underlying t = some (.slice el)) (hti : ∀ w, (typeInfo el).run P w = .ok ti w) (hk : ti.size = 1) (hz : ti.zero = some (str [])) (hx : rd n e x = .int .i64 m) (hm : m ≤ maxLen) (hb : ti.bytes * m ≤ 281474976710656) :
    JO P n w0 D L e ⟨d, .makeSlice t x x, ty, pos, aft, gd⟩ (fun v L' => ∃ a, v = .slice a m m ∧ L' = Res.row (.slice a m m) el 1 m ((List.replicate m ([] : Str)).map str) :: L) := by
  rw [← fillS]
  exact JO.makeSlice ht hti hk hz rfl rfl hx hm hb

attribute [local irreducible] JL JC JQ JO LO PO JA JX Ct

theorem fill_done2 {α : Type} {l : List α} {d : α} {m k : Nat} (h : l.length ≤ m ∧ k - m = 0) : l.take m ++ List.replicate (k - m) d = l := by
  rw [h.2, List.take_of_length_le h.1]; simp

set_option maxRecDepth 4000 in
set_option maxHeartbeats 1000000 in
theorem Y_gsplit (s : Str) (c : UInt8) (hs : s.length ≤ 100000000) :
    Ct Tryz.prog 144 [str s, str [c], .int .i64 ((0 : Nat) : Int), .int .i64 (-1)] [] (fun _ => True) (fun v A' => ∃ a q, v = .slice a (splitB c s).length q ∧ A' = [.row (.slice a (splitB c s).length q) 9 1 (splitB c s).length ((splitB c s).map str)]) := by
  refine Ct.intro Tryz.func144 rfl Tryz.ntmps144 (lb rfl) fun w0 hpre => ?_
  refine jC <| jF <| jA (jG (v := .slice none 0 0) rfl) <| jE <| jB <| jC <| jC <| jF <| jA (jD (v := iv (-1)) rfl) <| jA (kO rfl rfl) ?_
  refine jE <| jB ?_
  have h_1 : ¬ ((-1) = 0) := (by decide)
  refine jR (cB (dF h_1)) <| jT <| jB <| jC <| jC <| jF <| jA (jD (v := str [c]) rfl) <| jA (PO.eqlS rfl rfl) <| jE <| jB ?_
  have h_2 : ¬ ([c] = []) := (List.cons_ne_nil _ _)
  refine jR (cB (dF h_2)) <| jT <| jB <| jC <| jC <| jF <| jA (jD (v := iv (-1)) rfl) <| jA (jl rfl rfl) <| jE <| jB ?_
  have h_3 : (-1) < 0 := (by decide)
  refine jW (cB (dT h_3)) <| jF <| jA (jD (v := str s) rfl) <| jA (jD (v := str [c]) rfl) ?_
  refine jH rfl (jI [] Tryz.call166 rfl (C_cnt s c) rfl (fun _ _ => trivial)) ?_
  rintro _ _ ⟨_, ⟨rfl, rfl⟩, rfl⟩
  have hcl_4 := List.count_le_length (a := c) (l := s)
  refine jA (jc (c := (((s.count c) + 1 : Nat) : Int)) rfl rfl (wr (by omega))) <| jA (jG (v := iv (((s.count c) + 1 : Nat) : Int)) rfl) <| jE <| jB <| jC <| jF <| jA (jD (v := iv (((s.count c) + 1 : Nat) : Int)) rfl) <| jA (jD (v := str s) rfl) <| jA (kF kg rfl) <| jA (jc (c := ((s.length + 1 : Nat) : Int)) rfl rfl (wr (by omega))) ?_
  refine jA (PO.min2D (c := ((s.count c + 1 : Nat) : Int)) rfl rfl (by omega)) <| jA (jG (v := iv ((s.count c + 1 : Nat) : Int)) rfl) <| jE <| jB <| jC <| jF <| jA (jD (v := iv ((s.count c + 1 : Nat) : Int)) rfl) ?_
  refine jH rfl (JO.makeSliceS (m := s.count c + 1) ku Tryz.typeInfo9 rfl rfl rfl (by unfold maxLen; omega) (by show 16 * _ ≤ _; omega)) ?_
  rintro _ _ ⟨a_5, rfl, rfl⟩
  refine jA (jG (v := .slice a_5 (s.count c + 1) (s.count c + 1)) rfl) <| jE <| jB <| jC <| jF <| jA (jD (v := iv ((s.count c + 1 : Nat) : Int)) rfl) <| jA (kZ (c := (((s.count c + 1) - 1 : Nat) : Int)) rfl rfl (wr (by omega))) <| jA (jG (v := iv (((s.count c + 1) - 1 : Nat) : Int)) rfl) <| jE <| jB ?_
  refine jC <| jF <| jA (jG (v := iv 0) rfl) <| jE <| jB <| jC <| jf <| kD (fun k_ e_ L_ => ∃ i : Nat, ∃ s_ : Str, (i ≤ s.count c) ∧ (s_.length ≤ s.length) ∧ ((splitB c s).drop i = splitB c s_) ∧ e_ 0 = str s_ ∧ e_ 1 = str [c] ∧ e_ 2 = nv 0 ∧ e_ 3 = iv (((s.count c + 1) - 1 : Nat) : Int) ∧ e_ 8 = .slice none 0 0 ∧ e_ 9 = .slice a_5 (s.count c + 1) (s.count c + 1) ∧ e_ 10 = nv i ∧ L_ = [Res.row (.slice a_5 (s.count c + 1) (s.count c + 1)) 9 1 (s.count c + 1) ((List.take i (splitB c s) ++ List.replicate (s.count c + 1 - i) []).map str)] ∧ k_ = (s.count c) - i) _ ⟨0, s, by omega, by omega, rfl, rfl, rfl, rfl, rfl, rfl, rfl, rfl, (by simp only [List.take_zero, List.nil_append]; rfl), rfl⟩ ?_
  rintro _ e_6 _ ⟨i, s_, hi, hl_, hD, he_7, he_8, he_9, he_10, he_11, he_12, he_13, rfl, rfl⟩
  refine jC <| jC <| jF <| jA (jD (v := nv i) he_13) <| jA (jD (v := iv (((s.count c + 1) - 1 : Nat) : Int)) he_10) <| jA (jl rfl rfl) <| jE <| jB ?_
  by_cases h_14 : ((i : Nat) : Int) < (((s.count c + 1) - 1 : Nat) : Int)
  · refine jW (cB (dT h_14)) <| jT <| jB <| jf <| jC <| jF <| jA (jD (v := str s_) he_7) <| jA (jD (v := str [c]) he_8) ?_
    refine jH rfl (jI [] Tryz.call164 rfl (C_ix s_ c) rfl (fun _ _ => trivial)) ?_
    rintro _ _ ⟨_, ⟨rfl, (⟨rfl, hn_19⟩ | ⟨i_15, rfl, hi_16, hf_17, hc_18⟩)⟩, rfl⟩
    · refine jA (jG (v := iv (-1)) rfl) <| jE <| jB <| jC <| jC <| jF <| jA (jD (v := iv (-1)) rfl) <| jA (jl rfl rfl) <| jE <| jB ?_
      refine jW (cB (dT h_3)) <| jx <| jb <| JQ.blockO rfl <| jb <| jy <| jB <| jC <| jF <| jA (jD (v := .slice a_5 (s.count c + 1) (s.count c + 1)) he_12) ?_
      refine jA (jD (v := nv i) he_13) <| jA (jD (v := str s_) he_7) ?_
      refine kN fun hst => ?_
      obtain ⟨hr_20, hr_20b, -⟩ := row_some 0 rfl (by omega) hst
      refine jA (jk (i := i) ku kt hr_20 hr_20b rfl rfl (by omega)) ?_
      refine jH rfl (JO.storeR 0 (vs := [str s_]) (cs' := ((List.take i (splitB c s) ++ List.replicate (s.count c + 1 - i) []).set i (s_)).map str) rfl rfl rfl rfl kt rfl rfl (by decide) (by rw [List.length_map]; (have hPl_ := splitB_count c s); simp only [List.length_append, List.length_take, List.length_replicate, List.length_map]; omega) (setS (by (have hPl_ := splitB_count c s); simp only [List.length_append, List.length_take, List.length_replicate, List.length_map]; omega))) ?_
      rintro _ _ rfl
      refine jE <| jB <| jC <| jF <| jA (jD (v := .slice a_5 (s.count c + 1) (s.count c + 1)) he_12) <| jA (jD (v := nv i) he_13) <| jA (jc (c := ((i + 1 : Nat) : Int)) rfl rfl (wr (by omega))) ?_
      refine kN fun hst => ?_
      obtain ⟨hf_21m, hf_21x, hf_21s, hf_21l⟩ := fits_of hst (i := 0) rfl
      refine jA (PO.sliceVh (j := (i + 1)) ku kt hf_21s rfl rfl (by omega)) <| jA (jG (v := .slice a_5 (i + 1) (s.count c + 1)) rfl) <| jE <| jB <| jN <| jV (.inl rfl) rfl (jJ (v := .slice a_5 (i + 1) (s.count c + 1)) rfl) (List.Sublist.refl _) ?_
      have hPl := splitB_count c s
      have hP1 : (splitB c s).length - i = (splitB c s_).length := by rw [← hD, List.length_drop]
      have hi2 : i = s.count c := by first | omega | (have h_ := splitB_one c s_ (by assumption); rw [h_] at hP1; simp only [List.length_cons, List.length_nil] at hP1; omega)
      subst hi2
      have h1 : splitB c s_ = [s_] := split_last (by omega)
      obtain ⟨h2, _, h3⟩ := drop_head (d := []) (hD.trans h1)
      have h4 := fill_step (s := splitB c s) (j := s.count c) ([] : Str) h3
      rw [hPl, h2] at h4
      exact ⟨a_5, s.count c + 1, by rw [hPl], (congrArg (fun q : List Str => [Res.row (.slice a_5 (s.count c + 1) (s.count c + 1)) 9 1 (s.count c + 1) (q.map str)]) (h4.trans (fill_done2 (by omega)))).trans (by rw [hPl])⟩
    refine jA (jG (v := nv i_15) rfl) <| jE <| jB <| jC <| jC <| jF <| jA (jD (v := nv i_15) rfl) <| jA (jl rfl rfl) <| jE <| jB ?_
    have h_22 : ¬ (((i_15 : Nat) : Int) < 0) := (by omega)
    refine jR (cB (dF h_22)) <| jT <| jB <| jC <| jF <| jA (jD (v := .slice a_5 (s.count c + 1) (s.count c + 1)) he_12) <| jA (jD (v := nv i) he_13) <| jA (jD (v := str s_) he_7) <| jA (jD (v := nv i_15) rfl) <| jA (jD (v := nv 0) he_9) ?_
    refine jA (jc (c := ((i_15 + 0 : Nat) : Int)) rfl rfl (wr (by omega))) <| jA (PO.sliceSh (j := (i_15 + 0)) kg rfl rfl (by omega)) ?_
    refine kN fun hst => ?_
    obtain ⟨hr_23, hr_23b, -⟩ := row_some 0 rfl (by omega) hst
    refine jA (jk (i := i) ku kt hr_23 hr_23b rfl rfl (by omega)) ?_
    refine jH rfl (JO.storeR 0 (vs := [str (s_.take (i_15 + 0))]) (cs' := ((List.take i (splitB c s) ++ List.replicate (s.count c + 1 - i) []).set i (s_.take (i_15 + 0))).map str) rfl rfl rfl rfl kt rfl rfl (by decide) (by rw [List.length_map]; (have hPl_ := splitB_count c s); simp only [List.length_append, List.length_take, List.length_replicate, List.length_map]; omega) (setS (by (have hPl_ := splitB_count c s); simp only [List.length_append, List.length_take, List.length_replicate, List.length_map]; omega))) ?_
    rintro _ _ rfl
    refine jE <| jB <| jC <| jF <| jA (jD (v := str s_) he_7) <| jA (jD (v := nv i_15) rfl) <| jA (jD (v := str [c]) he_8) <| jA (show PO _ _ _ _ (nv 1) from kF (a := [c]) kg rfl) <| jA (jc (c := ((i_15 + 1 : Nat) : Int)) rfl rfl (wr (by omega))) <| jA (PO.sliceSl (i := (i_15 + 1)) kg rfl rfl (by omega)) ?_
    refine jA (jG (v := str (s_.drop (i_15 + 1))) rfl) <| jE <| jB <| jF <| jA (jD (v := nv i) he_13) <| jA (jc (c := ((i + 1 : Nat) : Int)) rfl rfl (wr (by omega))) <| jA (jG (v := iv ((i + 1 : Nat) : Int)) rfl) <| jE <| jm ?_
    refine jq ((s.count c) - (i + 1)) (by omega) ⟨i + 1, s_.drop (i_15 + 1), by omega, (by rw [List.length_drop]; omega), (by have h_ := drop_head (d := []) (hD.trans (split_first hi_16 hf_17 hc_18)); exact h_.2.1), rfl, he_8, he_9, he_10, he_11, he_12, rfl, (by have h_ := drop_head (d := []) (hD.trans (split_first hi_16 hf_17 hc_18)); have h2_ := fill_step (s := splitB c s) (j := i) ([] : Str) h_.2.2; rw [splitB_count, h_.1] at h2_; rw [← h2_]; rfl), rfl⟩
  refine jR (cB (dF h_14)) <| jx <| jb <| jb <| jy <| jB <| jC <| jF <| jA (jD (v := .slice a_5 (s.count c + 1) (s.count c + 1)) he_12) <| jA (jD (v := nv i) he_13) ?_
  refine jA (jD (v := str s_) he_7) ?_
  refine kN fun hst => ?_
  obtain ⟨hr_24, hr_24b, -⟩ := row_some 0 rfl (by omega) hst
  refine jA (jk (i := i) ku kt hr_24 hr_24b rfl rfl (by omega)) ?_
  refine jH rfl (JO.storeR 0 (vs := [str s_]) (cs' := ((List.take i (splitB c s) ++ List.replicate (s.count c + 1 - i) []).set i (s_)).map str) rfl rfl rfl rfl kt rfl rfl (by decide) (by rw [List.length_map]; (have hPl_ := splitB_count c s); simp only [List.length_append, List.length_take, List.length_replicate, List.length_map]; omega) (setS (by (have hPl_ := splitB_count c s); simp only [List.length_append, List.length_take, List.length_replicate, List.length_map]; omega))) ?_
  rintro _ _ rfl
  refine jE <| jB <| jC <| jF <| jA (jD (v := .slice a_5 (s.count c + 1) (s.count c + 1)) he_12) <| jA (jD (v := nv i) he_13) <| jA (jc (c := ((i + 1 : Nat) : Int)) rfl rfl (wr (by omega))) ?_
  refine kN fun hst => ?_
  obtain ⟨hf_25m, hf_25x, hf_25s, hf_25l⟩ := fits_of hst (i := 0) rfl
  refine jA (PO.sliceVh (j := (i + 1)) ku kt hf_25s rfl rfl (by omega)) <| jA (jG (v := .slice a_5 (i + 1) (s.count c + 1)) rfl) <| jE <| jB <| jN <| jV (.inl rfl) rfl (jJ (v := .slice a_5 (i + 1) (s.count c + 1)) rfl) (List.Sublist.refl _) ?_
  have hPl := splitB_count c s
  have hP1 : (splitB c s).length - i = (splitB c s_).length := by rw [← hD, List.length_drop]
  have hi2 : i = s.count c := by first | omega | (have h_ := splitB_one c s_ (by assumption); rw [h_] at hP1; simp only [List.length_cons, List.length_nil] at hP1; omega)
  subst hi2
  have h1 : splitB c s_ = [s_] := split_last (by omega)
  obtain ⟨h2, _, h3⟩ := drop_head (d := []) (hD.trans h1)
  have h4 := fill_step (s := splitB c s) (j := s.count c) ([] : Str) h3
  rw [hPl, h2] at h4
  exact ⟨a_5, s.count c + 1, by rw [hPl], (congrArg (fun q : List Str => [Res.row (.slice a_5 (s.count c + 1) (s.count c + 1)) 9 1 (s.count c + 1) (q.map str)]) (h4.trans (fill_done2 (by omega)))).trans (by rw [hPl])⟩

set_option maxRecDepth 4000 in
set_option maxHeartbeats 1000000 in
theorem Y_split (s : Str) (c : UInt8) (hs : s.length ≤ 100000000) :
    Ct Tryz.prog 112 [str s, str [c]] [] (fun _ => True) (fun v A' => ∃ a q, v = .slice a (splitB c s).length q ∧ A' = [.row (.slice a (splitB c s).length q) 9 1 (splitB c s).length ((splitB c s).map str)]) := by
  refine Ct.intro Tryz.func112 rfl Tryz.ntmps112 (lb rfl) fun w0 hpre => ?_
  refine jC <| jF <| jA (jG (v := .slice none 0 0) rfl) <| jE <| jB <| jC <| jF <| jA (jD (v := str s) rfl) <| jA (jD (v := str [c]) rfl) ?_
  refine jH rfl (jI [] Tryz.call144 rfl (Y_gsplit s c (by omega)) rfl (fun _ _ => trivial)) ?_
  rintro _ _ ⟨_, ⟨a_1, c_2, rfl, rfl⟩, rfl⟩
  have hsp_3 := splitB_len c s
  refine jA (jG (v := .slice a_1 ((splitB c s).length) c_2) rfl) <| jE <| jB <| jN <| jV (.inl rfl) rfl (jJ (v := .slice a_1 ((splitB c s).length) c_2) rfl) (List.Sublist.refl _) ?_
  exact ⟨_, _, rfl, rfl⟩

set_option maxRecDepth 4000 in
set_option maxHeartbeats 1000000 in
theorem Y_lcut (s : Str) (c : UInt8) (hs : s.length ≤ 100000000) :
    Ct Tryz.prog 146 [str s, str [c]] [] (fun _ => True) (fun v A' => ∃ b, v = .tuple #[str (cutB c s).1, str (cutB c s).2, .bool b] ∧ A' = []) := by
  refine Ct.intro Tryz.func146 rfl Tryz.ntmps146 (lb rfl) fun w0 hpre => ?_
  refine jC <| jF <| jA (jG (v := str []) rfl) <| jA (jG (v := str []) rfl) <| jA (jG (v := .bool false) rfl) <| jE <| jB <| jC <| jC <| jF ?_
  refine jA (jD (v := str s) rfl) <| jA (jD (v := str [c]) rfl) ?_
  refine jH rfl (jI [] Tryz.call169 rfl (C_lix s c) rfl (fun _ _ => trivial)) ?_
  rintro _ _ ⟨_, ⟨rfl, (⟨rfl, hn_5⟩ | ⟨i_1, rfl, hi_2, hf_3, hc_4⟩)⟩, rfl⟩
  · refine jA (jG (v := iv (-1)) rfl) <| jE <| jB <| jC <| jF <| jA (jD (v := iv (-1)) rfl) <| jA (PO.geq rfl rfl) <| jE <| jB ?_
    have h_6 : ¬ (0 ≤ (-1)) := (by decide)
    refine jR (cB (dF h_6)) <| jT <| jB <| jC <| jF <| jA (jD (v := str s) rfl) <| jA (jG (v := str s) rfl) <| jA (jG (v := str []) rfl) <| jA (jG (v := .bool false) rfl) <| jE ?_
    refine jB <| jN <| Done.three (.inl rfl) rfl (jJ (v := str s) rfl) (jJ (v := str []) rfl) (jJ (v := .bool false) rfl) (List.nil_sublist _) ?_
    exact ⟨false, by rw [cutB_no hn_5], rfl⟩
  refine jA (jG (v := nv i_1) rfl) <| jE <| jB <| jC <| jF <| jA (jD (v := nv i_1) rfl) <| jA (PO.geq rfl rfl) <| jE <| jB ?_
  have h_7 : 0 ≤ ((i_1 : Nat) : Int) := (by omega)
  refine jW (cB (dT h_7)) <| jC <| kJ [] 0 mixed (by simp) <| jL 0 rfl (jD (v := str s) rfl) <| jL 1 rfl (jD (v := nv i_1) rfl) <| jL 2 rfl (PO.sliceSh (j := i_1) kg rfl rfl (by omega)) <| jL 3 rfl (jD (v := str s) rfl) <| jL 4 rfl (jD (v := nv i_1) rfl) <| jL 5 rfl (jD (v := str [c]) rfl) <| jL 6 rfl (show PO _ _ _ _ (nv 1) from kF (a := [c]) kg rfl) ?_
  refine jL 7 rfl (jc (c := ((i_1 + 1 : Nat) : Int)) rfl rfl (wr (by omega))) <| jL 8 rfl (PO.sliceSl (i := (i_1 + 1)) kg rfl rfl (by omega)) <| jL 9 rfl (jG (v := str (s.take i_1)) rfl) <| jL 10 rfl (jG (v := str (s.drop (i_1 + 1))) rfl) <| jL 11 rfl (jG (v := .bool true) rfl) <| kI (by kernel_rfl) <| jB <| jN <| jX <| Done.three (.inl rfl) rfl (jJ (v := str (s.take i_1)) rfl) (jJ (v := str (s.drop (i_1 + 1))) rfl) (jJ (v := .bool true) rfl) (List.nil_sublist _) ?_
  exact ⟨true, by rw [cutB_first hi_2 hf_3 hc_4], rfl⟩

set_option maxRecDepth 4000 in
set_option maxHeartbeats 1000000 in
theorem Y_cut (s : Str) (c : UInt8) (hs : s.length ≤ 100000000) :
    Ct Tryz.prog 114 [str s, str [c]] [] (fun _ => True) (fun v A' => ∃ b, v = .tuple #[str (cutB c s).1, str (cutB c s).2, .bool b] ∧ A' = []) := by
  refine Ct.intro Tryz.func114 rfl Tryz.ntmps114 (lb rfl) fun w0 hpre => ?_
  refine jC <| jF <| jA (jG (v := str []) rfl) <| jA (jG (v := str []) rfl) <| jA (jG (v := .bool false) rfl) <| jE <| jB <| jC <| jF <| jA (jD (v := str s) rfl) ?_
  refine jA (jD (v := str [c]) rfl) ?_
  refine jH rfl (jI [] Tryz.call146 rfl (Y_lcut s c (by omega)) rfl (fun _ _ => trivial)) ?_
  rintro _ _ ⟨_, ⟨b_1, rfl, rfl⟩, rfl⟩
  refine jA (je (v := str ((cutB c s).1)) rfl rfl) <| jA (je (v := str ((cutB c s).2)) rfl rfl) <| jA (je (v := .bool b_1) rfl rfl) <| jA (jG (v := str ((cutB c s).1)) rfl) <| jA (jG (v := str ((cutB c s).2)) rfl) <| jA (jG (v := .bool b_1) rfl) <| jE <| jB <| jN <| Done.three (.inl rfl) rfl (jJ (v := str ((cutB c s).1)) rfl) (jJ (v := str ((cutB c s).2)) rfl) (jJ (v := .bool b_1) rfl) (List.nil_sublist _) ?_
  exact ⟨_, rfl, rfl⟩

end Go.Proofs.YtjncpgcccgdeiaaGreatDoor
