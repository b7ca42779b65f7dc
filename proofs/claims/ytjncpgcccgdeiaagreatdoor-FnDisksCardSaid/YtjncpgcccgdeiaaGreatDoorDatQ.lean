/-
  Texts of the walk, joined: what each one proves stands at its theorems.
-/
import Derived.Test.YtjncpgcccgdeiaaGreatDoorS46OK
import Derived.Test.YtjncpgcccgdeiaaGreatDoorSlStr
import Derived.Lib.Builder
import Derived.Laws.Externs
import Derived.Lib.UnsafeStr
import Derived.Lib.Bytealg
import Derived.Lib.Strings
import Derived.Shelf.Small.Wraps
import Derived.Shelf.Strings.Prefix
import Derived.Shelf.Strings.Search2
import Derived.Shelf.Strings.Search3
import Derived.Shelf.Strings.Count
import Derived.Test.YtjncpgcccgdeiaaGreatDoorProg
import Derived.Test.YtjncpgcccgdeiaaGreatDoorOpenZ
import Derived.RangeFuncRecord
import Derived.TacticsIn
set_option linter.unusedSimpArgs false
set_option linter.unusedVariables false
set_option linter.unnecessarySimpa false
namespace Go.Proofs.YtjncpgcccgdeiaaGreatDoor
open Go Go.RowKit
attribute [local irreducible] JL JC JQ JO LO PO JA JX Ct

theorem Y_implSum (s : Str) (hs : s.length ≤ 9223372036854775807) :
    Ct Tryz.prog 82 [str s] [] (fun _ => True) (fun v A' => v = .int .i64 ((byteSum s : Nat) : Int) ∧ A' = []) := by
  refine Ct.intro Tryz.func82 rfl Tryz.ntmps82 (lb rfl) fun w0 hpre => ?_
  refine jC <| jF <| jA (jG (v := iv 0) rfl) <| jE <| jB <| jC <| jF <| jA (jG (v := iv 7) rfl) <| jE <| jB ?_
  refine jC <| jC <| jF <| jA (jD (v := str s) rfl) <| jA (kF kg rfl) <| jA (jD (v := iv 0) rfl) <| jE <| jB <| jf <| kD (fun k_ e_ L_ => ∃ j : Nat, ∃ q : Nat, (j ≤ s.length) ∧ (q ≤ 9972) ∧ (sumF q (s.drop j) = byteSum s) ∧ e_ 0 = str s ∧ e_ 2 = iv 0 ∧ e_ 3 = nv q ∧ e_ 6 = iv (s.length : Int) ∧ e_ 7 = nv j ∧ L_ = [] ∧ k_ = s.length - j) _ ⟨0, 7, by omega, by omega, rfl, rfl, rfl, rfl, rfl, rfl, rfl, rfl⟩ ?_
  rintro _ e_1 _ ⟨j, q, hj, hq, hR, he_2, he_3, he_4, he_5, he_6, rfl, rfl⟩
  refine jC <| jF <| jA (jl he_6 he_5) <| jE <| jB <| jC ?_
  by_cases h_7 : ((j : Nat) : Int) < (s.length : Int)
  · have hlt : j < s.length := by omega
    have hu8 := UInt8.toNat_lt (s.getD j 0)
    refine jW (cB (dT h_7)) <| jT <| jB <| jC <| jf <| jC <| jF <| jA (jD (v := nv j) he_6) <| jA (jG (v := nv j) rfl) <| jE ?_
    refine jB <| jF <| jA (jD (v := nv q) he_4) <| jA (PO.mul (c := ((31 * q : Nat) : Int)) rfl rfl (wr (by omega))) <| jA (jD (v := str s) he_2) <| jA (jD (v := nv j) rfl) <| jA (PO.indexS (i := j) (c := s.getD j 0) kg rfl rfl (getD_some (by omega))) ?_
    have hu_8 := UInt8.toNat_lt (s.getD j 0)
    refine jA (PO.convI (c := ((s.getD j 0).toNat : Int)) kv gC rfl (wr (by omega))) <| jA (jc (c := (((31 * q) + ((s.getD j 0).toNat) : Nat) : Int)) rfl rfl (wr (by omega))) <| jA (PO.remN (c := ((((31 * q) + ((s.getD j 0).toNat)) % 9973 : Nat) : Int)) rfl rfl (by omega) (by omega) (by omega)) <| jA (jG (v := iv ((((31 * q) + ((s.getD j 0).toNat)) % 9973 : Nat) : Int)) rfl) <| jE <| jm <| jB <| jF <| jA (jc (c := ((j + 1 : Nat) : Int)) he_6 rfl (wr (by omega))) <| jA (jD (v := iv ((j + 1 : Nat) : Int)) rfl) ?_
    refine jE ?_
    refine jq (s.length - (j + 1)) (by omega) ⟨j + 1, ((31 * q) + ((s.getD j 0).toNat)) % 9973, by omega, by omega, (by rw [sumF_step hlt] at hR; exact hR), he_2, he_3, rfl, he_5, rfl, rfl, rfl⟩
  refine jR (cB (dF h_7)) <| jx <| jb <| jb <| jy <| jB <| jC <| jF <| jA (jD (v := nv q) he_4) <| jA (jG (v := nv q) rfl) ?_
  refine jE <| jB <| jN <| jV (.inl rfl) rfl (jJ (v := nv q) rfl) (List.nil_sublist _) ?_
  refine ⟨congrArg (fun q : Nat => Value.int .i64 ((q : Nat) : Int)) ?_, rfl⟩
  rw [List.drop_of_length_le (by omega)] at hR
  exact hR

theorem Y_specSum (s : Str) (hs : s.length ≤ 9223372036854775807) :
    Ct Tryz.prog 94 [str s] [] (fun _ => True) (fun v A' => v = .int .i64 ((byteSum s : Nat) : Int) ∧ A' = []) := by
  refine Ct.intro Tryz.func94 rfl Tryz.ntmps94 (lb rfl) fun w0 hpre => ?_
  refine jC <| jF <| jA (jG (v := iv 0) rfl) <| jE <| jB <| jC <| jF <| jA (jG (v := iv 7) rfl) <| jE <| jB ?_
  refine jC <| jC <| jF <| jA (jG (v := iv 0) rfl) <| jE <| jB <| jf <| kD (fun k_ e_ L_ => ∃ j : Nat, ∃ q : Nat, (j ≤ s.length) ∧ (q ≤ 9972) ∧ (sumF q (s.drop j) = byteSum s) ∧ e_ 0 = str s ∧ e_ 2 = iv 0 ∧ e_ 3 = nv q ∧ e_ 4 = nv j ∧ L_ = [] ∧ k_ = s.length - j) _ ⟨0, 7, by omega, by omega, rfl, rfl, rfl, rfl, rfl, rfl, rfl⟩ ?_
  rintro _ e_1 _ ⟨j, q, hj, hq, hR, he_2, he_3, he_4, he_5, rfl, rfl⟩
  refine jC <| jC <| jF <| jA (jD (v := nv j) he_5) <| jA (jD (v := str s) he_2) <| jA (kF kg rfl) <| jA (jl rfl rfl) <| jE <| jB ?_
  by_cases h_6 : ((j : Nat) : Int) < (s.length : Int)
  · have hlt : j < s.length := by omega
    have hu8 := UInt8.toNat_lt (s.getD j 0)
    refine jW (cB (dT h_6)) <| jT <| jB <| jC <| jf <| jF <| jA (jD (v := nv q) he_4) <| jA (PO.mul (c := ((31 * q : Nat) : Int)) rfl rfl (wr (by omega))) <| jA (jD (v := str s) he_2) <| jA (jD (v := nv j) he_5) ?_
    refine jA (PO.indexS (i := j) (c := s.getD j 0) kg rfl rfl (getD_some (by omega))) ?_
    have hu_7 := UInt8.toNat_lt (s.getD j 0)
    refine jA (PO.convI (c := ((s.getD j 0).toNat : Int)) kv gC rfl (wr (by omega))) <| jA (jc (c := (((31 * q) + ((s.getD j 0).toNat) : Nat) : Int)) rfl rfl (wr (by omega))) <| jA (PO.remN (c := ((((31 * q) + ((s.getD j 0).toNat)) % 9973 : Nat) : Int)) rfl rfl (by omega) (by omega) (by omega)) <| jA (jG (v := iv ((((31 * q) + ((s.getD j 0).toNat)) % 9973 : Nat) : Int)) rfl) <| jE <| jm <| jB <| jF <| jA (jD (v := nv j) he_5) <| jA (jc (c := ((j + 1 : Nat) : Int)) rfl rfl (wr (by omega))) ?_
    refine jA (jG (v := iv ((j + 1 : Nat) : Int)) rfl) <| jE ?_
    refine jq (s.length - (j + 1)) (by omega) ⟨j + 1, ((31 * q) + ((s.getD j 0).toNat)) % 9973, by omega, by omega, (by rw [sumF_step hlt] at hR; exact hR), he_2, he_3, rfl, rfl, rfl, rfl⟩
  refine jR (cB (dF h_6)) <| jx <| jb <| jb <| jy <| jB <| jC <| jF <| jA (jD (v := nv q) he_4) <| jA (jG (v := nv q) rfl) ?_
  refine jE <| jB <| jN <| jV (.inl rfl) rfl (jJ (v := nv q) rfl) (List.nil_sublist _) ?_
  refine ⟨congrArg (fun q : Nat => Value.int .i64 ((q : Nat) : Int)) ?_, rfl⟩
  rw [List.drop_of_length_le (by omega)] at hR
  exact hR

theorem Y_sHex (s : Str) (hs : s.length ≤ 20000) : Ct Tryz.prog 93 [str s] [] (fun _ => True) (fun v A' => v = .tuple #[str (hexB s), .bool true] ∧ A' = []) :=
  (N_sHex s (by omega)).weak (fun _ h => h) fun v A' ⟨u, b, e, _, hv, hA⟩ => by
    rw [hexP_no (by omega)] at e
    simp only [Prod.mk.injEq] at e
    obtain ⟨rfl, rfl⟩ := e
    exact ⟨hv, hA⟩

set_option maxRecDepth 4000 in
set_option maxHeartbeats 1000000 in
theorem Y_sRec (seq : Int) (a : Option Addr) (c : Nat) (l : List Cell) (hl : okC l) :
    Ct Tryz.prog 41 [.int .i64 seq, .slice a l.length c] [] (fun w => Sees w (.slice a l.length c) 2 l.length (l.flatMap encC)) (fun v A' => v = str (recText seq l) ∧ A' = []) := by
  refine Ct.intro Tryz.func41 rfl Tryz.ntmps41 (lb rfl) fun w0 hpre => ?_
  have hs_a : Sees w0 _ _ _ _ := hpre
  have hll := hl.1
  refine jC <| jF <| jA (jG (v := str []) rfl) <| jE <| jB <| jC <| jC <| jF <| jA (jD (v := iv seq) rfl) ?_
  refine jH rfl (jI [] Tryz.call89 rfl (Y_l01In seq 1 100000) rfl (fun _ _ => trivial)) ?_
  rintro _ _ ⟨_, ⟨rfl, rfl⟩, rfl⟩
  refine jA (jp rfl) <| jE <| jB ?_
  rcases Bool.eq_false_or_eq_true (within 1 seq 100000) with h_1 | h_1
  · refine jR (cB (cN h_1)) <| jT <| jB <| jC ?_
    have hwi := (show 1 ≤ seq ∧ seq ≤ 100000 by simpa only [within, Bool.and_eq_true, decide_eq_true_eq] using h_1)
    have hdl := dec_len (n := seq) (by omega) (by omega)
    refine jF <| jA (jD (v := iv seq) rfl) ?_
    refine jH rfl (jI [] Tryz.call91 rfl (C_sDec seq (by omega) (by omega)) rfl (fun _ _ => trivial)) ?_
    rintro _ _ ⟨_, ⟨rfl, rfl⟩, rfl⟩
    have hdl_2 := dec_len (n := seq) (by omega) (by omega)
    refine jH rfl (JO.toBytes kg kr kv rfl (by unfold maxLen; omega)) ?_
    rintro _ _ ⟨a_3, c_4, rfl, rfl⟩
    refine jA (jG (v := .slice a_3 ((dec seq).length) c_4) rfl) <| jE <| jB <| jC <| jC <| jF <| jA (jG (v := iv 0) rfl) <| jE <| jB <| jf ?_
    refine kD (fun k_ e_ L_ => ∃ j : Nat, ∃ oa : Option Addr, ∃ oc : Nat, ∃ b : Str, (j ≤ l.length) ∧ (b.length ≤ 5000) ∧ (recGo b (l.drop j) = recGo (dec seq) l) ∧ e_ 1 = .slice a l.length c ∧ e_ 5 = .slice oa b.length oc ∧ e_ 6 = nv j ∧ L_ = [Res.row (.slice oa b.length oc) 5 1 b.length (b.map encB)] ∧ k_ = l.length - j) _ ⟨0, a_3, c_4, (dec seq), by omega, by omega, rfl, rfl, rfl, rfl, rfl, rfl⟩ ?_
    rintro _ e_5 _ ⟨j, oa, oc, b, hj, hb, hR, he_6, he_7, he_8, rfl, rfl⟩
    refine jC <| jC <| jF <| jA (jD (v := nv j) he_8) <| jA (jD (v := .slice a l.length c) he_6) <| jA (jr kf rfl) <| jA (jl rfl rfl) <| jE <| jB ?_
    by_cases h_9 : ((j : Nat) : Int) < ((l.length : Nat) : Int)
    · have hlt : j < l.length := by omega
      refine jW (cB (dT h_9)) <| jT <| jB <| jC <| jf <| jC <| jC <| jF <| jA (jD (v := .slice a l.length c) he_6) <| jA (jD (v := nv j) he_8) ?_
      obtain ⟨hr_10, hr_10b, -⟩ := sees_some hs_a (by omega)
      refine jA (jk (i := j) kf kh hr_10 hr_10b rfl rfl (by omega)) <| jA (kL fo48_0 hr_10 rfl) <| jK (kY (v := str ((l.getD j c0).1)) hs_a nM rfl ki (atC1 (by omega))) ?_
      refine jH rfl (jI [] Tryz.call92 rfl (Y_specKeyOk ((l.getD j c0).1) (hl.2 j hlt).1) rfl (fun _ _ => trivial)) ?_
      rintro _ _ ⟨_, ⟨rfl, rfl⟩, rfl⟩
      refine jA (jp rfl) <| jA (jD (v := .bool (!(keyOk ((l.getD j c0).1)))) rfl) ?_
      rcases Bool.eq_false_or_eq_true (keyOk ((l.getD j c0).1)) with h_11 | h_11
      · have hk40 := keyOk_len h_11
        refine jM rfl rfl rfl (cB (cN h_11)) (jP (jU (jD (v := .slice a l.length c) he_6))) ?_
        rintro _ _ ⟨rfl, rfl⟩
        refine jM rfl rfl rfl (cB (cN h_11)) (jP (jU (jD (v := nv j) he_8))) ?_
        rintro _ _ ⟨rfl, rfl⟩
        refine jM rfl rfl rfl (cB (cN h_11)) (jP (jU (jk (i := j) kf kh hr_10 hr_10b rfl rfl (by omega)))) ?_
        rintro _ _ ⟨rfl, rfl⟩
        refine jM rfl rfl rfl (cB (cN h_11)) (jP (jU (kL fo48_1 hr_10 rfl))) ?_
        rintro _ _ ⟨rfl, rfl⟩
        refine jM rfl rfl rfl (cB (cN h_11)) (jP (kY (v := str ((l.getD j c0).2)) hs_a nM rfl ki (atC2 (by omega)))) ?_
        rintro _ _ ⟨rfl, rfl⟩
        refine jM rfl rfl rfl (cB (cN h_11)) (jP (jU (kF kg rfl))) ?_
        rintro _ _ ⟨rfl, rfl⟩
        refine jM rfl rfl rfl (cB (cN h_11)) (jP (jU (kR rfl rfl))) ?_
        rintro _ _ ⟨rfl, rfl⟩
        refine jA (ji (v := .bool (decide (60 < (((l.getD j c0).2).length : Int)))) (cB (cN h_11)) rfl) <| jA (jD (v := .bool (decide (60 < (((l.getD j c0).2).length : Int)))) rfl) ?_
        by_cases h_12 : 60 < (((l.getD j c0).2).length : Int)
        · refine jS (b := true) rfl rfl rfl (cB (dT h_12)) <| jS (b := true) rfl rfl rfl (cB (dT h_12)) <| jS (b := true) rfl rfl rfl (cB (dT h_12)) <| jA (jh (v := .bool true) (cB (dT h_12)) rfl) <| jE <| jB <| jW (cB rfl) <| jC <| jF <| jA (jG (v := str []) rfl) ?_
          refine jE <| jB <| jN <| jX <| jv <| jX <| jX <| jv <| jX <| jV (.inl rfl) rfl (jJ (v := str []) rfl) (List.nil_sublist _) ?_
          refine ⟨congrArg str ?_, rfl⟩
          have hrt : recText seq l = recGo (dec seq) l := by unfold recText; rw [if_pos h_1]
          rw [hrt, ← hR, recGo_step hlt, if_pos (by simp only [recBad, Bool.and_true, Bool.true_and, Bool.and_false, Bool.false_and, Bool.or_true, Bool.true_or, Bool.or_false, Bool.false_or, Bool.not_true, Bool.not_false, (h_1), ((dT h_9)), (h_11), ((dT h_12))])]
        refine jM rfl rfl rfl (cB (dF h_12)) (jP (jU (jD (v := .slice oa b.length oc) he_7))) ?_
        rintro _ _ ⟨rfl, rfl⟩
        refine jM rfl rfl rfl (cB (dF h_12)) (jP (jU (jr kr rfl))) ?_
        rintro _ _ ⟨rfl, rfl⟩
        refine jM rfl rfl rfl (cB (dF h_12)) (jP (jU (kR rfl rfl))) ?_
        rintro _ _ ⟨rfl, rfl⟩
        refine jA (ji (v := .bool (decide (4000 < ((b.length : Nat) : Int)))) (cB (dF h_12)) rfl) <| jE <| jB ?_
        by_cases h_13 : 4000 < ((b.length : Nat) : Int)
        · refine jW (cB (dT h_13)) <| jC <| jF <| jA (jG (v := str []) rfl) <| jE <| jB <| jN <| jX <| jv <| jX ?_
          refine jX <| jv <| jX <| jV (.inl rfl) rfl (jJ (v := str []) rfl) (List.nil_sublist _) ?_
          refine ⟨congrArg str ?_, rfl⟩
          have hrt : recText seq l = recGo (dec seq) l := by unfold recText; rw [if_pos h_1]
          rw [hrt, ← hR, recGo_step hlt, if_pos (by simp only [recBad, Bool.and_true, Bool.true_and, Bool.and_false, Bool.false_and, Bool.or_true, Bool.true_or, Bool.or_false, Bool.false_or, Bool.not_true, Bool.not_false, (h_1), ((dT h_9)), (h_11), ((dF h_12)), ((dT h_13))])]
        refine jR (cB (dF h_13)) <| jT <| jB <| jC <| jF <| jA (jD (v := .slice a l.length c) he_6) <| jA (jD (v := nv j) he_8) <| jA (jk (i := j) kf kh hr_10 hr_10b rfl rfl (by omega)) <| jA (kL fo48_0 hr_10 rfl) <| jK (kY (v := str ((l.getD j c0).1)) hs_a nM rfl ki (atC1 (by omega))) ?_
        refine jH rfl (jI [] Tryz.call93 rfl (Y_sHex ((l.getD j c0).1) (by omega)) rfl (fun _ _ => trivial)) ?_
        rintro _ _ ⟨_, ⟨rfl, rfl⟩, rfl⟩
        have hxl_14 := hexB_len ((l.getD j c0).1)
        refine jA (jD (v := .tuple #[str (hexB ((l.getD j c0).1)), .bool true]) rfl) <| jA (je (v := str (hexB ((l.getD j c0).1))) rfl rfl) <| jA (je (v := .bool true) rfl rfl) <| jA (jG (v := str (hexB ((l.getD j c0).1))) rfl) <| jA (jG (v := .bool true) rfl) <| jE <| jB <| jC <| jF <| jA (jD (v := .slice a l.length c) he_6) ?_
        refine jA (jD (v := nv j) he_8) <| jA (jk (i := j) kf kh hr_10 hr_10b rfl rfl (by omega)) <| jA (kL fo48_1 hr_10 rfl) <| jK (kY (v := str ((l.getD j c0).2)) hs_a nM rfl ki (atC2 (by omega))) ?_
        refine jH rfl (jI [] Tryz.call93 rfl (Y_sHex ((l.getD j c0).2) (by omega)) rfl (fun _ _ => trivial)) ?_
        rintro _ _ ⟨_, ⟨rfl, rfl⟩, rfl⟩
        have hxl_15 := hexB_len ((l.getD j c0).2)
        refine jA (jD (v := .tuple #[str (hexB ((l.getD j c0).2)), .bool true]) rfl) <| jA (je (v := str (hexB ((l.getD j c0).2))) rfl rfl) <| jA (je (v := .bool true) rfl rfl) <| jA (jG (v := str (hexB ((l.getD j c0).2))) rfl) <| jA (jG (v := .bool true) rfl) <| jE <| jB <| jF <| jA (jD (v := .slice oa b.length oc) he_7) ?_
        refine jH rfl (kH (ps := [(0, .int .u8 32)]) (cur := #[.int .u8 32]) kr gH gK rfl (by kernel_rfl) (by decide) (by decide)) ?_
        rintro _ _ ⟨a_16, rfl, rfl⟩
        refine jH rfl (kU 1 (q := 1) (news := ([32] : List UInt8).map encB) (n' := (b ++ ([32] : List UInt8)).length) (cs' := (b ++ ([32] : List UInt8)).map encB) rfl kr kr Tryz.typeInfo5 rfl (by' := 1) rfl rfl rfl rfl rfl (fun w hw => Src.sees (hw.see (i := 0) rfl) (oneB _)) (by (try simp only [LE]); omega) (by (try simp only [LE]); omega) (by simp only [List.length_append, List.length_take, List.length_drop, List.length_cons, List.length_nil] <;> first | rfl | omega) (by simp only [List.map_append])) ?_
        rintro _ _ ⟨a_17, c_18, rfl, rfl⟩
        refine jA (jD (v := str (hexB ((l.getD j c0).1))) rfl) ?_
        refine jH rfl (JO.appendS' 1 (q := (hexB ((l.getD j c0).1)).length) (news := (hexB ((l.getD j c0).1)).map encB) (n' := ((b ++ ([32] : List UInt8)) ++ (hexB ((l.getD j c0).1))).length) (cs' := ((b ++ ([32] : List UInt8)) ++ (hexB ((l.getD j c0).1))).map encB) rfl kr kg Tryz.typeInfo5 rfl (by' := 1) rfl rfl rfl rfl rfl (fun w hw => Src.str (hexB ((l.getD j c0).1))) (by (try simp only [List.length_append, List.length_cons, List.length_nil]); omega) (by (try simp only [List.length_append, List.length_cons, List.length_nil]); omega) (by simp only [List.length_append]) (by simp only [List.map_append])) ?_
        rintro _ _ ⟨a_19, c_20, rfl, rfl⟩
        refine jH rfl (kH (ps := [(0, .int .u8 61)]) (cur := #[.int .u8 61]) kr gH gK rfl (by kernel_rfl) (by decide) (by decide)) ?_
        rintro _ _ ⟨a_21, rfl, rfl⟩
        refine jH rfl (kU 2 (q := 1) (news := ([61] : List UInt8).map encB) (n' := (((b ++ ([32] : List UInt8)) ++ (hexB ((l.getD j c0).1))) ++ ([61] : List UInt8)).length) (cs' := (((b ++ ([32] : List UInt8)) ++ (hexB ((l.getD j c0).1))) ++ ([61] : List UInt8)).map encB) rfl kr kr Tryz.typeInfo5 rfl (by' := 1) rfl rfl rfl rfl rfl (fun w hw => Src.sees (hw.see (i := 0) rfl) (oneB _)) (by (try simp only [LE]); omega) (by (try simp only [LE]); omega) (by simp only [List.length_append, List.length_take, List.length_drop, List.length_cons, List.length_nil] <;> first | rfl | omega) (by simp only [List.map_append])) ?_
        rintro _ _ ⟨a_22, c_23, rfl, rfl⟩
        refine jA (jD (v := str (hexB ((l.getD j c0).2))) rfl) ?_
        refine jH rfl (JO.appendS' 2 (q := (hexB ((l.getD j c0).2)).length) (news := (hexB ((l.getD j c0).2)).map encB) (n' := ((((b ++ ([32] : List UInt8)) ++ (hexB ((l.getD j c0).1))) ++ ([61] : List UInt8)) ++ (hexB ((l.getD j c0).2))).length) (cs' := ((((b ++ ([32] : List UInt8)) ++ (hexB ((l.getD j c0).1))) ++ ([61] : List UInt8)) ++ (hexB ((l.getD j c0).2))).map encB) rfl kr kg Tryz.typeInfo5 rfl (by' := 1) rfl rfl rfl rfl rfl (fun w hw => Src.str (hexB ((l.getD j c0).2))) (by (try simp only [List.length_append, List.length_cons, List.length_nil]); omega) (by (try simp only [List.length_append, List.length_cons, List.length_nil]); omega) (by simp only [List.length_append]) (by simp only [List.map_append])) ?_
        rintro _ _ ⟨a_24, c_25, rfl, rfl⟩
        refine jA (jG (v := .slice a_24 (((((b ++ ([32] : List UInt8)) ++ (hexB ((l.getD j c0).1))) ++ ([61] : List UInt8)) ++ (hexB ((l.getD j c0).2))).length) c_25) rfl) <| jE <| jm <| jB <| jF <| jA (jD (v := nv j) he_8) <| jA (jc (c := ((j + 1 : Nat) : Int)) rfl rfl (wr (by omega))) <| jA (jG (v := iv ((j + 1 : Nat) : Int)) rfl) <| jE <| kB [2] (A := [Res.row (.slice a_24 (((((b ++ ([32] : List UInt8)) ++ (hexB ((l.getD j c0).1))) ++ ([61] : List UInt8)) ++ (hexB ((l.getD j c0).2))).length) c_25) 5 1 (((((b ++ ([32] : List UInt8)) ++ (hexB ((l.getD j c0).1))) ++ ([61] : List UInt8)) ++ (hexB ((l.getD j c0).2))).length) (((((b ++ ([32] : List UInt8)) ++ (hexB ((l.getD j c0).1))) ++ ([61] : List UInt8)) ++ (hexB ((l.getD j c0).2))).map encB)]) rfl ?_
        refine jq (l.length - (j + 1)) (by omega) ⟨j + 1, a_24, c_25, ((((b ++ ([32] : List UInt8)) ++ (hexB ((l.getD j c0).1))) ++ ([61] : List UInt8)) ++ (hexB ((l.getD j c0).2))), by omega, (by simp only [List.length_append, List.length_cons, List.length_nil]; omega), (by rw [recGo_step hlt, if_neg (by simp only [recBad, Bool.and_true, Bool.true_and, Bool.and_false, Bool.false_and, Bool.or_true, Bool.true_or, Bool.or_false, Bool.false_or, Bool.not_true, Bool.not_false, (h_1), ((dT h_9)), (h_11), ((dF h_12)), ((dF h_13))]; exact Bool.false_ne_true)] at hR; simp only [recRow, ← List.append_assoc] at hR; exact hR), he_6, rfl, rfl, rfl, rfl⟩
      refine jS (b := true) rfl rfl rfl (cB (cN h_11)) <| jS (b := true) rfl rfl rfl (cB (cN h_11)) <| jS (b := true) rfl rfl rfl (cB (cN h_11)) <| jS (b := true) rfl rfl rfl (cB (cN h_11)) <| jS (b := true) rfl rfl rfl (cB (cN h_11)) <| jS (b := true) rfl rfl rfl (cB (cN h_11)) <| jS (b := true) rfl rfl rfl (cB (cN h_11)) <| jA (jh (v := .bool true) (cB (cN h_11)) rfl) <| jA (jD (v := .bool true) rfl) <| jS (b := true) rfl rfl rfl (cB rfl) ?_
      refine jS (b := true) rfl rfl rfl (cB rfl) <| jS (b := true) rfl rfl rfl (cB rfl) <| jA (jh (v := .bool true) (cB rfl) rfl) <| jE <| jB <| jW (cB rfl) <| jC <| jF <| jA (jG (v := str []) rfl) <| jE ?_
      refine jB <| jN <| jX <| jv <| jX <| jX <| jv <| jX <| jV (.inl rfl) rfl (jJ (v := str []) rfl) (List.nil_sublist _) ?_
      refine ⟨congrArg str ?_, rfl⟩
      have hrt : recText seq l = recGo (dec seq) l := by unfold recText; rw [if_pos h_1]
      rw [hrt, ← hR, recGo_step hlt, if_pos (by simp only [recBad, Bool.and_true, Bool.true_and, Bool.and_false, Bool.false_and, Bool.or_true, Bool.true_or, Bool.or_false, Bool.false_or, Bool.not_true, Bool.not_false, (h_1), ((dT h_9)), (h_11)])]
    refine jR (cB (dF h_9)) <| jx <| jb <| jb <| jy <| jB <| jC <| kJ [Res.row (.slice oa b.length oc) 5 1 b.length (b.map encB)] 7 mixed (by simp) <| jL 0 rfl (jD (v := .slice oa b.length oc) he_7) <| jL 3 rfl (jD (v := .slice oa b.length oc) he_7) ?_
    refine JA.two (i := 1) (j := 4) (by kernel_rfl) ?_ ?_
    · refine jz rfl rfl (jP (LO.toStr 0 b rfl kr kv kg rfl rfl)) ?_
      rintro _ _ ⟨rfl, rfl⟩
      refine ⟨by simp, ?_⟩
      refine jL 2 rfl (kc rfl rfl (by (try simp only [List.length_append, List.length_cons, List.length_nil, List.length_drop, List.length_take]); omega)) <| jj (i := 4) ?_
      refine jz rfl rfl (jP (LO.toStr 0 b rfl kr kv kg rfl rfl)) ?_
      rintro _ _ ⟨rfl, rfl⟩
      refine ⟨by simp, ?_⟩
      refine jj (i := 5) ?_
      refine jz rfl rfl (jI [] Tryz.call94 rfl (Y_specSum b (by (try simp only [List.length_append, List.length_cons, List.length_nil]); omega)) rfl (fun _ _ => trivial)) ?_
      rintro _ _ ⟨_, ⟨rfl, rfl⟩, rfl⟩
      have hbs_27 := byteSum_lo b
      refine ⟨by simp, ?_⟩
      refine jj (i := 6) ?_
      refine jz rfl rfl (jI [] Tryz.call91 rfl (C_sDec ((byteSum b : Nat) : Int) (by omega) (by omega)) rfl (fun _ _ => trivial)) ?_
      rintro _ _ ⟨_, ⟨rfl, rfl⟩, rfl⟩
      have hdl_29 := dec_len (n := ((byteSum b : Nat) : Int)) (by omega) (by omega)
      refine ⟨by simp, ?_⟩
      refine jL 7 rfl (kc rfl rfl (by (try simp only [List.length_append, List.length_cons, List.length_nil, List.length_drop, List.length_take]); omega)) <| jL 8 rfl (kc rfl rfl (by (try simp only [List.length_append, List.length_cons, List.length_nil, List.length_drop, List.length_take]); omega)) <| jL 9 rfl (jG (v := str (((b ++ [32, 35]) ++ (dec ((byteSum b : Nat) : Int))) ++ [10])) rfl) <| kI (by kernel_rfl) <| jB <| jC <| jC <| jF <| jA (jD (v := str (((b ++ [32, 35]) ++ (dec ((byteSum b : Nat) : Int))) ++ [10])) rfl) <| jA (kF kg rfl) ?_
      refine jA (kR rfl rfl) <| jE <| jB ?_
      by_cases h_30 : 4000 < ((((b ++ [32, 35]) ++ (dec ((byteSum b : Nat) : Int))) ++ [10]).length : Int)
      · refine jW (cB (dT h_30)) <| jC <| jF <| jA (jG (v := str []) rfl) <| jE <| jB <| jN <| jX <| jV (.inl rfl) rfl (jJ (v := str []) rfl) (List.nil_sublist _) ?_
        refine ⟨congrArg str ?_, rfl⟩
        have hrt : recText seq l = recGo (dec seq) l := by unfold recText; rw [if_pos h_1]
        rw [hrt, ← hR, List.drop_of_length_le (by omega), recGo, recEnd]
        first | rw [if_pos (by assumption)] | rw [if_neg (by assumption)]
      refine jR (cB (dF h_30)) <| jT <| jB <| jC <| jF <| jA (jD (v := str (((b ++ [32, 35]) ++ (dec ((byteSum b : Nat) : Int))) ++ [10])) rfl) <| jA (jG (v := str (((b ++ [32, 35]) ++ (dec ((byteSum b : Nat) : Int))) ++ [10])) rfl) <| jE <| jB <| jN ?_
      refine jV (.inl rfl) rfl (jJ (v := str (((b ++ [32, 35]) ++ (dec ((byteSum b : Nat) : Int))) ++ [10])) rfl) (List.nil_sublist _) ?_
      refine ⟨congrArg str ?_, rfl⟩
      have hrt : recText seq l = recGo (dec seq) l := by unfold recText; rw [if_pos h_1]
      rw [hrt, ← hR, List.drop_of_length_le (by omega), recGo, recEnd]
      first | rw [if_pos (by assumption)] | rw [if_neg (by assumption)]
    refine jz rfl rfl (jP (LO.toStr 0 b rfl kr kv kg rfl rfl)) ?_
    rintro _ _ ⟨rfl, rfl⟩
    refine ⟨by simp, ?_⟩
    refine JA.two (i := 1) (j := 5) (by kernel_rfl) ?_ ?_
    · refine jz rfl rfl (jP (LO.toStr 0 b rfl kr kv kg rfl rfl)) ?_
      rintro _ _ ⟨rfl, rfl⟩
      refine ⟨by simp, ?_⟩
      refine jL 2 rfl (kc rfl rfl (by (try simp only [List.length_append, List.length_cons, List.length_nil, List.length_drop, List.length_take]); omega)) <| jj (i := 5) ?_
      refine jz rfl rfl (jI [] Tryz.call94 rfl (Y_specSum b (by (try simp only [List.length_append, List.length_cons, List.length_nil]); omega)) rfl (fun _ _ => trivial)) ?_
      rintro _ _ ⟨_, ⟨rfl, rfl⟩, rfl⟩
      have hbs_33 := byteSum_lo b
      refine ⟨by simp, ?_⟩
      refine jj (i := 6) ?_
      refine jz rfl rfl (jI [] Tryz.call91 rfl (C_sDec ((byteSum b : Nat) : Int) (by omega) (by omega)) rfl (fun _ _ => trivial)) ?_
      rintro _ _ ⟨_, ⟨rfl, rfl⟩, rfl⟩
      have hdl_35 := dec_len (n := ((byteSum b : Nat) : Int)) (by omega) (by omega)
      refine ⟨by simp, ?_⟩
      refine jL 7 rfl (kc rfl rfl (by (try simp only [List.length_append, List.length_cons, List.length_nil, List.length_drop, List.length_take]); omega)) <| jL 8 rfl (kc rfl rfl (by (try simp only [List.length_append, List.length_cons, List.length_nil, List.length_drop, List.length_take]); omega)) <| jL 9 rfl (jG (v := str (((b ++ [32, 35]) ++ (dec ((byteSum b : Nat) : Int))) ++ [10])) rfl) <| kI (by kernel_rfl) <| jB <| jC <| jC <| jF <| jA (jD (v := str (((b ++ [32, 35]) ++ (dec ((byteSum b : Nat) : Int))) ++ [10])) rfl) <| jA (kF kg rfl) ?_
      refine jA (kR rfl rfl) <| jE <| jB ?_
      by_cases h_36 : 4000 < ((((b ++ [32, 35]) ++ (dec ((byteSum b : Nat) : Int))) ++ [10]).length : Int)
      · refine jW (cB (dT h_36)) <| jC <| jF <| jA (jG (v := str []) rfl) <| jE <| jB <| jN <| jX <| jV (.inl rfl) rfl (jJ (v := str []) rfl) (List.nil_sublist _) ?_
        refine ⟨congrArg str ?_, rfl⟩
        have hrt : recText seq l = recGo (dec seq) l := by unfold recText; rw [if_pos h_1]
        rw [hrt, ← hR, List.drop_of_length_le (by omega), recGo, recEnd]
        first | rw [if_pos (by assumption)] | rw [if_neg (by assumption)]
      refine jR (cB (dF h_36)) <| jT <| jB <| jC <| jF <| jA (jD (v := str (((b ++ [32, 35]) ++ (dec ((byteSum b : Nat) : Int))) ++ [10])) rfl) <| jA (jG (v := str (((b ++ [32, 35]) ++ (dec ((byteSum b : Nat) : Int))) ++ [10])) rfl) <| jE <| jB <| jN ?_
      refine jV (.inl rfl) rfl (jJ (v := str (((b ++ [32, 35]) ++ (dec ((byteSum b : Nat) : Int))) ++ [10])) rfl) (List.nil_sublist _) ?_
      refine ⟨congrArg str ?_, rfl⟩
      have hrt : recText seq l = recGo (dec seq) l := by unfold recText; rw [if_pos h_1]
      rw [hrt, ← hR, List.drop_of_length_le (by omega), recGo, recEnd]
      first | rw [if_pos (by assumption)] | rw [if_neg (by assumption)]
    refine jz rfl rfl (jI [] Tryz.call94 rfl (Y_specSum b (by (try simp only [List.length_append, List.length_cons, List.length_nil]); omega)) rfl (fun _ _ => trivial)) ?_
    rintro _ _ ⟨_, ⟨rfl, rfl⟩, rfl⟩
    have hbs_37 := byteSum_lo b
    refine ⟨by simp, ?_⟩
    refine JA.two (i := 1) (j := 6) (by kernel_rfl) ?_ ?_
    · refine jz rfl rfl (jP (LO.toStr 0 b rfl kr kv kg rfl rfl)) ?_
      rintro _ _ ⟨rfl, rfl⟩
      refine ⟨by simp, ?_⟩
      refine jL 2 rfl (kc rfl rfl (by (try simp only [List.length_append, List.length_cons, List.length_nil, List.length_drop, List.length_take]); omega)) <| jj (i := 6) ?_
      refine jz rfl rfl (jI [] Tryz.call91 rfl (C_sDec ((byteSum b : Nat) : Int) (by omega) (by omega)) rfl (fun _ _ => trivial)) ?_
      rintro _ _ ⟨_, ⟨rfl, rfl⟩, rfl⟩
      have hdl_40 := dec_len (n := ((byteSum b : Nat) : Int)) (by omega) (by omega)
      refine ⟨by simp, ?_⟩
      refine jL 7 rfl (kc rfl rfl (by (try simp only [List.length_append, List.length_cons, List.length_nil, List.length_drop, List.length_take]); omega)) <| jL 8 rfl (kc rfl rfl (by (try simp only [List.length_append, List.length_cons, List.length_nil, List.length_drop, List.length_take]); omega)) <| jL 9 rfl (jG (v := str (((b ++ [32, 35]) ++ (dec ((byteSum b : Nat) : Int))) ++ [10])) rfl) <| kI (by kernel_rfl) <| jB <| jC <| jC <| jF <| jA (jD (v := str (((b ++ [32, 35]) ++ (dec ((byteSum b : Nat) : Int))) ++ [10])) rfl) <| jA (kF kg rfl) ?_
      refine jA (kR rfl rfl) <| jE <| jB ?_
      by_cases h_41 : 4000 < ((((b ++ [32, 35]) ++ (dec ((byteSum b : Nat) : Int))) ++ [10]).length : Int)
      · refine jW (cB (dT h_41)) <| jC <| jF <| jA (jG (v := str []) rfl) <| jE <| jB <| jN <| jX <| jV (.inl rfl) rfl (jJ (v := str []) rfl) (List.nil_sublist _) ?_
        refine ⟨congrArg str ?_, rfl⟩
        have hrt : recText seq l = recGo (dec seq) l := by unfold recText; rw [if_pos h_1]
        rw [hrt, ← hR, List.drop_of_length_le (by omega), recGo, recEnd]
        first | rw [if_pos (by assumption)] | rw [if_neg (by assumption)]
      refine jR (cB (dF h_41)) <| jT <| jB <| jC <| jF <| jA (jD (v := str (((b ++ [32, 35]) ++ (dec ((byteSum b : Nat) : Int))) ++ [10])) rfl) <| jA (jG (v := str (((b ++ [32, 35]) ++ (dec ((byteSum b : Nat) : Int))) ++ [10])) rfl) <| jE <| jB <| jN ?_
      refine jV (.inl rfl) rfl (jJ (v := str (((b ++ [32, 35]) ++ (dec ((byteSum b : Nat) : Int))) ++ [10])) rfl) (List.nil_sublist _) ?_
      refine ⟨congrArg str ?_, rfl⟩
      have hrt : recText seq l = recGo (dec seq) l := by unfold recText; rw [if_pos h_1]
      rw [hrt, ← hR, List.drop_of_length_le (by omega), recGo, recEnd]
      first | rw [if_pos (by assumption)] | rw [if_neg (by assumption)]
    refine jz rfl rfl (jI [] Tryz.call91 rfl (C_sDec ((byteSum b : Nat) : Int) (by omega) (by omega)) rfl (fun _ _ => trivial)) ?_
    rintro _ _ ⟨_, ⟨rfl, rfl⟩, rfl⟩
    have hdl_42 := dec_len (n := ((byteSum b : Nat) : Int)) (by omega) (by omega)
    refine ⟨by simp, ?_⟩
    refine jj (i := 1) ?_
    refine jz rfl rfl (jP (LO.toStr 0 b rfl kr kv kg rfl rfl)) ?_
    rintro _ _ ⟨rfl, rfl⟩
    refine ⟨by simp, ?_⟩
    refine jL 2 rfl (kc rfl rfl (by (try simp only [List.length_append, List.length_cons, List.length_nil, List.length_drop, List.length_take]); omega)) <| jL 7 rfl (kc rfl rfl (by (try simp only [List.length_append, List.length_cons, List.length_nil, List.length_drop, List.length_take]); omega)) <| jL 8 rfl (kc rfl rfl (by (try simp only [List.length_append, List.length_cons, List.length_nil, List.length_drop, List.length_take]); omega)) <| jL 9 rfl (jG (v := str (((b ++ [32, 35]) ++ (dec ((byteSum b : Nat) : Int))) ++ [10])) rfl) <| kI (by kernel_rfl) <| jB <| jC <| jC <| jF <| jA (jD (v := str (((b ++ [32, 35]) ++ (dec ((byteSum b : Nat) : Int))) ++ [10])) rfl) ?_
    refine jA (kF kg rfl) <| jA (kR rfl rfl) <| jE <| jB ?_
    by_cases h_43 : 4000 < ((((b ++ [32, 35]) ++ (dec ((byteSum b : Nat) : Int))) ++ [10]).length : Int)
    · refine jW (cB (dT h_43)) <| jC <| jF <| jA (jG (v := str []) rfl) <| jE <| jB <| jN <| jX <| jV (.inl rfl) rfl (jJ (v := str []) rfl) (List.nil_sublist _) ?_
      refine ⟨congrArg str ?_, rfl⟩
      have hrt : recText seq l = recGo (dec seq) l := by unfold recText; rw [if_pos h_1]
      rw [hrt, ← hR, List.drop_of_length_le (by omega), recGo, recEnd]
      first | rw [if_pos (by assumption)] | rw [if_neg (by assumption)]
    refine jR (cB (dF h_43)) <| jT <| jB <| jC <| jF <| jA (jD (v := str (((b ++ [32, 35]) ++ (dec ((byteSum b : Nat) : Int))) ++ [10])) rfl) <| jA (jG (v := str (((b ++ [32, 35]) ++ (dec ((byteSum b : Nat) : Int))) ++ [10])) rfl) <| jE <| jB <| jN ?_
    refine jV (.inl rfl) rfl (jJ (v := str (((b ++ [32, 35]) ++ (dec ((byteSum b : Nat) : Int))) ++ [10])) rfl) (List.nil_sublist _) ?_
    refine ⟨congrArg str ?_, rfl⟩
    have hrt : recText seq l = recGo (dec seq) l := by unfold recText; rw [if_pos h_1]
    rw [hrt, ← hR, List.drop_of_length_le (by omega), recGo, recEnd]
    first | rw [if_pos (by assumption)] | rw [if_neg (by assumption)]
  refine jW (cB (cN h_1)) <| jC <| jF <| jA (jG (v := str []) rfl) <| jE <| jB <| jN <| jX <| jV (.inl rfl) rfl (jJ (v := str []) rfl) (List.nil_sublist _) ?_
  refine ⟨congrArg str ?_, rfl⟩
  unfold recText
  rw [h_1]
  rfl

set_option maxRecDepth 4000 in
set_option maxHeartbeats 1000000 in
theorem Y_sSplit (s : Str) (sg : UInt8) (hs : s.length ≤ 100000000) :
    Ct Tryz.prog 105 [str s, .int .u8 ((sg.toNat : Nat) : Int)] [] (fun _ => True) (fun v A' => ∃ a c, v = .slice a (splitB sg s).length c ∧ A' = [.row (.slice a (splitB sg s).length c) 9 1 (splitB sg s).length ((splitB sg s).map str)]) := by
  refine Ct.intro Tryz.func105 rfl Tryz.ntmps105 (lb rfl) fun w0 hpre => ?_
  refine jC <| jF <| jA (jG (v := .slice none 0 0) rfl) <| jE <| jB <| jC <| jF ?_
  refine jH rfl (kH (ps := []) (cur := #[]) ku kt Tryz.zeroValue9 rfl (by kernel_rfl) (by decide) (by decide)) ?_
  rintro _ _ ⟨a_1, rfl, rfl⟩
  refine jA (jG (v := .slice a_1 0 0) rfl) <| jE <| jB <| jC <| jF <| jA (jG (v := iv 0) rfl) <| jE <| jB <| jC <| jC ?_
  refine jF <| jA (jG (v := iv 0) rfl) <| jE <| jB <| jf <| kD (fun k_ e_ L_ => ∃ i : Nat, ∃ b : Nat, ∃ oa : Option Addr, ∃ oc : Nat, ∃ o_ : List Str, (i ≤ s.length + 1) ∧ (b ≤ i) ∧ (o_.length ≤ i) ∧ (∀ k, b ≤ k → k < i → i ≤ s.length → s.getD k 0 ≠ sg) ∧ (i ≤ s.length → o_ ++ splitB sg (s.drop b) = splitB sg s) ∧ (s.length < i → o_ = splitB sg s) ∧ e_ 0 = str s ∧ e_ 1 = .int .u8 ((sg.toNat : Nat) : Int) ∧ e_ 4 = .slice none 0 0 ∧ e_ 5 = .slice oa o_.length oc ∧ e_ 6 = nv b ∧ e_ 7 = nv i ∧ L_ = [rS oa oc o_] ∧ k_ = s.length + 1 - i) _ ⟨0, 0, a_1, 0, [], by omega, by omega, (by simp), (fun k h1 h2 => absurd h2 (by omega)), (fun _ => rfl), (fun h3 => absurd h3 (by omega)), rfl, rfl, rfl, rfl, rfl, rfl, rfl, rfl⟩ ?_
  rintro _ e_2 _ ⟨i, b, oa, oc, o_, hi, hb, ho, hN, hR, hE, he_3, he_4, he_5, he_6, he_7, he_8, rfl, rfl⟩
  refine jC <| jC <| jF <| jA (jD (v := nv i) he_8) <| jA (jD (v := str s) he_3) <| jA (kF kg rfl) <| jA (PO.leq rfl rfl) <| jE <| jB ?_
  by_cases h_9 : ((i : Nat) : Int) ≤ (s.length : Int)
  · refine jW (cB (dT h_9)) <| jT <| jB <| jC <| jf <| jC <| jF <| jA (jD (v := nv i) he_8) <| jA (jD (v := str s) he_3) <| jA (kF kg rfl) ?_
    refine jA (kO rfl rfl) <| jA (jD (v := .bool (decide (((i : Nat) : Int) = (s.length : Int)))) rfl) ?_
    by_cases h_10 : ((i : Nat) : Int) = (s.length : Int)
    · refine jS (b := true) rfl rfl rfl (cB (dT h_10)) <| jS (b := true) rfl rfl rfl (cB (dT h_10)) <| jS (b := true) rfl rfl rfl (cB (dT h_10)) <| jS (b := true) rfl rfl rfl (cB (dT h_10)) <| jS (b := true) rfl rfl rfl (cB (dT h_10)) <| jA (jh (v := .bool true) (cB (dT h_10)) rfl) <| jE <| jB <| jW (cB rfl) <| jC ?_
      refine jF <| jA (jD (v := .slice oa o_.length oc) he_6) <| jA (jD (v := str s) he_3) <| jA (jD (v := nv b) he_7) <| jA (jD (v := nv i) he_8) <| jA (PO.sliceS (i := b) (j := i) kg rfl rfl rfl (by omega) (by omega)) ?_
      refine jH rfl (kH (ps := [(0, str ((s.drop b).take (i - b)))]) (cur := #[str ((s.drop b).take (i - b))]) ku kt Tryz.zeroValue9 rfl (by kernel_rfl) (by decide) (by decide)) ?_
      rintro _ _ ⟨a_11, rfl, rfl⟩
      refine jH rfl (kU 1 (q := 1) (news := ([(s.drop b).take (i - b)] : List Str).map str) (n' := (o_ ++ ([(s.drop b).take (i - b)] : List Str)).length) (cs' := (o_ ++ ([(s.drop b).take (i - b)] : List Str)).map str) rfl ku ku Tryz.typeInfo9 rfl (by' := 16) rfl rfl rfl rfl rfl (fun w hw => Src.sees (hw.see (i := 0) rfl) (oneS _)) (by (try simp only [LE]); omega) (by (try simp only [LE]); omega) (by simp only [List.length_append, List.length_take, List.length_drop, List.length_cons, List.length_nil] <;> first | rfl | omega) (by simp only [List.map_append])) ?_
      rintro _ _ ⟨a_12, c_13, rfl, rfl⟩
      refine jA (jG (v := .slice a_12 ((o_ ++ ([(s.drop b).take (i - b)] : List Str)).length) c_13) rfl) <| jE <| jB <| jF <| jA (jD (v := nv i) he_8) <| jA (jc (c := ((i + 1 : Nat) : Int)) rfl rfl (wr (by omega))) <| jA (jG (v := iv ((i + 1 : Nat) : Int)) rfl) <| jE <| jm <| jB ?_
      refine jF <| jA (jD (v := nv i) he_8) <| jA (jc (c := ((i + 1 : Nat) : Int)) rfl rfl (wr (by omega))) <| jA (jG (v := iv ((i + 1 : Nat) : Int)) rfl) <| jE <| kB [1] (A := [rS a_12 c_13 (o_ ++ ([(s.drop b).take (i - b)] : List Str))]) rfl ?_
      refine jq (s.length + 1 - (i + 1)) (by omega) ⟨i + 1, i + 1, a_12, c_13, (o_ ++ ([(s.drop b).take (i - b)] : List Str)), by omega, by omega, (by (try simp only [List.length_append, List.length_cons, List.length_nil]); omega), (fun k h1 h2 h3 => absurd h3 (by omega)), (fun h3 => absurd h3 (by omega)), (fun _ => by have hil : i = s.length := (by omega); subst hil; have h_ := hR (by omega); rw [split_end (fun k h1 h2 => hN k h1 h2 (by omega))] at h_; exact h_), he_3, he_4, he_5, rfl, rfl, rfl, rfl, rfl⟩
    refine jM rfl rfl rfl (cB (dF h_10)) (jP (jU (jD (v := str s) he_3))) ?_
    rintro _ _ ⟨rfl, rfl⟩
    refine jM rfl rfl rfl (cB (dF h_10)) (jP (jU (jD (v := nv i) he_8))) ?_
    rintro _ _ ⟨rfl, rfl⟩
    refine jM rfl rfl rfl (cB (dF h_10)) (jP (jU (PO.indexS (i := i) (c := s.getD i 0) kg rfl rfl (getD_some (by omega))))) ?_
    rintro _ _ ⟨rfl, rfl⟩
    have hu_14 := UInt8.toNat_lt (s.getD i 0)
    refine jM rfl rfl rfl (cB (dF h_10)) (jP (jU (jD (v := .int .u8 ((sg.toNat : Nat) : Int)) he_4))) ?_
    rintro _ _ ⟨rfl, rfl⟩
    refine jM rfl rfl rfl (cB (dF h_10)) (jP (jU (kO rfl rfl))) ?_
    rintro _ _ ⟨rfl, rfl⟩
    refine jA (ji (v := .bool (decide (((s.getD i 0).toNat : Int) = ((sg.toNat : Nat) : Int)))) (cB (dF h_10)) rfl) <| jE <| jB ?_
    by_cases h_15 : ((s.getD i 0).toNat : Int) = ((sg.toNat : Nat) : Int)
    · have hu_16 := u8_eq h_15
      refine jW (cB (dT h_15)) <| jC <| jF <| jA (jD (v := .slice oa o_.length oc) he_6) <| jA (jD (v := str s) he_3) <| jA (jD (v := nv b) he_7) <| jA (jD (v := nv i) he_8) <| jA (PO.sliceS (i := b) (j := i) kg rfl rfl rfl (by omega) (by omega)) ?_
      refine jH rfl (kH (ps := [(0, str ((s.drop b).take (i - b)))]) (cur := #[str ((s.drop b).take (i - b))]) ku kt Tryz.zeroValue9 rfl (by kernel_rfl) (by decide) (by decide)) ?_
      rintro _ _ ⟨a_17, rfl, rfl⟩
      refine jH rfl (kU 1 (q := 1) (news := ([(s.drop b).take (i - b)] : List Str).map str) (n' := (o_ ++ ([(s.drop b).take (i - b)] : List Str)).length) (cs' := (o_ ++ ([(s.drop b).take (i - b)] : List Str)).map str) rfl ku ku Tryz.typeInfo9 rfl (by' := 16) rfl rfl rfl rfl rfl (fun w hw => Src.sees (hw.see (i := 0) rfl) (oneS _)) (by (try simp only [LE]); omega) (by (try simp only [LE]); omega) (by simp only [List.length_append, List.length_take, List.length_drop, List.length_cons, List.length_nil] <;> first | rfl | omega) (by simp only [List.map_append])) ?_
      rintro _ _ ⟨a_18, c_19, rfl, rfl⟩
      refine jA (jG (v := .slice a_18 ((o_ ++ ([(s.drop b).take (i - b)] : List Str)).length) c_19) rfl) <| jE <| jB <| jF <| jA (jD (v := nv i) he_8) <| jA (jc (c := ((i + 1 : Nat) : Int)) rfl rfl (wr (by omega))) <| jA (jG (v := iv ((i + 1 : Nat) : Int)) rfl) <| jE <| jm <| jB ?_
      refine jF <| jA (jD (v := nv i) he_8) <| jA (jc (c := ((i + 1 : Nat) : Int)) rfl rfl (wr (by omega))) <| jA (jG (v := iv ((i + 1 : Nat) : Int)) rfl) <| jE <| kB [1] (A := [rS a_18 c_19 (o_ ++ ([(s.drop b).take (i - b)] : List Str))]) rfl ?_
      refine jq (s.length + 1 - (i + 1)) (by omega) ⟨i + 1, i + 1, a_18, c_19, (o_ ++ ([(s.drop b).take (i - b)] : List Str)), by omega, by omega, (by (try simp only [List.length_append, List.length_cons, List.length_nil]); omega), (fun k h1 h2 h3 => absurd h2 (by omega)), (fun h3 => by have h_ := hR (by omega); rw [split_cut (by omega) hb (fun k h1 h2 => hN k h1 h2 (by omega)) hu_16] at h_; rw [List.append_assoc]; exact h_), (fun h3 => absurd h3 (by omega)), he_3, he_4, he_5, rfl, rfl, rfl, rfl, rfl⟩
    have hu_20 := u8_ne h_15
    refine jR (cB (dF h_15)) <| jT <| jm <| jB <| jF <| jA (jD (v := nv i) he_8) <| jA (jc (c := ((i + 1 : Nat) : Int)) rfl rfl (wr (by omega))) <| jA (jG (v := iv ((i + 1 : Nat) : Int)) rfl) <| jE <| kB [0] (A := [rS oa oc o_]) rfl ?_
    refine jq (s.length + 1 - (i + 1)) (by omega) ⟨i + 1, b, oa, oc, o_, by omega, by omega, (by (try simp only [List.length_append, List.length_cons, List.length_nil]); omega), (fun k h1 h2 h3 => if h : k = i then h ▸ hu_20 else hN k h1 (by omega) (by omega)), (fun h3 => hR (by omega)), (fun h3 => absurd h3 (by omega)), he_3, he_4, he_5, he_6, he_7, rfl, rfl, rfl⟩
  refine jR (cB (dF h_9)) <| jx <| jb <| jb <| jy <| jB <| jC <| jF <| jA (jD (v := .slice oa o_.length oc) he_6) <| jA (jG (v := .slice oa o_.length oc) rfl) ?_
  refine jE <| jB <| jN <| jV (.inl rfl) rfl (jJ (v := .slice oa o_.length oc) rfl) (List.Sublist.refl _) ?_
  have he := hE (by omega)
  exact ⟨_, _, by rw [← he], by rw [← he]⟩

theorem Y_sUnhex (t : Str) (ht : t.length ≤ 100000000) : Ct Tryz.prog 107 [str t] [] (fun _ => True) (fun v A' => v = .tuple #[str (unhex t).1, .bool (unhex t).2] ∧ A' = []) :=
  (N_sUnhex t (by omega)).weak (fun _ h => h) fun v A' ⟨u, b, e, _, hv, hA⟩ => ⟨by rw [hv, e], hA⟩

set_option maxRecDepth 4000 in
set_option maxHeartbeats 1000000 in
theorem Y_sRead (t : Str) (ht : t.length ≤ 100000000) :
    Ct Tryz.prog 58 [str t] [] (fun _ => True) (fun v A' => ∃ a c, v = .tuple #[.int .i64 (readI t).1, .slice a (readI t).2.1.length c, .bool (readI t).2.2] ∧ A' = [.row (.slice a (readI t).2.1.length c) 48 2 (readI t).2.1.length ((readI t).2.1.flatMap encC)]) := by
  refine Ct.intro Tryz.func58 rfl Tryz.ntmps58 (lb rfl) fun w0 hpre => ?_
  refine jC <| jF <| jA (jG (v := iv 0) rfl) <| jA (jG (v := .slice none 0 0) rfl) <| jA (jG (v := .bool false) rfl) <| jE <| jB <| jC <| jF ?_
  refine jH rfl (kH (ps := []) (cur := #[]) kf kh kw rfl (by kernel_rfl) (by decide) (by decide)) ?_
  rintro _ _ ⟨a_1, rfl, rfl⟩
  refine jA (jG (v := .slice a_1 0 0) rfl) <| jE <| jB <| jC <| jC <| jF <| jA (jD (v := str t) rfl) <| jA (kF kg rfl) <| jA (kR rfl rfl) <| jE ?_
  refine jB ?_
  by_cases h_2 : 4000 < (t.length : Int)
  · refine jW (cB (dT h_2)) <| jC <| jF <| jA (jD (v := .slice a_1 0 0) rfl) <| jA (jG (v := iv 0) rfl) <| jA (jG (v := .slice a_1 0 0) rfl) <| jA (jG (v := .bool false) rfl) <| jE <| jB <| jN ?_
    refine jX <| Done.three (.inl rfl) rfl (jJ (v := iv 0) rfl) (jJ (v := .slice a_1 0 0) rfl) (jJ (v := .bool false) rfl) (List.Sublist.refl _) ?_
    have he := readS_long h_2
    exact ⟨a_1, 0, by rw [← readS_eq, he] <;> rfl, by rw [← readS_eq, he] <;> rfl⟩
  refine jR (cB (dF h_2)) <| jT <| jB <| jC <| jF <| jA (jD (v := str t) rfl) ?_
  refine jH rfl (jI [] Tryz.call105 rfl (Y_sSplit t 32 (by omega)) rfl (fun _ _ => trivial)) ?_
  rintro _ _ ⟨_, ⟨a_3, c_4, rfl, rfl⟩, rfl⟩
  have hsp_5 := splitB_len 32 t
  refine jA (jG (v := .slice a_3 ((splitB 32 t).length) c_4) rfl) <| jE <| jB <| jC <| jF <| jA (jD (v := .slice a_3 ((splitB 32 t).length) c_4) rfl) ?_
  refine kN fun hst => ?_
  obtain ⟨hr_6, hr_6b, -⟩ := row_some 0 rfl (by omega) hst
  refine jA (jk (i := 0) ku kt hr_6 hr_6b rfl rfl (by omega)) <| jK (ka 0 (v := str ((splitB 32 t).getD 0 [])) rfl rfl ki (atS (by omega))) ?_
  refine jH rfl (jI [] Tryz.call106 rfl (C_sReadDec ((splitB 32 t).getD 0 []) (by have h_2 := splitB_get 32 t 0; omega)) rfl (fun _ _ => trivial)) ?_
  rintro _ _ ⟨_, ⟨rfl, rfl⟩, rfl⟩
  refine jA (jD (v := .tuple #[iv ((readDec ((splitB 32 t).getD 0 [])).1), .bool ((readDec ((splitB 32 t).getD 0 [])).2)]) rfl) <| jA (je (v := iv ((readDec ((splitB 32 t).getD 0 [])).1)) rfl rfl) <| jA (je (v := .bool ((readDec ((splitB 32 t).getD 0 [])).2)) rfl rfl) <| jA (jG (v := iv ((readDec ((splitB 32 t).getD 0 [])).1)) rfl) <| jA (jG (v := .bool ((readDec ((splitB 32 t).getD 0 [])).2)) rfl) <| jE <| jB <| jC <| jF ?_
  refine jH rfl (kH (ps := []) (cur := #[]) kf kh kw rfl (by kernel_rfl) (by decide) (by decide)) ?_
  rintro _ _ ⟨a_7, rfl, rfl⟩
  refine jA (jG (v := .slice a_7 0 0) rfl) <| jE <| jB <| jC <| jC <| jF <| jA (jG (v := iv 1) rfl) <| jE <| jB <| jf ?_
  refine kD (fun k_ e_ L_ => ∃ i : Nat, ∃ oa : Option Addr, ∃ oc : Nat, ∃ o_ : List Cell, (1 ≤ i) ∧ (i = 1 ∨ i + 1 ≤ (splitB 32 t).length) ∧ (o_.length ≤ i) ∧ (o_ = (((splitB 32 t).drop 1).take (i - 1)).map readWord) ∧ (∀ k, 1 ≤ k → k < i → (splitB 61 ((splitB 32 t).getD k [])).length = 2) ∧ e_ 0 = str t ∧ e_ 5 = .slice a_1 0 0 ∧ e_ 6 = .slice a_3 ((splitB 32 t).length) c_4 ∧ e_ 7 = iv ((readDec ((splitB 32 t).getD 0 [])).1) ∧ e_ 8 = .bool ((readDec ((splitB 32 t).getD 0 [])).2) ∧ e_ 9 = .slice oa o_.length oc ∧ e_ 10 = nv i ∧ L_ = [rC oa oc o_, rS a_3 c_4 (splitB 32 t), Res.row (.slice a_1 0 0) 48 2 0 (([] : List Cell).flatMap encC)] ∧ k_ = (splitB 32 t).length - i) _ ⟨1, a_7, 0, [], by omega, by omega, (by simp), (by simp), (fun k h1 h2 => absurd h1 (by omega)), rfl, rfl, rfl, rfl, rfl, rfl, rfl, rfl, rfl⟩ ?_
  rintro _ e_8 _ ⟨i, oa, oc, o_, h1, hi, hol, ho, hN, he_9, he_10, he_11, he_12, he_13, he_14, he_15, rfl, rfl⟩
  refine jC <| jC <| jF <| jA (jD (v := nv i) he_15) <| jA (jD (v := .slice a_3 ((splitB 32 t).length) c_4) he_11) <| jA (jr ku rfl) <| jA (kZ (c := (((splitB 32 t).length : Nat) : Int) - 1) rfl rfl (wr (by omega))) <| jA (jl rfl rfl) <| jE <| jB ?_
  by_cases h_16 : ((i : Nat) : Int) < ((((splitB 32 t).length : Nat) : Int) - 1)
  · refine jW (cB (dT h_16)) <| jT <| jB <| jC <| jf <| jC <| jF <| jA (jD (v := .slice a_3 ((splitB 32 t).length) c_4) he_11) <| jA (jD (v := nv i) he_15) <| jA (jk (i := i) ku kt hr_6 hr_6b rfl rfl (by omega)) ?_
    refine jK (ka 1 (v := str ((splitB 32 t).getD i [])) rfl rfl ki (atS (by omega))) ?_
    refine jH rfl (jI [] Tryz.call105 rfl (Y_sSplit ((splitB 32 t).getD i []) 61 (by have h_1 := splitB_get 32 t i; have h_2 := splitB_get 32 t 0; have h_3 := splitB_get 61 ((splitB 32 t).getD i []) 0; have h_4 := splitB_get 61 ((splitB 32 t).getD i []) 1; omega)) rfl (fun _ _ => trivial)) ?_
    rintro _ _ ⟨_, ⟨a_17, c_18, rfl, rfl⟩, rfl⟩
    have hsp_19 := splitB_len 61 ((splitB 32 t).getD i [])
    refine jA (jG (v := .slice a_17 ((splitB 61 ((splitB 32 t).getD i [])).length) c_18) rfl) <| jE <| jB <| jC <| jC <| jF <| jA (jD (v := .slice a_17 ((splitB 61 ((splitB 32 t).getD i [])).length) c_18) rfl) <| jA (jr ku rfl) <| jA (kS rfl rfl) <| jE ?_
    refine jB ?_
    by_cases h_20 : (((splitB 61 ((splitB 32 t).getD i [])).length : Nat) : Int) = 2
    · refine jR (cB (cN (dT h_20))) <| jT <| jB <| jC <| jF <| jA (jD (v := .slice a_17 ((splitB 61 ((splitB 32 t).getD i [])).length) c_18) rfl) ?_
      refine kN fun hst => ?_
      obtain ⟨hr_21, hr_21b, -⟩ := row_some 0 rfl (by omega) hst
      refine jA (jk (i := 0) ku kt hr_21 hr_21b rfl rfl (by omega)) <| jK (ka 0 (v := str ((splitB 61 ((splitB 32 t).getD i [])).getD 0 [])) rfl rfl ki (atS (by omega))) ?_
      refine jH rfl (jI [] Tryz.call107 rfl (Y_sUnhex ((splitB 61 ((splitB 32 t).getD i [])).getD 0 []) (by have h_1 := splitB_get 32 t i; have h_2 := splitB_get 32 t 0; have h_3 := splitB_get 61 ((splitB 32 t).getD i []) 0; have h_4 := splitB_get 61 ((splitB 32 t).getD i []) 1; omega)) rfl (fun _ _ => trivial)) ?_
      rintro _ _ ⟨_, ⟨rfl, rfl⟩, rfl⟩
      refine jA (jD (v := .tuple #[str ((unhex ((splitB 61 ((splitB 32 t).getD i [])).getD 0 [])).1), .bool ((unhex ((splitB 61 ((splitB 32 t).getD i [])).getD 0 [])).2)]) rfl) <| jA (je (v := str ((unhex ((splitB 61 ((splitB 32 t).getD i [])).getD 0 [])).1)) rfl rfl) <| jA (je (v := .bool ((unhex ((splitB 61 ((splitB 32 t).getD i [])).getD 0 [])).2)) rfl rfl) <| jA (jG (v := str ((unhex ((splitB 61 ((splitB 32 t).getD i [])).getD 0 [])).1)) rfl) <| jA (jG (v := .bool ((unhex ((splitB 61 ((splitB 32 t).getD i [])).getD 0 [])).2)) rfl) <| jE <| jB <| jC <| jF <| jA (jD (v := .slice a_17 ((splitB 61 ((splitB 32 t).getD i [])).length) c_18) rfl) ?_
      refine jA (jk (i := 1) ku kt hr_21 hr_21b rfl rfl (by omega)) <| jK (ka 0 (v := str ((splitB 61 ((splitB 32 t).getD i [])).getD 1 [])) rfl rfl ki (atS (by omega))) ?_
      refine jH rfl (jI [] Tryz.call107 rfl (Y_sUnhex ((splitB 61 ((splitB 32 t).getD i [])).getD 1 []) (by have h_1 := splitB_get 32 t i; have h_2 := splitB_get 32 t 0; have h_3 := splitB_get 61 ((splitB 32 t).getD i []) 0; have h_4 := splitB_get 61 ((splitB 32 t).getD i []) 1; omega)) rfl (fun _ _ => trivial)) ?_
      rintro _ _ ⟨_, ⟨rfl, rfl⟩, rfl⟩
      refine jA (jD (v := .tuple #[str ((unhex ((splitB 61 ((splitB 32 t).getD i [])).getD 1 [])).1), .bool ((unhex ((splitB 61 ((splitB 32 t).getD i [])).getD 1 [])).2)]) rfl) <| jA (je (v := str ((unhex ((splitB 61 ((splitB 32 t).getD i [])).getD 1 [])).1)) rfl rfl) <| jA (je (v := .bool ((unhex ((splitB 61 ((splitB 32 t).getD i [])).getD 1 [])).2)) rfl rfl) <| jA (jG (v := str ((unhex ((splitB 61 ((splitB 32 t).getD i [])).getD 1 [])).1)) rfl) <| jA (jG (v := .bool ((unhex ((splitB 61 ((splitB 32 t).getD i [])).getD 1 [])).2)) rfl) <| jE <| jB <| jF <| jA (jD (v := .slice oa o_.length oc) he_14) <| jA (jD (v := str ((unhex ((splitB 61 ((splitB 32 t).getD i [])).getD 0 [])).1)) rfl) ?_
      refine jA (jD (v := str ((unhex ((splitB 61 ((splitB 32 t).getD i [])).getD 1 [])).1)) rfl) <| jA (kW (ps := [(0, str ((unhex ((splitB 61 ((splitB 32 t).getD i [])).getD 0 [])).1)), (1, str ((unhex ((splitB 61 ((splitB 32 t).getD i [])).getD 1 [])).1))]) (cs := [str ((unhex ((splitB 61 ((splitB 32 t).getD i [])).getD 0 [])).1), str ((unhex ((splitB 61 ((splitB 32 t).getD i [])).getD 1 [])).1)]) rfl (by kernel_rfl)) ?_
      refine jH rfl (kH (ps := [(0, .agg #[str ((unhex ((splitB 61 ((splitB 32 t).getD i [])).getD 0 [])).1), str ((unhex ((splitB 61 ((splitB 32 t).getD i [])).getD 1 [])).1)])]) (cur := #[str ((unhex ((splitB 61 ((splitB 32 t).getD i [])).getD 0 [])).1), str ((unhex ((splitB 61 ((splitB 32 t).getD i [])).getD 1 [])).1)]) kf kh kw rfl (by kernel_rfl) (by decide) (by decide)) ?_
      rintro _ _ ⟨a_22, rfl, rfl⟩
      refine jH rfl (kU 2 (q := 1) (news := ([((unhex ((splitB 61 ((splitB 32 t).getD i [])).getD 0 [])).1, (unhex ((splitB 61 ((splitB 32 t).getD i [])).getD 1 [])).1)] : List Cell).flatMap encC) (n' := (o_ ++ ([((unhex ((splitB 61 ((splitB 32 t).getD i [])).getD 0 [])).1, (unhex ((splitB 61 ((splitB 32 t).getD i [])).getD 1 [])).1)] : List Cell)).length) (cs' := (o_ ++ ([((unhex ((splitB 61 ((splitB 32 t).getD i [])).getD 0 [])).1, (unhex ((splitB 61 ((splitB 32 t).getD i [])).getD 1 [])).1)] : List Cell)).flatMap encC) rfl kf kf ky rfl (by' := 32) rfl rfl rfl rfl rfl (fun w hw => Src.sees (hw.see (i := 0) rfl) (oneC _)) (by (try simp only [LE]); omega) (by (try simp only [LE]); omega) (by simp only [List.length_append, List.length_take, List.length_drop, List.length_cons, List.length_nil] <;> first | rfl | omega) (by simp only [List.flatMap_append])) ?_
      rintro _ _ ⟨a_23, c_24, rfl, rfl⟩
      refine jA (jG (v := .slice a_23 ((o_ ++ ([((unhex ((splitB 61 ((splitB 32 t).getD i [])).getD 0 [])).1, (unhex ((splitB 61 ((splitB 32 t).getD i [])).getD 1 [])).1)] : List Cell)).length) c_24) rfl) <| jE <| jm <| jB <| jF <| jA (jD (v := nv i) he_15) <| jA (jc (c := ((i + 1 : Nat) : Int)) rfl rfl (wr (by omega))) <| jA (jG (v := iv ((i + 1 : Nat) : Int)) rfl) <| jE <| kB [2, 2, 2] (A := [rC a_23 c_24 (o_ ++ ([((unhex ((splitB 61 ((splitB 32 t).getD i [])).getD 0 [])).1, (unhex ((splitB 61 ((splitB 32 t).getD i [])).getD 1 [])).1)] : List Cell)), rS a_3 c_4 (splitB 32 t), Res.row (.slice a_1 0 0) 48 2 0 (([] : List Cell).flatMap encC)]) rfl ?_
      refine jq ((splitB 32 t).length - (i + 1)) (by omega) ⟨i + 1, a_23, c_24, (o_ ++ ([((unhex ((splitB 61 ((splitB 32 t).getD i [])).getD 0 [])).1, (unhex ((splitB 61 ((splitB 32 t).getD i [])).getD 1 [])).1)] : List Cell)), by omega, by omega, (by (try simp only [List.length_append, List.length_cons, List.length_nil]); omega), (by rw [mids_step (by omega) (by omega), ← ho, readWord_two (by have h_ := h_20; omega)]), (fun k h1 h2 => if h : k = i then h ▸ (by have h_ := h_20; omega) else hN k h1 (by omega)), he_9, he_10, he_11, he_12, he_13, rfl, rfl, rfl, rfl⟩
    refine jW (cB (cN (dF h_20))) <| jC <| jF <| jA (jD (v := .slice a_1 0 0) he_10) <| jA (jG (v := iv 0) rfl) <| jA (jG (v := .slice a_1 0 0) rfl) <| jA (jG (v := .bool false) rfl) <| jE <| jB <| jN ?_
    refine jX <| jv <| jX <| jX <| jv <| jX <| kM (pick_perm [3] (A := [Res.row (.slice a_1 0 0) 48 2 0 (([] : List Cell).flatMap encC)]) (F := [rS a_17 c_18 (splitB 61 ((splitB 32 t).getD i [])), rC oa oc o_, rS a_3 c_4 (splitB 32 t)]) rfl).symm <| Done.three (.inl rfl) rfl (jJ (v := iv 0) rfl) (jJ (v := .slice a_1 0 0) rfl) (jJ (v := .bool false) rfl) (tS 1 _) ?_
    have he := readS_mid h_2 (by omega) (by omega) (show ¬ (splitB 61 ((splitB 32 t).getD i [])).length = 2 by have h_ := h_20; omega)
    exact ⟨a_1, 0, by rw [← readS_eq, he] <;> rfl, by rw [← readS_eq, he] <;> rfl⟩
  refine jR (cB (dF h_16)) <| jx <| jb <| jb <| jy <| jB <| jC ?_
  have hokl : okC o_ := by rw [ho]; exact okC_read (by rw [List.length_take, List.length_drop]; omega)
  refine jF <| jA (jD (v := iv ((readDec ((splitB 32 t).getD 0 [])).1)) he_12) <| jA (jD (v := .slice oa o_.length oc) he_14) ?_
  refine jH rfl (jI [] Tryz.call41 rfl (Y_sRec ((readDec ((splitB 32 t).getD 0 [])).1) oa oc o_ hokl) rfl (fun w hw => hw.see (i := 0) rfl)) ?_
  rintro _ _ ⟨_, ⟨rfl, rfl⟩, rfl⟩
  refine jA (jG (v := str (recText ((readDec ((splitB 32 t).getD 0 [])).1) o_)) rfl) <| jE <| jB <| jC <| jC <| jF <| jA (jD (v := .bool ((readDec ((splitB 32 t).getD 0 [])).2)) he_13) <| jA (jp rfl) <| jA (jD (v := .bool (!((readDec ((splitB 32 t).getD 0 [])).2))) rfl) ?_
  rcases Bool.eq_false_or_eq_true ((readDec ((splitB 32 t).getD 0 [])).2) with h_25 | h_25
  · refine jM rfl rfl rfl (cB (cN h_25)) (jP (jU (jD (v := str (recText ((readDec ((splitB 32 t).getD 0 [])).1) o_)) rfl))) ?_
    rintro _ _ ⟨rfl, rfl⟩
    refine jM rfl rfl rfl (cB (cN h_25)) (jP (jU (PO.eqlS rfl rfl))) ?_
    rintro _ _ ⟨rfl, rfl⟩
    refine jA (ji (v := .bool (decide ((recText ((readDec ((splitB 32 t).getD 0 [])).1) o_) = []))) (cB (cN h_25)) rfl) <| jA (jD (v := .bool (decide ((recText ((readDec ((splitB 32 t).getD 0 [])).1) o_) = []))) rfl) ?_
    by_cases h_26 : (recText ((readDec ((splitB 32 t).getD 0 [])).1) o_) = []
    · refine jS (b := true) rfl rfl rfl (cB (dT h_26)) <| jS (b := true) rfl rfl rfl (cB (dT h_26)) <| jS (b := true) rfl rfl rfl (cB (dT h_26)) <| jA (jh (v := .bool true) (cB (dT h_26)) rfl) <| jE <| jB <| jW (cB rfl) <| jC <| jF <| jA (jD (v := .slice a_1 0 0) he_10) ?_
      refine jA (jG (v := iv 0) rfl) <| jA (jG (v := .slice a_1 0 0) rfl) <| jA (jG (v := .bool false) rfl) <| jE <| jB <| jN <| jX <| kM (pick_perm [2] (A := [Res.row (.slice a_1 0 0) 48 2 0 (([] : List Cell).flatMap encC)]) (F := [rC oa oc o_, rS a_3 c_4 (splitB 32 t)]) rfl).symm <| Done.three (.inl rfl) rfl (jJ (v := iv 0) rfl) (jJ (v := .slice a_1 0 0) rfl) (jJ (v := .bool false) rfl) (tS 1 _) ?_
      have he := readS_end h_2 (i := i) (by omega) hN
      rw [← ho] at he
      rw [if_pos (by first | exact .inl (by assumption) | exact .inr (.inl (by assumption)) | exact .inr (.inr (by assumption)))] at he
      exact ⟨a_1, 0, by rw [← readS_eq, he] <;> rfl, by rw [← readS_eq, he] <;> rfl⟩
    refine jM rfl rfl rfl (cB (dF h_26)) (jP (jU (jD (v := str (recText ((readDec ((splitB 32 t).getD 0 [])).1) o_)) rfl))) ?_
    rintro _ _ ⟨rfl, rfl⟩
    refine jM rfl rfl rfl (cB (dF h_26)) (jP (jU (jD (v := str t) he_9))) ?_
    rintro _ _ ⟨rfl, rfl⟩
    refine jM rfl rfl rfl (cB (dF h_26)) (jP (jU (PO.neqS rfl rfl))) ?_
    rintro _ _ ⟨rfl, rfl⟩
    refine jA (ji (v := .bool (!(decide ((recText ((readDec ((splitB 32 t).getD 0 [])).1) o_) = t)))) (cB (dF h_26)) rfl) <| jE <| jB ?_
    by_cases h_27 : (recText ((readDec ((splitB 32 t).getD 0 [])).1) o_) = t
    · refine jR (cB (cN (dT h_27))) <| jT <| jB <| jC <| jF <| jA (jD (v := iv ((readDec ((splitB 32 t).getD 0 [])).1)) he_12) <| jA (jD (v := .slice oa o_.length oc) he_14) <| jA (jG (v := iv ((readDec ((splitB 32 t).getD 0 [])).1)) rfl) <| jA (jG (v := .slice oa o_.length oc) rfl) <| jA (jG (v := .bool true) rfl) ?_
      refine jE <| jB <| jN <| Done.three (.inl rfl) rfl (jJ (v := iv ((readDec ((splitB 32 t).getD 0 [])).1)) rfl) (jJ (v := .slice oa o_.length oc) rfl) (jJ (v := .bool true) rfl) (tS 1 _) ?_
      have he := readS_end h_2 (i := i) (by omega) hN
      rw [← ho] at he
      rw [if_neg (by rintro (h_ | h_ | h_) <;> simp_all)] at he
      exact ⟨oa, oc, by rw [← readS_eq, he] <;> rfl, by rw [← readS_eq, he] <;> rfl⟩
    refine jW (cB (cN (dF h_27))) <| jC <| jF <| jA (jD (v := .slice a_1 0 0) he_10) <| jA (jG (v := iv 0) rfl) <| jA (jG (v := .slice a_1 0 0) rfl) <| jA (jG (v := .bool false) rfl) <| jE <| jB <| jN ?_
    refine jX <| kM (pick_perm [2] (A := [Res.row (.slice a_1 0 0) 48 2 0 (([] : List Cell).flatMap encC)]) (F := [rC oa oc o_, rS a_3 c_4 (splitB 32 t)]) rfl).symm <| Done.three (.inl rfl) rfl (jJ (v := iv 0) rfl) (jJ (v := .slice a_1 0 0) rfl) (jJ (v := .bool false) rfl) (tS 1 _) ?_
    have he := readS_end h_2 (i := i) (by omega) hN
    rw [← ho] at he
    rw [if_pos (by first | exact .inl (by assumption) | exact .inr (.inl (by assumption)) | exact .inr (.inr (by assumption)))] at he
    exact ⟨a_1, 0, by rw [← readS_eq, he] <;> rfl, by rw [← readS_eq, he] <;> rfl⟩
  refine jS (b := true) rfl rfl rfl (cB (cN h_25)) <| jS (b := true) rfl rfl rfl (cB (cN h_25)) <| jA (jh (v := .bool true) (cB (cN h_25)) rfl) <| jA (jD (v := .bool true) rfl) <| jS (b := true) rfl rfl rfl (cB rfl) <| jS (b := true) rfl rfl rfl (cB rfl) <| jS (b := true) rfl rfl rfl (cB rfl) <| jA (jh (v := .bool true) (cB rfl) rfl) <| jE <| jB ?_
  refine jW (cB rfl) <| jC <| jF <| jA (jD (v := .slice a_1 0 0) he_10) <| jA (jG (v := iv 0) rfl) <| jA (jG (v := .slice a_1 0 0) rfl) <| jA (jG (v := .bool false) rfl) <| jE <| jB <| jN ?_
  refine jX <| kM (pick_perm [2] (A := [Res.row (.slice a_1 0 0) 48 2 0 (([] : List Cell).flatMap encC)]) (F := [rC oa oc o_, rS a_3 c_4 (splitB 32 t)]) rfl).symm <| Done.three (.inl rfl) rfl (jJ (v := iv 0) rfl) (jJ (v := .slice a_1 0 0) rfl) (jJ (v := .bool false) rfl) (tS 1 _) ?_
  have he := readS_end h_2 (i := i) (by omega) hN
  rw [← ho] at he
  rw [if_pos (by first | exact .inl (by assumption) | exact .inr (.inl (by assumption)) | exact .inr (.inr (by assumption)))] at he
  exact ⟨a_1, 0, by rw [← readS_eq, he] <;> rfl, by rw [← readS_eq, he] <;> rfl⟩

set_option maxRecDepth 4000 in
set_option maxHeartbeats 1000000 in
theorem Y_sLines (s : Str) (hs : s.length ≤ 100000000) :
    Ct Tryz.prog 57 [str s] [] (fun _ => True) (fun v A' => ∃ a c, v = .slice a (linesOf s).length c ∧ A' = [.row (.slice a (linesOf s).length c) 9 1 (linesOf s).length ((linesOf s).map str)]) := by
  refine Ct.intro Tryz.func57 rfl Tryz.ntmps57 (lb rfl) fun w0 hpre => ?_
  refine jC <| jF <| jA (jG (v := .slice none 0 0) rfl) <| jE <| jB <| jC <| jF ?_
  refine jH rfl (kH (ps := []) (cur := #[]) ku kt Tryz.zeroValue9 rfl (by kernel_rfl) (by decide) (by decide)) ?_
  rintro _ _ ⟨a_1, rfl, rfl⟩
  refine jA (jG (v := .slice a_1 0 0) rfl) <| jE <| jB <| jC <| jF <| jA (jG (v := iv 0) rfl) <| jE <| jB <| jC <| jC ?_
  refine jF <| jA (jG (v := iv 0) rfl) <| jE <| jB <| jf <| kD (fun k_ e_ L_ => ∃ i : Nat, ∃ b : Nat, ∃ oa : Option Addr, ∃ oc : Nat, ∃ o_ : List Str, (i ≤ s.length) ∧ (b ≤ i) ∧ (o_.length ≤ i) ∧ (o_ ++ linesG ((s.drop b).take (i - b)) (s.drop i) = linesOf s) ∧ e_ 0 = str s ∧ e_ 2 = .slice none 0 0 ∧ e_ 3 = .slice oa o_.length oc ∧ e_ 4 = nv b ∧ e_ 5 = nv i ∧ L_ = [rS oa oc o_] ∧ k_ = s.length - i) _ ⟨0, 0, a_1, 0, [], by omega, by omega, (by simp), rfl, rfl, rfl, rfl, rfl, rfl, rfl, rfl⟩ ?_
  rintro _ e_2 _ ⟨i, b, oa, oc, o_, hi, hb, ho, hR, he_3, he_4, he_5, he_6, he_7, rfl, rfl⟩
  refine jC <| jC <| jF <| jA (jD (v := nv i) he_7) <| jA (jD (v := str s) he_3) <| jA (kF kg rfl) <| jA (jl rfl rfl) <| jE <| jB ?_
  by_cases h_8 : ((i : Nat) : Int) < (s.length : Int)
  · refine jW (cB (dT h_8)) <| jT <| jB <| jC <| jf <| jC <| jF <| jA (jD (v := str s) he_3) <| jA (jD (v := nv i) he_7) <| jA (PO.indexS (i := i) (c := s.getD i 0) kg rfl rfl (getD_some (by omega))) ?_
    have hu_9 := UInt8.toNat_lt (s.getD i 0)
    refine jA (kO rfl rfl) <| jE <| jB ?_
    by_cases h_10 : ((s.getD i 0).toNat : Int) = 10
    · have hu_11 := u8_ten h_10
      refine jW (cB (dT h_10)) <| jC <| jF <| jA (jD (v := .slice oa o_.length oc) he_5) <| jA (jD (v := str s) he_3) <| jA (jD (v := nv b) he_6) <| jA (jD (v := nv i) he_7) <| jA (jc (c := ((i + 1 : Nat) : Int)) rfl rfl (wr (by omega))) <| jA (PO.sliceS (i := b) (j := (i + 1)) kg rfl rfl rfl (by omega) (by omega)) ?_
      refine jH rfl (kH (ps := [(0, str ((s.drop b).take ((i + 1) - b)))]) (cur := #[str ((s.drop b).take ((i + 1) - b))]) ku kt Tryz.zeroValue9 rfl (by kernel_rfl) (by decide) (by decide)) ?_
      rintro _ _ ⟨a_12, rfl, rfl⟩
      refine jH rfl (kU 1 (q := 1) (news := ([(s.drop b).take ((i + 1) - b)] : List Str).map str) (n' := (o_ ++ ([(s.drop b).take ((i + 1) - b)] : List Str)).length) (cs' := (o_ ++ ([(s.drop b).take ((i + 1) - b)] : List Str)).map str) rfl ku ku Tryz.typeInfo9 rfl (by' := 16) rfl rfl rfl rfl rfl (fun w hw => Src.sees (hw.see (i := 0) rfl) (oneS _)) (by (try simp only [LE]); omega) (by (try simp only [LE]); omega) (by simp only [List.length_append, List.length_take, List.length_drop, List.length_cons, List.length_nil] <;> first | rfl | omega) (by simp only [List.map_append])) ?_
      rintro _ _ ⟨a_13, c_14, rfl, rfl⟩
      refine jA (jG (v := .slice a_13 ((o_ ++ ([(s.drop b).take ((i + 1) - b)] : List Str)).length) c_14) rfl) <| jE <| jB <| jF <| jA (jD (v := nv i) he_7) <| jA (jc (c := ((i + 1 : Nat) : Int)) rfl rfl (wr (by omega))) <| jA (jG (v := iv ((i + 1 : Nat) : Int)) rfl) <| jE <| jm <| jB ?_
      refine jF <| jA (jD (v := nv i) he_7) <| jA (jc (c := ((i + 1 : Nat) : Int)) rfl rfl (wr (by omega))) <| jA (jG (v := iv ((i + 1 : Nat) : Int)) rfl) <| jE <| kB [1] (A := [rS a_13 c_14 (o_ ++ ([(s.drop b).take ((i + 1) - b)] : List Str))]) rfl ?_
      refine jq (s.length - (i + 1)) (by omega) ⟨i + 1, i + 1, a_13, c_14, (o_ ++ ([(s.drop b).take ((i + 1) - b)] : List Str)), by omega, by omega, (by (try simp only [List.length_append, List.length_cons, List.length_nil]); omega), (by rw [lines_step (by omega) hb, if_pos hu_11] at hR; rw [List.append_assoc]; exact hR), he_3, he_4, rfl, rfl, rfl, rfl, rfl⟩
    have hu_15 := u8_not10 h_10
    refine jR (cB (dF h_10)) <| jT <| jm <| jB <| jF <| jA (jD (v := nv i) he_7) <| jA (jc (c := ((i + 1 : Nat) : Int)) rfl rfl (wr (by omega))) <| jA (jG (v := iv ((i + 1 : Nat) : Int)) rfl) <| jE <| kB [0] (A := [rS oa oc o_]) rfl ?_
    refine jq (s.length - (i + 1)) (by omega) ⟨i + 1, b, oa, oc, o_, by omega, by omega, (by (try simp only [List.length_append, List.length_cons, List.length_nil]); omega), (by rw [lines_step (by omega) hb, if_neg hu_15] at hR; exact hR), he_3, he_4, he_5, he_6, rfl, rfl, rfl⟩
  refine jR (cB (dF h_8)) <| jx <| jb <| jb <| jy <| jB <| jC <| jF <| jA (jD (v := .slice oa o_.length oc) he_5) <| jA (jG (v := .slice oa o_.length oc) rfl) ?_
  refine jE <| jB <| jN <| jV (.inl rfl) rfl (jJ (v := .slice oa o_.length oc) rfl) (List.Sublist.refl _) ?_
  have he : o_ = linesOf s := by rw [show s.drop i = [] from List.drop_of_length_le (by omega), linesG, List.append_nil] at hR; exact hR
  exact ⟨oa, oc, by rw [← he], by rw [← he]⟩

set_option maxRecDepth 4000 in
set_option maxHeartbeats 1000000 in
theorem Y_iBest (d : DX) (hz : d.dat.okz) (hl : d.l.length ≤ 1000000000) :
    Ct Tryz.prog 48 [.agg #[.slice d.a d.l.length d.c, str d.jt, .int .i64 d.js]] [] (fun w => SeesA w (rdsD d)) (fun v A' => v = .int .i64 (bestD d.dat) ∧ A' = []) := by
  refine Ct.intro Tryz.func48 rfl Tryz.ntmps48 (lb rfl) fun w0 hpre => ?_
  have hs_1 : Sees w0 (.slice d.a d.l.length d.c) 3 d.l.length (d.l.flatMap encO) := (hpre).head
  have hi_2 : SeesA w0 (d.l.flatMap rdsO) := (hpre).tail
  refine jC <| jF ?_
  refine jH rfl (kG (cs := [.slice d.a d.l.length d.c, str d.jt, iv d.js]) rfl rfl) ?_
  rintro _ _ ⟨b_3, rfl, rfl⟩
  refine jA (jG (v := iv 0) rfl) <| jE <| jB <| jC <| jF <| jA (jG (v := iv (-1)) rfl) <| jE <| jB <| jC <| jC ?_
  refine jF <| jA (jQ fo31_0 rfl) <| jK (jZ 0 (v := .slice d.a d.l.length d.c) rfl rfl ks rfl) <| jA (jr km rfl) <| jA (jD (v := iv 0) rfl) <| jE <| jB <| jf <| kD (fun k_ e_ L_ => ∃ j : Nat, (j ≤ d.l.length) ∧ e_ 1 = .pointer (some ⟨b_3, 0, none⟩) ∧ e_ 2 = iv 0 ∧ e_ 3 = iv (bestF (fun i => (d.l.getD i o0).t) j) ∧ e_ 7 = .slice d.a d.l.length d.c ∧ e_ 8 = nv d.l.length ∧ e_ 9 = nv j ∧ L_ = [bk b_3 31 [.slice d.a d.l.length d.c, str d.jt, iv d.js]] ∧ k_ = d.l.length - j) _ ⟨0, by omega, rfl, rfl, rfl, rfl, rfl, rfl, rfl, rfl⟩ ?_
  rintro _ e_4 _ ⟨j, hj, he_5, he_6, he_7, he_8, he_9, he_10, rfl, rfl⟩
  refine jC <| jF <| jA (jl he_10 he_9) <| jE <| jB <| jC ?_
  by_cases h_11 : ((j : Nat) : Int) < ((d.l.length : Nat) : Int)
  · have hlt : j < d.l.length := by omega
    refine jW (cB (dT h_11)) <| jT <| jB <| jC <| jf <| jC <| jF <| jA (jD (v := nv j) he_10) ?_
    obtain ⟨hr_12, hr_12b, -⟩ := sees_some hs_1 (by omega)
    refine jA (jk (i := j) km kj hr_12 hr_12b he_8 he_10 (by omega)) ?_
    have hi_13 := SeesA.elem hi_2 o0 (show j < d.l.length by omega)
    have hs_14 := seesO hi_13
    refine jK (kX (vs := [iv ((d.l.getD j o0).t.seq), .slice ((d.l.getD j o0).x.a0) ((d.l.getD j o0).t.cells.length) ((d.l.getD j o0).x.c0), .bool ((d.l.getD j o0).t.whole)]) hs_1 nM rfl gB kj (flat_take encO_len o0 d.l j (by omega)) rfl (by decide)) ?_
    refine jH rfl (jo (z := .agg #[iv 0, .slice none 0 0, .bool false]) (cs := [iv 0, .slice none 0 0, .bool false]) gD rfl) ?_
    rintro _ _ ⟨b_15, rfl, rfl⟩
    refine jA (jG (v := nv j) rfl) ?_
    refine jH rfl (ja 0 (vs := [iv ((d.l.getD j o0).t.seq), .slice ((d.l.getD j o0).x.a0) ((d.l.getD j o0).t.cells.length) ((d.l.getD j o0).x.c0), .bool ((d.l.getD j o0).t.whole)]) (cs' := [iv ((d.l.getD j o0).t.seq), .slice ((d.l.getD j o0).x.a0) ((d.l.getD j o0).t.cells.length) ((d.l.getD j o0).x.c0), .bool ((d.l.getD j o0).t.whole)]) rfl rfl rfl rfl kj rfl rfl (lb rfl) rfl) ?_
    rintro _ _ rfl
    refine jE <| jB <| jC <| kJ [bk b_15 60 [iv ((d.l.getD j o0).t.seq), .slice ((d.l.getD j o0).x.a0) ((d.l.getD j o0).t.cells.length) ((d.l.getD j o0).x.c0), .bool ((d.l.getD j o0).t.whole)], bk b_3 31 [.slice d.a d.l.length d.c, str d.jt, iv d.js]] 1000 mixed (by simp) <| jL 0 rfl (jQ fo60_2 rfl) <| jw 1 rfl (jZ 0 (v := .bool ((d.l.getD j o0).t.whole)) rfl rfl gI rfl) <| jL 2 rfl (jD (v := .bool ((d.l.getD j o0).t.whole)) rfl) ?_
    rcases Bool.eq_false_or_eq_true ((d.l.getD j o0).t.whole) with h_16 | h_16
    · refine jg 3 rfl (by kernel_rfl) (NP.th (NP.bl (NP.th (NP.th (NP.bl (NP.th NP.body)))))) (by kernel_rfl) (by kernel_rfl) rfl rfl rfl (cB h_16) (jD (v := iv (bestF (fun i => (d.l.getD i o0).t) j)) he_7) <| jg 4 rfl (by kernel_rfl) (NP.th (NP.bl (NP.th (NP.th (NP.bl (NP.th NP.body)))))) (by kernel_rfl) (by kernel_rfl) rfl rfl rfl (cB h_16) (jl rfl rfl) <| jg 5 rfl (by kernel_rfl) (NP.th (NP.bl (NP.th (NP.th (NP.bl (NP.th NP.body)))))) (by kernel_rfl) (by kernel_rfl) rfl rfl rfl (cB h_16) (jD (v := .bool (decide ((bestF (fun i => (d.l.getD i o0).t) j) < 0))) rfl) ?_
      by_cases h_17 : (bestF (fun i => (d.l.getD i o0).t) j) < 0
      · refine jd 6 (b := true) rfl (by kernel_rfl) (NP.th (NP.bl (NP.th (NP.th (NP.bl (NP.th NP.body)))))) (by kernel_rfl) (by kernel_rfl) rfl rfl rfl (cB (dT h_17)) <| jd 7 (b := true) rfl (by kernel_rfl) (NP.th (NP.bl (NP.th (NP.th (NP.bl (NP.th NP.body)))))) (by kernel_rfl) (by kernel_rfl) rfl rfl rfl (cB (dT h_17)) <| jd 8 (b := true) rfl (by kernel_rfl) (NP.th (NP.bl (NP.th (NP.th (NP.bl (NP.th NP.body)))))) (by kernel_rfl) (by kernel_rfl) rfl rfl rfl (cB (dT h_17)) <| jd 9 (b := true) rfl (by kernel_rfl) (NP.th (NP.bl (NP.th (NP.th (NP.bl (NP.th NP.body)))))) (by kernel_rfl) (by kernel_rfl) rfl rfl rfl (cB (dT h_17)) <| jd 10 (b := true) rfl (by kernel_rfl) (NP.th (NP.bl (NP.th (NP.th (NP.bl (NP.th NP.body)))))) (by kernel_rfl) (by kernel_rfl) rfl rfl rfl (cB (dT h_17)) <| jd 11 (b := true) rfl (by kernel_rfl) (NP.th (NP.bl (NP.th (NP.th (NP.bl (NP.th NP.body)))))) (by kernel_rfl) (by kernel_rfl) rfl rfl rfl (cB (dT h_17)) <| jd 12 (b := true) rfl (by kernel_rfl) (NP.th (NP.bl (NP.th (NP.th (NP.bl (NP.th NP.body)))))) (by kernel_rfl) (by kernel_rfl) rfl rfl rfl (cB (dT h_17)) <| jd 13 (b := true) rfl (by kernel_rfl) (NP.th (NP.bl (NP.th (NP.th (NP.bl (NP.th NP.body)))))) (by kernel_rfl) (by kernel_rfl) rfl rfl rfl (cB (dT h_17)) <| jd 14 (b := true) rfl (by kernel_rfl) (NP.th (NP.bl (NP.th (NP.th (NP.bl (NP.th NP.body)))))) (by kernel_rfl) (by kernel_rfl) rfl rfl rfl (cB (dT h_17)) <| jg 15 rfl (by kernel_rfl) (NP.th (NP.bl (NP.th (NP.th (NP.bl (NP.th NP.body)))))) (by kernel_rfl) (by kernel_rfl) rfl rfl rfl (cB h_16) (jh (v := .bool true) (cB (dT h_17)) rfl) ?_
        refine jL 16 rfl (jh (v := .bool true) (cB h_16) rfl) <| kI (by kernel_rfl) <| jB <| jW (cB rfl) <| jF <| jA (jD (v := nv j) rfl) <| jA (jG (v := nv j) rfl) <| jE <| jm <| jB ?_
        refine jF <| jA (jc (c := ((j + 1 : Nat) : Int)) he_10 rfl (wr (by omega))) <| jA (jD (v := iv ((j + 1 : Nat) : Int)) rfl) <| jE <| kB [1] (A := [bk b_3 31 [.slice d.a d.l.length d.c, str d.jt, iv d.js]]) rfl ?_
        refine jq (d.l.length - (j + 1)) (by omega) ⟨j + 1, by omega, he_5, he_6, (by simp only [bestF]; first | (rw [if_pos ⟨by assumption, .inl (by assumption)⟩]; first | rfl | assumption) | (rw [if_neg (by rintro ⟨h_, _⟩; simp_all)]; first | rfl | assumption)), he_8, he_9, rfl, rfl, rfl⟩
      have hlo := bestF_lo (fun i => (d.l.getD i o0).t) j
      obtain ⟨q_18, hq_19⟩ : ∃ n_ : Nat, bestF (fun i => (d.l.getD i o0).t) j = ((n_ : Nat) : Int) := ⟨(bestF (fun i => (d.l.getD i o0).t) j).toNat, by omega⟩
      refine jg 6 rfl (by kernel_rfl) (NP.th (NP.bl (NP.th (NP.th (NP.bl (NP.th NP.body)))))) (by kernel_rfl) (by kernel_rfl) rfl rfl rfl (cB (dF h_17)) (jQ fo60_0 rfl) <| kK 7 rfl (by kernel_rfl) (NP.th (NP.bl (NP.th (NP.th (NP.bl (NP.th NP.body)))))) (by kernel_rfl) (by kernel_rfl) (by kernel_rfl) rfl rfl rfl (cB (dF h_17)) (jZ 0 (v := iv ((d.l.getD j o0).t.seq)) rfl rfl kq rfl) <| jg 8 rfl (by kernel_rfl) (NP.th (NP.bl (NP.th (NP.th (NP.bl (NP.th NP.body)))))) (by kernel_rfl) (by kernel_rfl) rfl rfl rfl (cB (dF h_17)) (jQ fo31_0 he_5) <| kK 9 rfl (by kernel_rfl) (NP.th (NP.bl (NP.th (NP.th (NP.bl (NP.th NP.body)))))) (by kernel_rfl) (by kernel_rfl) (by kernel_rfl) rfl rfl rfl (cB (dF h_17)) (jZ 1 (v := .slice d.a d.l.length d.c) rfl rfl ks rfl) <| jg 10 rfl (by kernel_rfl) (NP.th (NP.bl (NP.th (NP.th (NP.bl (NP.th NP.body)))))) (by kernel_rfl) (by kernel_rfl) rfl rfl rfl (cB (dF h_17)) (jD (v := nv q_18) ((he_7).trans (congrArg (Value.int .i64) hq_19))) <| jg 11 rfl (by kernel_rfl) (NP.th (NP.bl (NP.th (NP.th (NP.bl (NP.th NP.body)))))) (by kernel_rfl) (by kernel_rfl) rfl rfl rfl (cB (dF h_17)) (jk (i := q_18) km kj hr_12 hr_12b rfl rfl (by omega)) <| jg 12 rfl (by kernel_rfl) (NP.th (NP.bl (NP.th (NP.th (NP.bl (NP.th NP.body)))))) (by kernel_rfl) (by kernel_rfl) rfl rfl rfl (cB (dF h_17)) (kL fo60_0 hr_12 rfl) ?_
      have hi_20 := SeesA.elem hi_2 o0 (show q_18 < d.l.length by omega)
      have hs_21 := seesO hi_20
      refine kK 13 rfl (by kernel_rfl) (NP.th (NP.bl (NP.th (NP.th (NP.bl (NP.th NP.body)))))) (by kernel_rfl) (by kernel_rfl) (by kernel_rfl) rfl rfl rfl (cB (dF h_17)) (kY (v := iv ((d.l.getD q_18 o0).t.seq)) hs_1 nM rfl kq (flat_at encO_len o0 d.l q_18 0 (by omega) (by decide))) <| jg 14 rfl (by kernel_rfl) (NP.th (NP.bl (NP.th (NP.th (NP.bl (NP.th NP.body)))))) (by kernel_rfl) (by kernel_rfl) rfl rfl rfl (cB (dF h_17)) (kR rfl rfl) <| jg 15 rfl (by kernel_rfl) (NP.th (NP.bl (NP.th (NP.th (NP.bl (NP.th NP.body)))))) (by kernel_rfl) (by kernel_rfl) rfl rfl rfl (cB h_16) (ji (v := .bool (decide (((d.l.getD q_18 o0).t.seq) < ((d.l.getD j o0).t.seq)))) (cB (dF h_17)) rfl) <| jL 16 rfl (jh (v := .bool (decide (((d.l.getD q_18 o0).t.seq) < ((d.l.getD j o0).t.seq)))) (cB h_16) rfl) <| kI (by kernel_rfl) <| jB ?_
      by_cases h_22 : ((d.l.getD q_18 o0).t.seq) < ((d.l.getD j o0).t.seq)
      · refine jW (cB (dT h_22)) <| jF <| jA (jD (v := nv j) rfl) <| jA (jG (v := nv j) rfl) <| jE <| jm <| jB <| jF <| jA (jc (c := ((j + 1 : Nat) : Int)) he_10 rfl (wr (by omega))) <| jA (jD (v := iv ((j + 1 : Nat) : Int)) rfl) ?_
        refine jE <| kB [1] (A := [bk b_3 31 [.slice d.a d.l.length d.c, str d.jt, iv d.js]]) rfl ?_
        refine jq (d.l.length - (j + 1)) (by omega) ⟨j + 1, by omega, he_5, he_6, (by first | rfl | (simp only [bestF]; first | (rw [if_pos ⟨by assumption, .inr (by rw [hq_19]; simp only [Int.toNat_natCast]; omega)⟩]; first | rfl | assumption) | (rw [if_neg (by rintro ⟨_, h_ | h_⟩ <;> first | omega | (simp only [hq_19, Int.toNat_natCast] at h_; omega))]; first | assumption | (rw [hq_19]; first | rfl | assumption)))), he_8, he_9, rfl, rfl, rfl⟩
      refine jR (cB (dF h_22)) <| jT <| jm <| jB <| jF <| jA (jc (c := ((j + 1 : Nat) : Int)) he_10 rfl (wr (by omega))) <| jA (jD (v := iv ((j + 1 : Nat) : Int)) rfl) <| jE <| kB [1] (A := [bk b_3 31 [.slice d.a d.l.length d.c, str d.jt, iv d.js]]) rfl ?_
      refine jq (d.l.length - (j + 1)) (by omega) ⟨j + 1, by omega, he_5, he_6, (by first | rfl | (simp only [bestF]; first | (rw [if_pos ⟨by assumption, .inr (by rw [hq_19]; simp only [Int.toNat_natCast]; omega)⟩]; first | rfl | assumption) | (rw [if_neg (by rintro ⟨_, h_ | h_⟩ <;> first | omega | (simp only [hq_19, Int.toNat_natCast] at h_; omega))]; first | assumption | (rw [hq_19]; first | rfl | assumption)))), he_8, he_9, rfl, rfl, rfl⟩
    refine jd 3 (b := false) rfl (by kernel_rfl) (NP.th (NP.bl (NP.th (NP.th (NP.bl (NP.th NP.body)))))) (by kernel_rfl) (by kernel_rfl) rfl rfl rfl (cB h_16) <| jd 4 (b := false) rfl (by kernel_rfl) (NP.th (NP.bl (NP.th (NP.th (NP.bl (NP.th NP.body)))))) (by kernel_rfl) (by kernel_rfl) rfl rfl rfl (cB h_16) <| jd 5 (b := false) rfl (by kernel_rfl) (NP.th (NP.bl (NP.th (NP.th (NP.bl (NP.th NP.body)))))) (by kernel_rfl) (by kernel_rfl) rfl rfl rfl (cB h_16) <| kE 6 rfl (by kernel_rfl) (NP.th (NP.bl (NP.th (NP.th (NP.bl (NP.th NP.body)))))) (by kernel_rfl) (by kernel_rfl) rfl rfl rfl rfl <| kE 7 rfl (by kernel_rfl) (NP.th (NP.bl (NP.th (NP.th (NP.bl (NP.th NP.body)))))) (by kernel_rfl) (by kernel_rfl) rfl rfl rfl rfl <| kE 8 rfl (by kernel_rfl) (NP.th (NP.bl (NP.th (NP.th (NP.bl (NP.th NP.body)))))) (by kernel_rfl) (by kernel_rfl) rfl rfl rfl rfl <| kE 9 rfl (by kernel_rfl) (NP.th (NP.bl (NP.th (NP.th (NP.bl (NP.th NP.body)))))) (by kernel_rfl) (by kernel_rfl) rfl rfl rfl rfl <| kE 10 rfl (by kernel_rfl) (NP.th (NP.bl (NP.th (NP.th (NP.bl (NP.th NP.body)))))) (by kernel_rfl) (by kernel_rfl) rfl rfl rfl rfl <| kE 11 rfl (by kernel_rfl) (NP.th (NP.bl (NP.th (NP.th (NP.bl (NP.th NP.body)))))) (by kernel_rfl) (by kernel_rfl) rfl rfl rfl rfl <| kE 12 rfl (by kernel_rfl) (NP.th (NP.bl (NP.th (NP.th (NP.bl (NP.th NP.body)))))) (by kernel_rfl) (by kernel_rfl) rfl rfl rfl rfl ?_
    refine kE 13 rfl (by kernel_rfl) (NP.th (NP.bl (NP.th (NP.th (NP.bl (NP.th NP.body)))))) (by kernel_rfl) (by kernel_rfl) rfl rfl rfl rfl <| kE 14 rfl (by kernel_rfl) (NP.th (NP.bl (NP.th (NP.th (NP.bl (NP.th NP.body)))))) (by kernel_rfl) (by kernel_rfl) rfl rfl rfl rfl <| jd 15 (b := false) rfl (by kernel_rfl) (NP.th (NP.bl (NP.th (NP.th (NP.bl (NP.th NP.body)))))) (by kernel_rfl) (by kernel_rfl) rfl rfl rfl (cB h_16) <| jL 16 rfl (ji (v := .bool false) (cB h_16) rfl) <| kI (by kernel_rfl) <| jB <| jR (cB rfl) <| jT <| jm <| jB ?_
    refine jF <| jA (jc (c := ((j + 1 : Nat) : Int)) he_10 rfl (wr (by omega))) <| jA (jD (v := iv ((j + 1 : Nat) : Int)) rfl) <| jE <| kB [1] (A := [bk b_3 31 [.slice d.a d.l.length d.c, str d.jt, iv d.js]]) rfl ?_
    refine jq (d.l.length - (j + 1)) (by omega) ⟨j + 1, by omega, he_5, he_6, (by simp only [bestF]; first | (rw [if_pos ⟨by assumption, .inl (by assumption)⟩]; first | rfl | assumption) | (rw [if_neg (by rintro ⟨h_, _⟩; simp_all)]; first | rfl | assumption)), he_8, he_9, rfl, rfl, rfl⟩
  refine jR (cB (dF h_11)) <| jx <| jb <| jb <| jy <| jB <| jC <| jF <| jA (jD (v := iv (bestF (fun i => (d.l.getD i o0).t) j)) he_7) <| jA (jG (v := iv (bestF (fun i => (d.l.getD i o0).t) j)) rfl) ?_
  refine jE <| jB <| jN <| jV (.inl rfl) rfl (jJ (v := iv (bestF (fun i => (d.l.getD i o0).t) j)) rfl) (List.nil_sublist _) ?_
  refine ⟨congrArg (Value.int .i64) ?_, rfl⟩
  rw [bestD_dat, show d.l.length = j by omega]

end Go.Proofs.YtjncpgcccgdeiaaGreatDoor

set_option linter.unusedSimpArgs false
set_option linter.unusedVariables false
set_option linter.unnecessarySimpa false
namespace Go.Proofs.YtjncpgcccgdeiaaGreatDoor
open Go Go.RowKit
section
variable {P : Program} {ops : Array Oper} {Q : Exit → Act → World → Prop} {n : Nat} {w0 w : World} {D : List Nat} {L : List Res} {e : Env}
variable {d : Option Tmp} {ty : TypeId} {pos : String} {aft : Array Edge} {gd : Option (Nat × Bool)}
theorem LO.toUnsafe (i : Nat) {src dst t el b : Nat} {cs : List Value} {x : Operand} {fr : Nat × Nat} (hL : L[i]? = some (.blk b (.cells cs.toArray el fr))) (hs : P.underlying src = some (.pointer t)) (hd : P.underlying dst = some .unsafePointer)
    (hx : rd n e x = .pointer (some ⟨b, 0, none⟩)) (ht : (P.info? t).map (·.size) = some 2) (h0 : 0 < cs.length) : LO P n w0 D L e ⟨d, .convert src dst x, ty, pos, aft, gd⟩ (.pointer (some ⟨b, 0, none⟩)) := fun w hw => by
  have hb : w.heap[b]? = some (.cells cs.toArray el fr) := hw.get hL
  have hsh : w.shape? b = some (el, cs.length) := by simp [World.shape?, hb]
  obtain ⟨j, hj, hjs⟩ := Option.map_eq_some_iff.1 ht
  have h := Lib.run_to_unsafe (P := P) w ⟨b, 0, none⟩ hs hd hj (by rw [hjs]; decide) hsh h0
  simp [execOp, hx, h]
theorem LO.fromUnsafe (i : Nat) {src dst t el b : Nat} {cs : List Value} {x : Operand} {fr : Nat × Nat} (hL : L[i]? = some (.blk b (.cells cs.toArray el fr))) (hs : P.underlying src = some .unsafePointer) (hd : P.underlying dst = some (.pointer t))
    (hx : rd n e x = .pointer (some ⟨b, 0, none⟩)) (ht : (P.info? t).map (·.size) = some 2) (hlies : liesAt P P.depth el (cs.length / P.cellsOf el) 0 t 1 = true) : LO P n w0 D L e ⟨d, .convert src dst x, ty, pos, aft, gd⟩ (.pointer (some ⟨b, 0, none⟩)) := fun w hw => by
  have hb : w.heap[b]? = some (.cells cs.toArray el fr) := hw.get hL
  have hsh : w.shape? b = some (el, cs.length) := by simp [World.shape?, hb]
  obtain ⟨j, hj, hjs⟩ := Option.map_eq_some_iff.1 ht
  have h := Lib.run_from_unsafe (P := P) w ⟨b, 0, none⟩ hs hd hj hsh hlies
  simp [execOp, hx, h]
theorem PO.noEscape {f : FuncId} {fn : Func} {x : Operand} {ats : Array TypeId} {v : Value} (hf : P.funcs[f]? = some fn) (hname : (fn.name == "runtime.NumGoroutine") = false) (hb : fn.body.isNone = true) (hn : Extern.findNext fn = none)
    (he : Extern.find fn = some Extern.AbiNoEscape.same) (hx : rd n e x = v) : PO P n e ⟨d, .call ⟨.value (.func f), #[x], ats⟩, ty, pos, aft, gd⟩ v := fun w => by
  have h := run_callFunc_extern hf hname hb hn he #[v] w
  have h0 : rd n e (.func f) = .func (.func f) #[] #[] := rfl
  simp [execOp, resolve, invoke, h0, Deferred.ofValue, hx, h, Lib.run_noEscape, Result.andThen]
theorem run_eql_ptr_nil {tp te : TypeId} {j : TypeInfo} (hp : P.underlying tp = some (.pointer te)) (hte : P.info? te = some j) (q : Option Addr) : (binOp .eql tp (.pointer q) (.pointer none)).run P w = .ok (.bool q.isNone) w := by
  have h : ∀ d : Nat, (Op.equalIn (d + 1) tp (.pointer q) (.pointer none)).run P w = .ok q.isNone w := fun d => by
    cases q <;> simp [Op.equalIn, run_underlying hp, sizeOf, typeInfo, hte, sameAddr]
  simp only [binOp]
  simp [Op.equal, Op.maxDepth, h 9999]
theorem PO.eqlPN {x y : Operand} {q : Option Addr} {t u te : TypeId} (hp : P.underlying t = some (.pointer te)) (ht : (P.info? te).map (·.size) = some 2) (hx : rd n e x = .pointer q) (hy : rd n e y = .pointer none) : PO P n e ⟨d, .binOp .eql t x y u, ty, pos, aft, gd⟩ (.bool q.isNone) := fun w => by
  obtain ⟨j, hte, _⟩ := Option.map_eq_some_iff.1 ht
  have h := run_eql_ptr_nil (w := w) hp hte q
  simp [execOp, hx, hy, eqGuard, h]
theorem PO.neqPP {x y : Operand} {a : Addr} {t u te : TypeId} (hp : P.underlying t = some (.pointer te)) (ht : (P.info? te).map (·.size) = some 2) (hx : rd n e x = .pointer (some a)) (hy : rd n e y = .pointer (some a)) : PO P n e ⟨d, .binOp .neq t x y u, ty, pos, aft, gd⟩ (.bool false) := fun w => by
  obtain ⟨j, hte, _⟩ := Option.map_eq_some_iff.1 ht
  have h := Lib.run_neq_ptr_same (P := P) (w := w) a hp hte
  simp [execOp, hx, hy, eqGuard, h]
theorem PO.sliceVlh {x lo hi : Operand} {a : Option Addr} {m c i j k : Nat} {q q' : IntKind} {t el : TypeId} (ht : P.underlying t = some (.slice el)) (hs : ∀ w, (sizeOf el).run P w = .ok k w) (ha : a.bind (·.spot) = none)
    (hx : rd n e x = .slice a m c) (hl : rd n e lo = .int q i) (hh : rd n e hi = .int q' j) (h1 : i ≤ j) (h2 : j ≤ c) : PO P n e ⟨d, .slice t x (some lo) (some hi) none, ty, pos, aft, gd⟩ (.slice (subA k a c i) (j - i) (c - i)) := fun w => by
  have hsub := sub_add (k := k) (c := c) (lo := i) ha
  simp [execOp, run_sliceAt_slice _ _ _ _ _ _ (elem_of ht), Instr.slice, run_underlying ht, hx, hl, hh, Instr.sliceBounds, Instr.sliceBound, asIntOf, hs, h1, h2, hsub]
theorem PO.indexSub {x y : Operand} {a : Option Addr} {m c lo : Nat} {k : IntKind} {i s : Nat} {t el : TypeId} (ht : P.underlying t = some (.slice el)) (hs : ∀ w, (sizeOf el).run P w = .ok s w) (ha : a.isSome = true) (hsp : a.bind (·.spot) = none)
    (hx : rd n e x = .slice (subA s a c lo) m (c - lo)) (hy : rd n e y = .int k i) (hi : i < m) (hc : lo + m ≤ c) : PO P n e ⟨d, .indexAddr t x y, ty, pos, aft, gd⟩ (elp a ((lo + i) * s)) := by
  cases a with
  | none => simp at ha
  | some q =>
    obtain ⟨b, o, sp⟩ := q
    simp only [Option.bind_some] at hsp
    subst hsp
    have e1 : subA s (some ⟨b, o, none⟩) c lo = some ⟨b, o + lo * s, none⟩ := by unfold subA; rw [if_neg (by omega)]; rfl
    rw [e1] at hx
    have h := jk (n := n) (e := e) (d := d) (ty := ty) (pos := pos) (aft := aft) (gd := gd) ht hs rfl rfl hx hy hi
    have e2 : elp (some ⟨b, o + lo * s, none⟩) (i * s) = elp (some ⟨b, o, none⟩) ((lo + i) * s) := by simp only [elp, Nat.add_mul, Nat.add_assoc]
    rw [e2] at h
    exact h
theorem PO.unsafeData {x : Operand} {a : Option Addr} {q : Addr} {m c : Nat} {ts : Array TypeId} (ha : a = some q) (hx : rd n e x = .slice a m c) (hc : c ≠ 0) : PO P n e ⟨d, .call ⟨.builtin .unsafeSliceData, #[x], ts⟩, ty, pos, aft, gd⟩ (.pointer (some q)) := fun w => by
  subst ha
  have h := fun ts ty => Lib.run_unsafeSliceData_row (P := P) (w := w) ts ty q m c hc
  simp [execOp, resolve, invoke, builtin, hx, h]
theorem freeze_at {w : World} {g m : Nat} {cur : Array Value} {t : TypeId} {fz : Nat × Nat} (h : w.heap[g]? = some (.cells cur t fz)) : ∃ fz', (w.freeze ⟨g, 0, none⟩ m).heap[g]? = some (.cells cur t fz') := by
  unfold World.freeze
  split
  · exact ⟨fz, h⟩
  · obtain ⟨lo, hi⟩ := fz
    refine ⟨if lo == hi then (0, 0 + m) else (min lo 0, max hi (0 + m)), ?_⟩
    simp [Array.getElem?_modify, h]
theorem freeze_other {w : World} {g k m : Nat} (h : k ≠ g) : (w.freeze ⟨g, 0, none⟩ m).heap[k]? = w.heap[k]? := by
  unfold World.freeze
  split
  · rfl
  · simp [Array.getElem?_modify, Ne.symm h]
theorem freeze_size (w : World) (g m : Nat) : (w.freeze ⟨g, 0, none⟩ m).heap.size = w.heap.size := by
  unfold World.freeze
  split <;> simp
theorem JO.unsafeStr (i : Nat) {x y : Operand} {g pt it : Nat} {cur : Array Value} {fz : Nat × Nat} {l : Str} (hL : L[i]? = some (.blk g (.cells cur TB fz))) (hp : P.underlying pt = some (.pointer TB)) (hc : P.cellsOf TB = 1)
    (hx : rd n e x = .pointer (some ⟨g, 0, none⟩)) (hy : rd n e y = .int .i64 l.length) (h0 : l ≠ []) (hn : l.length ≤ cur.size) (h63 : l.length ≤ 9223372036854775807) (ht : cur.toList.take l.length = l.map encB) :
    JO P n w0 D L e ⟨d, .call ⟨.builtin .unsafeString, #[x, y], #[pt, it]⟩, ty, pos, aft, gd⟩ (fun v L' => ∃ fz', v = str l ∧ L' = L.set i (.blk g (.cells cur TB fz'))) := JO.ofRun fun w hw => by
  have hb : w.heap[g]? = some (.cells cur TB fz) := hw.get hL
  have hlt := (Array.getElem?_eq_some_iff.1 hb).1
  have hrun := Lib.run_unsafeString_row (P := P) w pt it ty TB hp hc g cur.size (by simp [World.shape?, hb]) l h0 hn h63 (fun j b hj => by
    have e1 : (cur.toList.take l.length)[j]? = some (encB b) := by rw [ht, List.getElem?_map, hj]; rfl
    have hjl : j < l.length := (List.getElem?_eq_some_iff.1 hj).1
    rw [List.getElem?_take, if_pos hjl] at e1
    have hadd : (⟨g, 0, none⟩ : Addr).add j = ⟨g, 0 + j, none⟩ := by unfold Addr.add; split <;> simp_all
    rw [hadd, Nat.zero_add, cell_of_row w g j cur TB fz hb]
    simpa [encB] using e1)
  obtain ⟨fz', hfz⟩ := freeze_at (m := l.length) hb
  refine ⟨str l, _, w.freeze ⟨g, 0, none⟩ l.length, ?_, ⟨fz', rfl, rfl⟩, ?_⟩
  · simp [execOp, resolve, invoke, builtin, hx, hy, hrun, str]
  · refine hw.turn1 hL (by unfold World.freeze; split <;> rfl) (by unfold World.freeze; split <;> rfl) (by unfold World.freeze; split <;> rfl) (Nat.le_of_eq (freeze_size w g l.length).symm) (fun k _ hk => freeze_other (by simpa [Res.ids] using hk)) hfz (by simp [Res.ids]) (fun i hi => .inl hi)
/-- A row that is not empty is a block. -/
theorem row_blk {i m t k c : Nat} {a : Option Addr} {xs : List Value} {w : World} (hw : St w0 D L w) (hL : L[i]? = some (.row (.slice a m c) t k m xs)) (hm : 0 < m) :
    ∃ g cur fz, a = some ⟨g, 0, none⟩ ∧ m ≤ c ∧ c ≤ maxLen ∧ c * k ≤ cur.size ∧ cur.toList.take (m * k) = xs ∧ St w0 D (L.set i (.blk g (.cells cur t fz))) w := by
  have h := hw.get hL
  rcases h.2 with ⟨_, h0⟩ | ⟨g, cap, cur, hv, hb, ⟨fz, hg, _⟩, h1, h2, h3, h4⟩
  · omega
  · simp only [Value.slice.injEq] at hv
    obtain ⟨rfl, _, rfl⟩ := hv
    refine ⟨g, cur, fz, rfl, h1, h2, h3, h4, ?_⟩
    refine hw.turn1 hL rfl rfl rfl (Nat.le_refl _) (fun _ _ _ => rfl) hg (by simp [Res.ids]) (fun i hi => .inl ?_)
    simpa [Res.ids, Value.ownBlock] using hi
theorem JC.rowBlk (i : Nat) {m t k c : Nat} {a : Option Addr} {xs : List Value} {z : Code} (hL : L[i]? = some (.row (.slice a m c) t k m xs)) (hm : 0 < m)
    (h : ∀ g cur fz, a = some ⟨g, 0, none⟩ → m ≤ c → c ≤ maxLen → c * k ≤ cur.size → cur.toList.take (m * k) = xs → JC P Q n w0 D (L.set i (.blk g (.cells cur t fz))) z e) : JC P Q n w0 D L z e := fun w hw => by
  obtain ⟨g, cur, fz, h1, h2, h3, h4, h5, h6⟩ := row_blk hw hL hm
  exact h g cur fz h1 h2 h3 h4 h5 w h6
end
end Go.Proofs.YtjncpgcccgdeiaaGreatDoor

set_option linter.unusedSimpArgs false
set_option linter.unusedVariables false
set_option linter.unnecessarySimpa false
namespace Go.Proofs.YtjncpgcccgdeiaaGreatDoor
open Go Go.RowKit
attribute [local irreducible] JL JC JQ JO LO PO JA JX Ct

theorem fo93_0 : FieldOff Tryz.prog 93 0 0 := FieldOff.mk Tryz.underlying93 rfl rfl rfl Tryz.sizeOf91
theorem fo93_1 : FieldOff Tryz.prog 93 1 1 := FieldOff.mk Tryz.underlying93 rfl rfl rfl Tryz.sizeOf39
theorem Y_cc0 (b : Nat) (sa : Option Addr) (m sc : Nat) :
    Ct Tryz.prog 120 [.pointer (some ⟨b, 0, none⟩)] [bk b 93 [.pointer none, .slice sa m sc]] (fun _ => True) (fun v A' => v = .tuple #[] ∧ A' = [bk b 93 [.pointer (some ⟨b, 0, none⟩), .slice sa m sc]]) := by
  refine Ct.intro Tryz.func120 rfl Tryz.ntmps120 (lb rfl) fun w0 hpre => ?_
  refine jC <| jF <| jA (jD (v := .pointer (some ⟨b, 0, none⟩)) rfl) <| jA (PO.nilCheck rfl) <| jA (jQ fo93_0 rfl) <| jK (jZ 0 (v := .pointer none) rfl rfl Tryz.isAgg91 rfl) <| jA (PO.eqlPN Tryz.underlying91 (by kernel_rfl) rfl rfl) <| jE <| jB <| jW (cB rfl) ?_
  refine jF <| jA (jD (v := .pointer (some ⟨b, 0, none⟩)) rfl) <| jA (jD (v := .pointer (some ⟨b, 0, none⟩)) rfl) <| jK (LO.toUnsafe 0 rfl Tryz.underlying91 Tryz.underlying152 rfl (by kernel_rfl) (lb rfl)) <| jA (PO.noEscape Tryz.func151 (by kernel_rfl) (by kernel_rfl) (by kernel_rfl) (by kernel_rfl) rfl) <| jK (LO.fromUnsafe 0 rfl Tryz.underlying152 Tryz.underlying91 rfl (by kernel_rfl) (by kernel_rfl)) <| jA (PO.nilCheck rfl) <| jA (jQ fo93_0 rfl) ?_
  refine jH rfl (ja 0 (vs := [.pointer (some ⟨b, 0, none⟩)]) (cs' := [.pointer (some ⟨b, 0, none⟩), .slice sa m sc]) rfl rfl rfl rfl Tryz.sizeOf91 rfl rfl (lb rfl) rfl) ?_
  rintro _ _ rfl
  refine jE <| Done.none (.inr rfl) rfl (List.Sublist.refl _) ?_
  exact ⟨rfl, rfl⟩

theorem Y_cc1 (b : Nat) (sa : Option Addr) (m sc : Nat) :
    Ct Tryz.prog 120 [.pointer (some ⟨b, 0, none⟩)] [bk b 93 [.pointer (some ⟨b, 0, none⟩), .slice sa m sc]] (fun _ => True) (fun v A' => v = .tuple #[] ∧ A' = [bk b 93 [.pointer (some ⟨b, 0, none⟩), .slice sa m sc]]) := by
  refine Ct.intro Tryz.func120 rfl Tryz.ntmps120 (lb rfl) fun w0 hpre => ?_
  refine jC <| jF <| jA (jD (v := .pointer (some ⟨b, 0, none⟩)) rfl) <| jA (PO.nilCheck rfl) <| jA (jQ fo93_0 rfl) <| jK (jZ 0 (v := .pointer (some ⟨b, 0, none⟩)) rfl rfl Tryz.isAgg91 rfl) <| jA (PO.eqlPN Tryz.underlying91 (by kernel_rfl) rfl rfl) <| jE <| jB <| jR (cB rfl) ?_
  refine jC <| jF <| jA (jD (v := .pointer (some ⟨b, 0, none⟩)) rfl) <| jA (PO.nilCheck rfl) <| jA (jQ fo93_0 rfl) <| jK (jZ 0 (v := .pointer (some ⟨b, 0, none⟩)) rfl rfl Tryz.isAgg91 rfl) <| jA (jD (v := .pointer (some ⟨b, 0, none⟩)) rfl) <| jA (PO.neqPP Tryz.underlying91 (by kernel_rfl) rfl rfl) <| jE <| jB ?_
  refine jR (cB rfl) <| jT <| Done.none (.inr rfl) rfl (List.Sublist.refl _) ?_
  exact ⟨rfl, rfl⟩

theorem Y_ws0 (b : Nat) (sa : Option Addr) (sc : Nat) (l s : Str) (hl : l.length ≤ 100000000) (hs : s.length ≤ 100000000) :
    Ct Tryz.prog 77 [.pointer (some ⟨b, 0, none⟩), str s] [bk b 93 [.pointer none, .slice sa l.length sc], Res.row (.slice sa l.length sc) 5 1 l.length (l.map encB)] (fun _ => True) (fun v A' => ∃ a c, v = .tuple #[.int .i64 ((s.length : Nat) : Int), .nilIface] ∧ A' = [bk b 93 [.pointer (some ⟨b, 0, none⟩), .slice a (l ++ s).length c], .row (.slice a (l ++ s).length c) 5 1 (l ++ s).length ((l ++ s).map encB)]) := by
  refine Ct.intro Tryz.func77 rfl Tryz.ntmps77 (lb rfl) fun w0 hpre => ?_
  refine jC <| jF <| jA (jG (v := iv 0) rfl) <| jA (jG (v := .nilIface) rfl) <| jE <| jB <| jC <| jF <| jA (jD (v := .pointer (some ⟨b, 0, none⟩)) rfl) ?_
  refine jH rfl (jI [0] Tryz.call120 rfl (Y_cc0 b sa l.length sc) rfl (fun _ _ => trivial)) ?_
  rintro _ _ ⟨_, ⟨rfl, rfl⟩, rfl⟩
  refine jE <| jB <| jC <| jF <| jA (jD (v := .pointer (some ⟨b, 0, none⟩)) rfl) <| jA (jD (v := .pointer (some ⟨b, 0, none⟩)) rfl) <| jA (PO.nilCheck rfl) <| jA (jQ fo93_1 rfl) <| jK (jZ 0 (v := .slice sa l.length sc) rfl rfl Tryz.isAgg39 rfl) <| jA (jD (v := str s) rfl) ?_
  refine jH rfl (JO.appendS' 1 (q := s.length) (news := s.map encB) (n' := (l ++ s).length) (cs' := (l ++ s).map encB) rfl kr kg Tryz.typeInfo5 rfl (by' := 1) rfl rfl rfl rfl rfl (fun w hw => Src.str s) (by (try simp only [List.length_append, List.length_cons, List.length_nil]); omega) (by (try simp only [List.length_append, List.length_cons, List.length_nil]); omega) (by simp only [List.length_append]) (by simp only [List.map_append])) ?_
  rintro _ _ ⟨a_1, c_2, rfl, rfl⟩
  refine jA (PO.nilCheck rfl) <| jA (jQ fo93_1 rfl) ?_
  refine jH rfl (ja 0 (vs := [.slice a_1 ((l ++ s).length) c_2]) (cs' := [.pointer (some ⟨b, 0, none⟩), .slice a_1 ((l ++ s).length) c_2]) rfl rfl rfl rfl Tryz.sizeOf39 rfl rfl (lb rfl) rfl) ?_
  rintro _ _ rfl
  refine jE <| jB <| jC <| jF <| jA (jD (v := str s) rfl) <| jA (kF kg rfl) <| jA (jG (v := iv (s.length : Int)) rfl) <| jA (jG (v := .nilIface) rfl) <| jE <| jB ?_
  refine jN <| kC (.inl rfl) rfl (jJ (v := iv (s.length : Int)) rfl) (jJ (v := .nilIface) rfl) (List.Sublist.refl _) ?_
  exact ⟨_, _, rfl, rfl⟩

theorem Y_ws1 (b : Nat) (sa : Option Addr) (sc : Nat) (l s : Str) (hl : l.length ≤ 100000000) (hs : s.length ≤ 100000000) :
    Ct Tryz.prog 77 [.pointer (some ⟨b, 0, none⟩), str s] [bk b 93 [.pointer (some ⟨b, 0, none⟩), .slice sa l.length sc], Res.row (.slice sa l.length sc) 5 1 l.length (l.map encB)] (fun _ => True) (fun v A' => ∃ a c, v = .tuple #[.int .i64 ((s.length : Nat) : Int), .nilIface] ∧ A' = [bk b 93 [.pointer (some ⟨b, 0, none⟩), .slice a (l ++ s).length c], .row (.slice a (l ++ s).length c) 5 1 (l ++ s).length ((l ++ s).map encB)]) := by
  refine Ct.intro Tryz.func77 rfl Tryz.ntmps77 (lb rfl) fun w0 hpre => ?_
  refine jC <| jF <| jA (jG (v := iv 0) rfl) <| jA (jG (v := .nilIface) rfl) <| jE <| jB <| jC <| jF <| jA (jD (v := .pointer (some ⟨b, 0, none⟩)) rfl) ?_
  refine jH rfl (jI [0] Tryz.call120 rfl (Y_cc1 b sa l.length sc) rfl (fun _ _ => trivial)) ?_
  rintro _ _ ⟨_, ⟨rfl, rfl⟩, rfl⟩
  refine jE <| jB <| jC <| jF <| jA (jD (v := .pointer (some ⟨b, 0, none⟩)) rfl) <| jA (jD (v := .pointer (some ⟨b, 0, none⟩)) rfl) <| jA (PO.nilCheck rfl) <| jA (jQ fo93_1 rfl) <| jK (jZ 0 (v := .slice sa l.length sc) rfl rfl Tryz.isAgg39 rfl) <| jA (jD (v := str s) rfl) ?_
  refine jH rfl (JO.appendS' 1 (q := s.length) (news := s.map encB) (n' := (l ++ s).length) (cs' := (l ++ s).map encB) rfl kr kg Tryz.typeInfo5 rfl (by' := 1) rfl rfl rfl rfl rfl (fun w hw => Src.str s) (by (try simp only [List.length_append, List.length_cons, List.length_nil]); omega) (by (try simp only [List.length_append, List.length_cons, List.length_nil]); omega) (by simp only [List.length_append]) (by simp only [List.map_append])) ?_
  rintro _ _ ⟨a_1, c_2, rfl, rfl⟩
  refine jA (PO.nilCheck rfl) <| jA (jQ fo93_1 rfl) ?_
  refine jH rfl (ja 0 (vs := [.slice a_1 ((l ++ s).length) c_2]) (cs' := [.pointer (some ⟨b, 0, none⟩), .slice a_1 ((l ++ s).length) c_2]) rfl rfl rfl rfl Tryz.sizeOf39 rfl rfl (lb rfl) rfl) ?_
  rintro _ _ rfl
  refine jE <| jB <| jC <| jF <| jA (jD (v := str s) rfl) <| jA (kF kg rfl) <| jA (jG (v := iv (s.length : Int)) rfl) <| jA (jG (v := .nilIface) rfl) <| jE <| jB ?_
  refine jN <| kC (.inl rfl) rfl (jJ (v := iv (s.length : Int)) rfl) (jJ (v := .nilIface) rfl) (List.Sublist.refl _) ?_
  exact ⟨_, _, rfl, rfl⟩

theorem Y_blen (b : Nat) (u : Option Addr) (sa : Option Addr) (m sc : Nat) :
    Ct Tryz.prog 79 [.pointer (some ⟨b, 0, none⟩)] [bk b 93 [.pointer u, .slice sa m sc]] (fun _ => True) (fun v A' => v = .int .i64 ((m : Nat) : Int) ∧ A' = [bk b 93 [.pointer u, .slice sa m sc]]) := by
  refine Ct.intro Tryz.func79 rfl Tryz.ntmps79 (lb rfl) fun w0 hpre => ?_
  refine jC <| jF <| jA (jG (v := iv 0) rfl) <| jE <| jB <| jC <| jF <| jA (jD (v := .pointer (some ⟨b, 0, none⟩)) rfl) <| jA (PO.nilCheck rfl) <| jA (jQ fo93_1 rfl) ?_
  refine jK (jZ 0 (v := .slice sa m sc) rfl rfl Tryz.isAgg39 rfl) <| jA (jr kr rfl) <| jA (jG (v := nv m) rfl) <| jE <| jB <| jN <| jV (.inl rfl) rfl (jJ (v := nv m) rfl) (List.Sublist.refl _) ?_
  exact ⟨rfl, rfl⟩

end Go.Proofs.YtjncpgcccgdeiaaGreatDoor

set_option linter.unusedSimpArgs false
set_option linter.unusedVariables false
set_option linter.unnecessarySimpa false
namespace Go.Proofs.YtjncpgcccgdeiaaGreatDoor
open Go Go.RowKit
theorem ix_cases (c : UInt8) : ∀ s : Str, (Lib.indexByte s c = -1 ∧ ∀ x ∈ s, x ≠ c) ∨ (∃ i : Nat, Lib.indexByte s c = ((i : Nat) : Int) ∧ i < s.length ∧ (∀ k, k < i → s.getD k 0 ≠ c) ∧ s.getD i 0 = c)
  | [] => .inl ⟨rfl, fun _ h => by cases h⟩
  | b :: s => by
    by_cases hb : b = c
    · subst hb
      exact .inr ⟨0, by simp [Lib.indexByte], by simp, fun k h => absurd h (Nat.not_lt_zero k), rfl⟩
    · have hb' : (b == c) = false := by simpa using hb
      rcases ix_cases c s with ⟨h1, h2⟩ | ⟨i, h1, h2, h3, h4⟩
      · refine .inl ⟨by simp [Lib.indexByte, hb', h1], fun x hx => ?_⟩
        rcases List.mem_cons.1 hx with rfl | hx
        · exact hb
        · exact h2 x hx
      · refine .inr ⟨i + 1, ?_, by simp; omega, fun k hk => ?_, by simpa using h4⟩
        · have : ¬ (((i : Nat) : Int) = -1) := by omega
          simp [Lib.indexByte, hb', h1, this]
        · cases k with
          | zero => simpa using hb
          | succ k => simpa using h3 k (by omega)
theorem front_no {c : UInt8} {s : Str} {i : Nat} (hi : i ≤ s.length) (h : ∀ k, k < i → s.getD k 0 ≠ c) : ∀ x ∈ s.take i, x ≠ c := by
  have := drop_no (s := s) (c := c) (b := 0) (i := i) hi (fun k _ hk => h k hk)
  simpa using this
theorem cut_at {c : UInt8} {s : Str} {i : Nat} (hi : i < s.length) (hc : s.getD i 0 = c) : s = s.take i ++ c :: s.drop (i + 1) := by
  have h1 := (List.take_append_drop i s).symm
  rw [drop_at (getD_some (d := 0) hi), hc] at h1
  exact h1
theorem split_first {c : UInt8} {s : Str} {i : Nat} (hi : i < s.length) (hN : ∀ k, k < i → s.getD k 0 ≠ c) (hc : s.getD i 0 = c) : splitB c s = s.take i :: splitB c (s.drop (i + 1)) := by
  have := split_cut (s := s) (c := c) (b := 0) (i := i) hi (Nat.zero_le _) (fun k _ hk => hN k hk) hc
  simpa using this
theorem splitB_count (c : UInt8) : ∀ s : Str, (splitB c s).length = s.count c + 1
  | [] => rfl
  | x :: s => by
    have ih := splitB_count c s
    unfold splitB
    by_cases h : x = c
    · subst h; rw [if_pos rfl, List.length_cons, ih, List.count_cons_self]
    · rw [if_neg h, List.length_cons, List.length_tail, ih, List.count_cons_of_ne h]; omega
theorem cutB_no {c : UInt8} : ∀ {s : Str}, (∀ x ∈ s, x ≠ c) → cutB c s = (s, [])
  | [], _ => rfl
  | x :: s, h => by
    rw [cutB, if_neg (h x (List.mem_cons_self ..)), cutB_no fun y hy => h y (List.mem_cons_of_mem _ hy)]
theorem cutB_app {c : UInt8} : ∀ {a : Str} (r : Str), (∀ x ∈ a, x ≠ c) → cutB c (a ++ c :: r) = (a, r)
  | [], r, _ => by simp [cutB]
  | x :: a, r, h => by
    rw [List.cons_append, cutB, if_neg (h x (List.mem_cons_self ..)), cutB_app r fun y hy => h y (List.mem_cons_of_mem _ hy)]
theorem cutB_first {c : UInt8} {s : Str} {i : Nat} (hi : i < s.length) (hN : ∀ k, k < i → s.getD k 0 ≠ c) (hc : s.getD i 0 = c) : cutB c s = (s.take i, s.drop (i + 1)) := by
  have h := cutB_app (c := c) (a := s.take i) (s.drop (i + 1)) (front_no (by omega) hN)
  rw [← cut_at hi hc] at h
  exact h
theorem linesG_no : ∀ {s : Str} (b : Str), (∀ x ∈ s, x ≠ 10) → linesG b s = []
  | [], _, _ => rfl
  | x :: s, b, h => by
    rw [linesG, if_neg (h x (List.mem_cons_self ..)), linesG_no _ fun y hy => h y (List.mem_cons_of_mem _ hy)]
theorem linesG_app : ∀ {a : Str} (b r : Str), (∀ x ∈ a, x ≠ 10) → linesG b (a ++ 10 :: r) = (b ++ a ++ [10]) :: linesG [] r
  | [], b, r, _ => by simp [linesG]
  | x :: a, b, r, h => by
    rw [List.cons_append, linesG, if_neg (h x (List.mem_cons_self ..)), linesG_app _ r fun y hy => h y (List.mem_cons_of_mem _ hy)]
    simp
theorem lines_no {s : Str} (h : ∀ x ∈ s, x ≠ 10) : linesOf s = [] := linesG_no [] h
theorem lines_first {s : Str} {i : Nat} (hi : i < s.length) (hN : ∀ k, k < i → s.getD k 0 ≠ 10) (hc : s.getD i 0 = 10) : linesOf s = s.take (i + 1) :: linesOf (s.drop (i + 1)) := by
  have h := linesG_app (a := s.take i) [] (s.drop (i + 1)) (front_no (by omega) hN)
  rw [← cut_at hi hc, List.nil_append] at h
  rw [linesOf, h, take_at (getD_some (d := 0) hi), hc]
  rfl
theorem suffix_line {s : Str} {i : Nat} (hi : i < s.length) (hc : s.getD i 0 = 10) : Lib.hasSuffix (s.take (i + 1)) [10] = true := by
  rw [take_at (getD_some (d := 0) hi), hc]
  unfold Lib.hasSuffix
  rw [List.isSuffixOf_iff_suffix]
  exact List.suffix_append _ _
theorem suffix_none {s : Str} (h : ∀ x ∈ s, x ≠ 10) : Lib.hasSuffix s [10] = false := by
  unfold Lib.hasSuffix
  rw [Bool.eq_false_iff]
  intro hs
  rw [List.isSuffixOf_iff_suffix] at hs
  exact h 10 (hs.subset (List.mem_singleton_self _)) rfl
theorem fillS (m : Nat) : (List.replicate m [str []]).flatten = (List.replicate m ([] : Str)).map str := by
  induction m with
  | zero => rfl
  | succ m ih => rw [List.replicate_succ, List.flatten_cons, ih, List.replicate_succ, List.map_cons]; rfl
theorem drop_head {α : Type} {l r : List α} {x d : α} {i : Nat} (h : l.drop i = x :: r) : l.getD i d = x ∧ l.drop (i + 1) = r ∧ i < l.length := by
  have hi : i < l.length := by
    rcases Nat.lt_or_ge i l.length with h1 | h1
    · exact h1
    · rw [List.drop_of_length_le h1] at h; cases h
  rw [drop_at (getD_some (d := d) hi)] at h
  simp only [List.cons.injEq] at h
  exact ⟨h.1, h.2, hi⟩
theorem split_last {c : UInt8} {t : Str} (h : (splitB c t).length = 1) : splitB c t = [t] := by
  cases hq : splitB c t with
  | nil => exact absurd hq (splitB_ne c t)
  | cons p r =>
    cases r with
    | nil => rw [splitB_single c t p hq]
    | cons p2 r2 => rw [hq] at h; simp at h
theorem dec_pos (n : Int) : 0 < (dec n).length := by
  have h : ∀ k, 0 < (Lib.decDigits k).length := fun k => by
    rw [Lib.decDigits]
    split <;> simp
  unfold dec Lib.itoa
  split
  · simp
  · exact h _
end Go.Proofs.YtjncpgcccgdeiaaGreatDoor

namespace Go.Proofs
open Go.Shelf
def Tryz.lays143_ren : Go.Shelf.Ren := ⟨fun | 143 => 164 | 219 => 169 | 217 => 191 | 225 => 192 | 224 => 193 | 267 => 194 | 266 => 204 | 314 => 205 | n => n, fun | 9 => 9 | 3 => 3 | 4 => 4 | 5 => 5 | 46 => 151 | 146 => 201 | 51 => 187 | n => n, fun | 1 => 0 | n => n⟩
theorem Tryz.lays143 : Go.Proofs.Lays.n143 Tryz.prog Tryz.lays143_ren := {
  mixed := by kernel_rfl
  f143 := Tryz.func164.trans (congrArg some (by kernel_rfl))
  f217 := Tryz.func191.trans (congrArg some (by kernel_rfl))
  f219 := Tryz.func169.trans (congrArg some (by kernel_rfl))
  f224 := Tryz.func193.trans (congrArg some (by kernel_rfl))
  f225 := Tryz.func192.trans (congrArg some (by kernel_rfl))
  f266 := Tryz.func204.trans (congrArg some (by kernel_rfl))
  f267 := Tryz.func194.trans (congrArg some (by kernel_rfl))
  f314 := Tryz.func205.trans (congrArg some (by kernel_rfl))
  t3 := Tryz.underlying3
  a3 := Tryz.isAgg3
  z3 := Tryz.sizeOf3
  v3 := Tryz.zeroValue3
  t4 := Tryz.underlying4
  a4 := Tryz.isAgg4
  z4 := Tryz.sizeOf4
  v4 := Tryz.zeroValue4
  t5 := Tryz.underlying5
  a5 := Tryz.isAgg5
  z5 := Tryz.sizeOf5
  v5 := Tryz.zeroValue5
  t9 := Tryz.underlying9
  a9 := Tryz.isAgg9
  z9 := Tryz.sizeOf9
  v9 := Tryz.zeroValue9
  t46 := Tryz.underlying151
  a46 := Tryz.isAgg151
  z46 := Tryz.sizeOf151
  v46 := Tryz.zeroValue151
  t51 := Tryz.underlying187
  a51 := Tryz.isAgg187
  z51 := Tryz.sizeOf187
  v51 := Tryz.zeroValue187
  t146 := Tryz.underlying201
  a146 := Tryz.isAgg201
  z146 := Tryz.sizeOf201
  v146 := Tryz.zeroValue201
  g1 := by kernel_rfl }
open Go.RowKit Go.Lib in
theorem Tryz.strings_Index_one (s : ByteArray) (c : UInt8) (w : World) :
    Calls Tryz.prog 164 #[.string s, .string ⟨#[c]⟩] w fun e w' => e = .returned (.int .i64 (Lib.indexByte s.data.toList c)) ∧ w' = w := Any.strings_Index_one Tryz.lays143 s c w
def Tryz.lays138_ren : Go.Shelf.Ren := ⟨fun | 138 => 166 | 195 => 184 | 218 => 185 | 143 => 164 | 219 => 169 | 217 => 191 | 225 => 192 | 224 => 193 | 267 => 194 | 266 => 204 | 314 => 205 | n => n, fun | 9 => 9 | 3 => 3 | 4 => 4 | 5 => 5 | 0 => 0 | 46 => 151 | 146 => 201 | 51 => 187 | n => n, fun | 1 => 0 | n => n⟩
theorem Tryz.lays138 : Go.Proofs.Lays.n138 Tryz.prog Tryz.lays138_ren := {
  mixed := by kernel_rfl
  f138 := Tryz.func166.trans (congrArg some (by kernel_rfl))
  f143 := Tryz.func164.trans (congrArg some (by kernel_rfl))
  f195 := Tryz.func184.trans (congrArg some (by kernel_rfl))
  f217 := Tryz.func191.trans (congrArg some (by kernel_rfl))
  f218 := Tryz.func185.trans (congrArg some (by kernel_rfl))
  f219 := Tryz.func169.trans (congrArg some (by kernel_rfl))
  f224 := Tryz.func193.trans (congrArg some (by kernel_rfl))
  f225 := Tryz.func192.trans (congrArg some (by kernel_rfl))
  f266 := Tryz.func204.trans (congrArg some (by kernel_rfl))
  f267 := Tryz.func194.trans (congrArg some (by kernel_rfl))
  f314 := Tryz.func205.trans (congrArg some (by kernel_rfl))
  t0 := Tryz.underlying0
  a0 := Tryz.isAgg0
  z0 := Tryz.sizeOf0
  v0 := Tryz.zeroValue0
  t3 := Tryz.underlying3
  a3 := Tryz.isAgg3
  z3 := Tryz.sizeOf3
  v3 := Tryz.zeroValue3
  t4 := Tryz.underlying4
  a4 := Tryz.isAgg4
  z4 := Tryz.sizeOf4
  v4 := Tryz.zeroValue4
  t5 := Tryz.underlying5
  a5 := Tryz.isAgg5
  z5 := Tryz.sizeOf5
  v5 := Tryz.zeroValue5
  t9 := Tryz.underlying9
  a9 := Tryz.isAgg9
  z9 := Tryz.sizeOf9
  v9 := Tryz.zeroValue9
  t46 := Tryz.underlying151
  a46 := Tryz.isAgg151
  z46 := Tryz.sizeOf151
  v46 := Tryz.zeroValue151
  t51 := Tryz.underlying187
  a51 := Tryz.isAgg187
  z51 := Tryz.sizeOf187
  v51 := Tryz.zeroValue187
  t146 := Tryz.underlying201
  a146 := Tryz.isAgg201
  z146 := Tryz.sizeOf201
  v146 := Tryz.zeroValue201
  g1 := by kernel_rfl }
open Go.RowKit Go.Lib in
theorem Tryz.strings_Count_one (s : ByteArray) (c : UInt8) (w : World) :
    Calls Tryz.prog 166 #[.string s, .string ⟨#[c]⟩] w fun e w' => e = .returned (.int .i64 (Lib.countByte s.data.toList c)) ∧ w' = w := Any.strings_Count_one Tryz.lays138 s c w
def Tryz.lays100_ren : Go.Shelf.Ren := ⟨fun | 100 => 111 | 207 => 143 | n => n, fun | 9 => 9 | 4 => 4 | 3 => 3 | n => n, fun | n => n⟩
theorem Tryz.lays100 : Go.Proofs.Lays.n100 Tryz.prog Tryz.lays100_ren := {
  mixed := by kernel_rfl
  f100 := Tryz.func111.trans (congrArg some (by kernel_rfl))
  f207 := Tryz.func143.trans (congrArg some (by kernel_rfl))
  t3 := Tryz.underlying3
  a3 := Tryz.isAgg3
  z3 := Tryz.sizeOf3
  v3 := Tryz.zeroValue3
  t4 := Tryz.underlying4
  a4 := Tryz.isAgg4
  z4 := Tryz.sizeOf4
  v4 := Tryz.zeroValue4
  t9 := Tryz.underlying9
  a9 := Tryz.isAgg9
  z9 := Tryz.sizeOf9
  v9 := Tryz.zeroValue9 }
open Go.RowKit Go.Lib in
theorem Tryz.strings_HasSuffix (s p : ByteArray) (w : World) (hs : s.size ≤ 9223372036854775807) :
    Calls Tryz.prog 111 #[.string s, .string p] w fun e w' => e = .returned (.bool (Lib.hasSuffix s.data.toList p.data.toList)) ∧ w' = w := Any.strings_HasSuffix Tryz.lays100 s p w hs
def Tryz.lays219_ren : Go.Shelf.Ren := ⟨fun | 219 => 169 | 217 => 191 | 225 => 192 | 224 => 193 | 267 => 194 | 266 => 204 | 314 => 205 | n => n, fun | 9 => 9 | 3 => 3 | 4 => 4 | 5 => 5 | 46 => 151 | 146 => 201 | 51 => 187 | n => n, fun | 1 => 0 | n => n⟩
theorem Tryz.lays219 : Go.Proofs.Lays.n219 Tryz.prog Tryz.lays219_ren := {
  mixed := by kernel_rfl
  f217 := Tryz.func191.trans (congrArg some (by kernel_rfl))
  f219 := Tryz.func169.trans (congrArg some (by kernel_rfl))
  f224 := Tryz.func193.trans (congrArg some (by kernel_rfl))
  f225 := Tryz.func192.trans (congrArg some (by kernel_rfl))
  f266 := Tryz.func204.trans (congrArg some (by kernel_rfl))
  f267 := Tryz.func194.trans (congrArg some (by kernel_rfl))
  f314 := Tryz.func205.trans (congrArg some (by kernel_rfl))
  t3 := Tryz.underlying3
  a3 := Tryz.isAgg3
  z3 := Tryz.sizeOf3
  v3 := Tryz.zeroValue3
  t4 := Tryz.underlying4
  a4 := Tryz.isAgg4
  z4 := Tryz.sizeOf4
  v4 := Tryz.zeroValue4
  t5 := Tryz.underlying5
  a5 := Tryz.isAgg5
  z5 := Tryz.sizeOf5
  v5 := Tryz.zeroValue5
  t9 := Tryz.underlying9
  a9 := Tryz.isAgg9
  z9 := Tryz.sizeOf9
  v9 := Tryz.zeroValue9
  t46 := Tryz.underlying151
  a46 := Tryz.isAgg151
  z46 := Tryz.sizeOf151
  v46 := Tryz.zeroValue151
  t51 := Tryz.underlying187
  a51 := Tryz.isAgg187
  z51 := Tryz.sizeOf187
  v51 := Tryz.zeroValue187
  t146 := Tryz.underlying201
  a146 := Tryz.isAgg201
  z146 := Tryz.sizeOf201
  v146 := Tryz.zeroValue201
  g1 := by kernel_rfl }
open Go.RowKit Go.Lib in
theorem Tryz.stringslite_Index_one (s : ByteArray) (c : UInt8) (w : World) :
    Calls Tryz.prog 169 #[.string s, .string ⟨#[c]⟩] w fun e w' => e = .returned (.int .i64 (Lib.indexByte s.data.toList c)) ∧ w' = w := Any.stringslite_Index_one Tryz.lays219 s c w
end Go.Proofs

set_option linter.unusedSimpArgs false
set_option linter.unusedVariables false
set_option linter.unnecessarySimpa false
namespace Go.Proofs.YtjncpgcccgdeiaaGreatDoor
open Go Go.RowKit

theorem C_ix (s : Str) (c : UInt8) : Ct Tryz.prog 164 [str s, str [c]] [] (fun _ => True) (fun v A' => A' = [] ∧ ((v = .int .i64 (-1) ∧ ∀ x ∈ s, x ≠ c) ∨ ∃ i : Nat, v = .int .i64 ((i : Nat) : Int) ∧ i < s.length ∧ (∀ k, k < i → s.getD k 0 ≠ c) ∧ s.getD i 0 = c)) := fun w hA _ => by
  refine (Tryz.strings_Index_one ⟨s.toArray⟩ c w).mono fun e w' h => ?_
  obtain ⟨rfl, rfl⟩ := h
  refine ⟨_, [], rfl, ⟨rfl, ?_⟩, hA.below (Below.refl _ _)⟩
  rw [List.toList_toArray]
  rcases ix_cases c s with ⟨h1, h2⟩ | ⟨i, h1, h2⟩
  · exact .inl ⟨by rw [h1], h2⟩
  · exact .inr ⟨i, by rw [h1], h2⟩

theorem C_lix (s : Str) (c : UInt8) : Ct Tryz.prog 169 [str s, str [c]] [] (fun _ => True) (fun v A' => A' = [] ∧ ((v = .int .i64 (-1) ∧ ∀ x ∈ s, x ≠ c) ∨ ∃ i : Nat, v = .int .i64 ((i : Nat) : Int) ∧ i < s.length ∧ (∀ k, k < i → s.getD k 0 ≠ c) ∧ s.getD i 0 = c)) := fun w hA _ => by
  refine (Tryz.stringslite_Index_one ⟨s.toArray⟩ c w).mono fun e w' h => ?_
  obtain ⟨rfl, rfl⟩ := h
  refine ⟨_, [], rfl, ⟨rfl, ?_⟩, hA.below (Below.refl _ _)⟩
  rw [List.toList_toArray]
  rcases ix_cases c s with ⟨h1, h2⟩ | ⟨i, h1, h2⟩
  · exact .inl ⟨by rw [h1], h2⟩
  · exact .inr ⟨i, by rw [h1], h2⟩

theorem C_cnt (s : Str) (c : UInt8) : Ct Tryz.prog 166 [str s, str [c]] [] (fun _ => True) (fun v A' => v = .int .i64 ((s.count c : Nat) : Int) ∧ A' = []) := fun w hA _ => by
  refine (Tryz.strings_Count_one ⟨s.toArray⟩ c w).mono fun e w' h => ?_
  obtain ⟨rfl, rfl⟩ := h
  exact ⟨_, [], rfl, ⟨by rw [List.toList_toArray]; rfl, rfl⟩, hA.below (Below.refl _ _)⟩
theorem C_sfx (s p : Str) (hs : s.length ≤ 9223372036854775807) : Ct Tryz.prog 111 [str s, str p] [] (fun _ => True) (fun v A' => v = .bool (Lib.hasSuffix s p) ∧ A' = []) := fun w hA _ => by
  refine (Tryz.strings_HasSuffix ⟨s.toArray⟩ ⟨p.toArray⟩ w (by simpa [ByteArray.size] using hs)).mono fun e w' h => ?_
  obtain ⟨rfl, rfl⟩ := h
  exact ⟨_, [], rfl, ⟨by rw [List.toList_toArray, List.toList_toArray], rfl⟩, hA.below (Below.refl _ _)⟩

theorem JO.makeSliceS {P : Program} {n : Nat} {w0 : World} {D : List Nat} {L : List Res} {e : Env} {d : Option Tmp} {ty : TypeId} {pos : String} {aft : Array Edge} {gd : Option (Nat × Bool)} {m : Nat} {t el : TypeId} {x : Operand} {ti : TypeInfo}
    (ht : P.underlying t = some (.slice el)) (hti : ∀ w, (typeInfo el).run P w = .ok ti w) (hk : ti.size = 1) (hz : ti.zero = some (str [])) (hx : rd n e x = .int .i64 m) (hm : m ≤ maxLen) (hb : ti.bytes * m ≤ 281474976710656) :
    JO P n w0 D L e ⟨d, .makeSlice t x x, ty, pos, aft, gd⟩ (fun v L' => ∃ a, v = .slice a m m ∧ L' = Res.row (.slice a m m) el 1 m ((List.replicate m ([] : Str)).map str) :: L) := by
  rw [← fillS]
  exact JO.makeSlice ht hti hk hz rfl rfl hx hm hb

attribute [local irreducible] JL JC JQ JO LO PO JA JX Ct

theorem fill_done2 {α : Type} {l : List α} {d : α} {m k : Nat} (h : l.length ≤ m ∧ k - m = 0) : l.take m ++ List.replicate (k - m) d = l := by
  rw [h.2, List.take_of_length_le h.1]; simp

set_option maxRecDepth 4000 in
set_option maxHeartbeats 1000000 in
theorem Y_gsplit (s : Str) (c : UInt8) (hs : s.length ≤ 100000000) :
    Ct Tryz.prog 144 [str s, str [c], .int .i64 ((0 : Nat) : Int), .int .i64 (-1)] [] (fun _ => True) (fun v A' => ∃ a q, v = .slice a (splitB c s).length q ∧ A' = [.row (.slice a (splitB c s).length q) 9 1 (splitB c s).length ((splitB c s).map str)]) := by
  refine Ct.intro Tryz.func144 rfl Tryz.ntmps144 (lb rfl) fun w0 hpre => ?_
  refine jC <| jF <| jA (jG (v := .slice none 0 0) rfl) <| jE <| jB <| jC <| jC <| jF <| jA (jD (v := iv (-1)) rfl) <| jA (kO rfl rfl) ?_
  refine jE <| jB ?_
  have h_1 : ¬ ((-1) = 0) := (by decide)
  refine jR (cB (dF h_1)) <| jT <| jB <| jC <| jC <| jF <| jA (jD (v := str [c]) rfl) <| jA (PO.eqlS rfl rfl) <| jE <| jB ?_
  have h_2 : ¬ ([c] = []) := (List.cons_ne_nil _ _)
  refine jR (cB (dF h_2)) <| jT <| jB <| jC <| jC <| jF <| jA (jD (v := iv (-1)) rfl) <| jA (jl rfl rfl) <| jE <| jB ?_
  have h_3 : (-1) < 0 := (by decide)
  refine jW (cB (dT h_3)) <| jF <| jA (jD (v := str s) rfl) <| jA (jD (v := str [c]) rfl) ?_
  refine jH rfl (jI [] Tryz.call166 rfl (C_cnt s c) rfl (fun _ _ => trivial)) ?_
  rintro _ _ ⟨_, ⟨rfl, rfl⟩, rfl⟩
  have hcl_4 := List.count_le_length (a := c) (l := s)
  refine jA (jc (c := (((s.count c) + 1 : Nat) : Int)) rfl rfl (wr (by omega))) <| jA (jG (v := iv (((s.count c) + 1 : Nat) : Int)) rfl) <| jE <| jB <| jC <| jF <| jA (jD (v := iv (((s.count c) + 1 : Nat) : Int)) rfl) <| jA (jD (v := str s) rfl) <| jA (kF kg rfl) <| jA (jc (c := ((s.length + 1 : Nat) : Int)) rfl rfl (wr (by omega))) ?_
  refine jA (PO.min2D (c := ((s.count c + 1 : Nat) : Int)) rfl rfl (by omega)) <| jA (jG (v := iv ((s.count c + 1 : Nat) : Int)) rfl) <| jE <| jB <| jC <| jF <| jA (jD (v := iv ((s.count c + 1 : Nat) : Int)) rfl) ?_
  refine jH rfl (JO.makeSliceS (m := s.count c + 1) ku Tryz.typeInfo9 rfl rfl rfl (by unfold maxLen; omega) (by show 16 * _ ≤ _; omega)) ?_
  rintro _ _ ⟨a_5, rfl, rfl⟩
  refine jA (jG (v := .slice a_5 (s.count c + 1) (s.count c + 1)) rfl) <| jE <| jB <| jC <| jF <| jA (jD (v := iv ((s.count c + 1 : Nat) : Int)) rfl) <| jA (kZ (c := (((s.count c + 1) - 1 : Nat) : Int)) rfl rfl (wr (by omega))) <| jA (jG (v := iv (((s.count c + 1) - 1 : Nat) : Int)) rfl) <| jE <| jB ?_
  refine jC <| jF <| jA (jG (v := iv 0) rfl) <| jE <| jB <| jC <| jf <| kD (fun k_ e_ L_ => ∃ i : Nat, ∃ s_ : Str, (i ≤ s.count c) ∧ (s_.length ≤ s.length) ∧ ((splitB c s).drop i = splitB c s_) ∧ e_ 0 = str s_ ∧ e_ 1 = str [c] ∧ e_ 2 = nv 0 ∧ e_ 3 = iv (((s.count c + 1) - 1 : Nat) : Int) ∧ e_ 8 = .slice none 0 0 ∧ e_ 9 = .slice a_5 (s.count c + 1) (s.count c + 1) ∧ e_ 10 = nv i ∧ L_ = [Res.row (.slice a_5 (s.count c + 1) (s.count c + 1)) 9 1 (s.count c + 1) ((List.take i (splitB c s) ++ List.replicate (s.count c + 1 - i) []).map str)] ∧ k_ = (s.count c) - i) _ ⟨0, s, by omega, by omega, rfl, rfl, rfl, rfl, rfl, rfl, rfl, rfl, (by simp only [List.take_zero, List.nil_append]; rfl), rfl⟩ ?_
  rintro _ e_6 _ ⟨i, s_, hi, hl_, hD, he_7, he_8, he_9, he_10, he_11, he_12, he_13, rfl, rfl⟩
  refine jC <| jC <| jF <| jA (jD (v := nv i) he_13) <| jA (jD (v := iv (((s.count c + 1) - 1 : Nat) : Int)) he_10) <| jA (jl rfl rfl) <| jE <| jB ?_
  by_cases h_14 : ((i : Nat) : Int) < (((s.count c + 1) - 1 : Nat) : Int)
  · refine jW (cB (dT h_14)) <| jT <| jB <| jf <| jC <| jF <| jA (jD (v := str s_) he_7) <| jA (jD (v := str [c]) he_8) ?_
    refine jH rfl (jI [] Tryz.call164 rfl (C_ix s_ c) rfl (fun _ _ => trivial)) ?_
    rintro _ _ ⟨_, ⟨rfl, (⟨rfl, hn_19⟩ | ⟨i_15, rfl, hi_16, hf_17, hc_18⟩)⟩, rfl⟩
    · refine jA (jG (v := iv (-1)) rfl) <| jE <| jB <| jC <| jC <| jF <| jA (jD (v := iv (-1)) rfl) <| jA (jl rfl rfl) <| jE <| jB ?_
      refine jW (cB (dT h_3)) <| jx <| jb <| JQ.blockO rfl <| jb <| jy <| jB <| jC <| jF <| jA (jD (v := .slice a_5 (s.count c + 1) (s.count c + 1)) he_12) ?_
      refine jA (jD (v := nv i) he_13) <| jA (jD (v := str s_) he_7) ?_
      refine kN fun hst => ?_
      obtain ⟨hr_20, hr_20b, -⟩ := row_some 0 rfl (by omega) hst
      refine jA (jk (i := i) ku kt hr_20 hr_20b rfl rfl (by omega)) ?_
      refine jH rfl (JO.storeR 0 (vs := [str s_]) (cs' := ((List.take i (splitB c s) ++ List.replicate (s.count c + 1 - i) []).set i (s_)).map str) rfl rfl rfl rfl kt rfl rfl (by decide) (by rw [List.length_map]; (have hPl_ := splitB_count c s); simp only [List.length_append, List.length_take, List.length_replicate, List.length_map]; omega) (setS (by (have hPl_ := splitB_count c s); simp only [List.length_append, List.length_take, List.length_replicate, List.length_map]; omega))) ?_
      rintro _ _ rfl
      refine jE <| jB <| jC <| jF <| jA (jD (v := .slice a_5 (s.count c + 1) (s.count c + 1)) he_12) <| jA (jD (v := nv i) he_13) <| jA (jc (c := ((i + 1 : Nat) : Int)) rfl rfl (wr (by omega))) ?_
      refine kN fun hst => ?_
      obtain ⟨hf_21m, hf_21x, hf_21s, hf_21l⟩ := fits_of hst (i := 0) rfl
      refine jA (PO.sliceVh (j := (i + 1)) ku kt hf_21s rfl rfl (by omega)) <| jA (jG (v := .slice a_5 (i + 1) (s.count c + 1)) rfl) <| jE <| jB <| jN <| jV (.inl rfl) rfl (jJ (v := .slice a_5 (i + 1) (s.count c + 1)) rfl) (List.Sublist.refl _) ?_
      have hPl := splitB_count c s
      have hP1 : (splitB c s).length - i = (splitB c s_).length := by rw [← hD, List.length_drop]
      have hi2 : i = s.count c := by first | omega | (have h_ := splitB_one c s_ (by assumption); rw [h_] at hP1; simp only [List.length_cons, List.length_nil] at hP1; omega)
      subst hi2
      have h1 : splitB c s_ = [s_] := split_last (by omega)
      obtain ⟨h2, _, h3⟩ := drop_head (d := []) (hD.trans h1)
      have h4 := fill_step (s := splitB c s) (j := s.count c) ([] : Str) h3
      rw [hPl, h2] at h4
      exact ⟨a_5, s.count c + 1, by rw [hPl], (congrArg (fun q : List Str => [Res.row (.slice a_5 (s.count c + 1) (s.count c + 1)) 9 1 (s.count c + 1) (q.map str)]) (h4.trans (fill_done2 (by omega)))).trans (by rw [hPl])⟩
    refine jA (jG (v := nv i_15) rfl) <| jE <| jB <| jC <| jC <| jF <| jA (jD (v := nv i_15) rfl) <| jA (jl rfl rfl) <| jE <| jB ?_
    have h_22 : ¬ (((i_15 : Nat) : Int) < 0) := (by omega)
    refine jR (cB (dF h_22)) <| jT <| jB <| jC <| jF <| jA (jD (v := .slice a_5 (s.count c + 1) (s.count c + 1)) he_12) <| jA (jD (v := nv i) he_13) <| jA (jD (v := str s_) he_7) <| jA (jD (v := nv i_15) rfl) <| jA (jD (v := nv 0) he_9) ?_
    refine jA (jc (c := ((i_15 + 0 : Nat) : Int)) rfl rfl (wr (by omega))) <| jA (PO.sliceSh (j := (i_15 + 0)) kg rfl rfl (by omega)) ?_
    refine kN fun hst => ?_
    obtain ⟨hr_23, hr_23b, -⟩ := row_some 0 rfl (by omega) hst
    refine jA (jk (i := i) ku kt hr_23 hr_23b rfl rfl (by omega)) ?_
    refine jH rfl (JO.storeR 0 (vs := [str (s_.take (i_15 + 0))]) (cs' := ((List.take i (splitB c s) ++ List.replicate (s.count c + 1 - i) []).set i (s_.take (i_15 + 0))).map str) rfl rfl rfl rfl kt rfl rfl (by decide) (by rw [List.length_map]; (have hPl_ := splitB_count c s); simp only [List.length_append, List.length_take, List.length_replicate, List.length_map]; omega) (setS (by (have hPl_ := splitB_count c s); simp only [List.length_append, List.length_take, List.length_replicate, List.length_map]; omega))) ?_
    rintro _ _ rfl
    refine jE <| jB <| jC <| jF <| jA (jD (v := str s_) he_7) <| jA (jD (v := nv i_15) rfl) <| jA (jD (v := str [c]) he_8) <| jA (show PO _ _ _ _ (nv 1) from kF (a := [c]) kg rfl) <| jA (jc (c := ((i_15 + 1 : Nat) : Int)) rfl rfl (wr (by omega))) <| jA (PO.sliceSl (i := (i_15 + 1)) kg rfl rfl (by omega)) ?_
    refine jA (jG (v := str (s_.drop (i_15 + 1))) rfl) <| jE <| jB <| jF <| jA (jD (v := nv i) he_13) <| jA (jc (c := ((i + 1 : Nat) : Int)) rfl rfl (wr (by omega))) <| jA (jG (v := iv ((i + 1 : Nat) : Int)) rfl) <| jE <| jm ?_
    refine jq ((s.count c) - (i + 1)) (by omega) ⟨i + 1, s_.drop (i_15 + 1), by omega, (by rw [List.length_drop]; omega), (by have h_ := drop_head (d := []) (hD.trans (split_first hi_16 hf_17 hc_18)); exact h_.2.1), rfl, he_8, he_9, he_10, he_11, he_12, rfl, (by have h_ := drop_head (d := []) (hD.trans (split_first hi_16 hf_17 hc_18)); have h2_ := fill_step (s := splitB c s) (j := i) ([] : Str) h_.2.2; rw [splitB_count, h_.1] at h2_; rw [← h2_]; rfl), rfl⟩
  refine jR (cB (dF h_14)) <| jx <| jb <| jb <| jy <| jB <| jC <| jF <| jA (jD (v := .slice a_5 (s.count c + 1) (s.count c + 1)) he_12) <| jA (jD (v := nv i) he_13) ?_
  refine jA (jD (v := str s_) he_7) ?_
  refine kN fun hst => ?_
  obtain ⟨hr_24, hr_24b, -⟩ := row_some 0 rfl (by omega) hst
  refine jA (jk (i := i) ku kt hr_24 hr_24b rfl rfl (by omega)) ?_
  refine jH rfl (JO.storeR 0 (vs := [str s_]) (cs' := ((List.take i (splitB c s) ++ List.replicate (s.count c + 1 - i) []).set i (s_)).map str) rfl rfl rfl rfl kt rfl rfl (by decide) (by rw [List.length_map]; (have hPl_ := splitB_count c s); simp only [List.length_append, List.length_take, List.length_replicate, List.length_map]; omega) (setS (by (have hPl_ := splitB_count c s); simp only [List.length_append, List.length_take, List.length_replicate, List.length_map]; omega))) ?_
  rintro _ _ rfl
  refine jE <| jB <| jC <| jF <| jA (jD (v := .slice a_5 (s.count c + 1) (s.count c + 1)) he_12) <| jA (jD (v := nv i) he_13) <| jA (jc (c := ((i + 1 : Nat) : Int)) rfl rfl (wr (by omega))) ?_
  refine kN fun hst => ?_
  obtain ⟨hf_25m, hf_25x, hf_25s, hf_25l⟩ := fits_of hst (i := 0) rfl
  refine jA (PO.sliceVh (j := (i + 1)) ku kt hf_25s rfl rfl (by omega)) <| jA (jG (v := .slice a_5 (i + 1) (s.count c + 1)) rfl) <| jE <| jB <| jN <| jV (.inl rfl) rfl (jJ (v := .slice a_5 (i + 1) (s.count c + 1)) rfl) (List.Sublist.refl _) ?_
  have hPl := splitB_count c s
  have hP1 : (splitB c s).length - i = (splitB c s_).length := by rw [← hD, List.length_drop]
  have hi2 : i = s.count c := by first | omega | (have h_ := splitB_one c s_ (by assumption); rw [h_] at hP1; simp only [List.length_cons, List.length_nil] at hP1; omega)
  subst hi2
  have h1 : splitB c s_ = [s_] := split_last (by omega)
  obtain ⟨h2, _, h3⟩ := drop_head (d := []) (hD.trans h1)
  have h4 := fill_step (s := splitB c s) (j := s.count c) ([] : Str) h3
  rw [hPl, h2] at h4
  exact ⟨a_5, s.count c + 1, by rw [hPl], (congrArg (fun q : List Str => [Res.row (.slice a_5 (s.count c + 1) (s.count c + 1)) 9 1 (s.count c + 1) (q.map str)]) (h4.trans (fill_done2 (by omega)))).trans (by rw [hPl])⟩

set_option maxRecDepth 4000 in
set_option maxHeartbeats 1000000 in
theorem Y_split (s : Str) (c : UInt8) (hs : s.length ≤ 100000000) :
    Ct Tryz.prog 112 [str s, str [c]] [] (fun _ => True) (fun v A' => ∃ a q, v = .slice a (splitB c s).length q ∧ A' = [.row (.slice a (splitB c s).length q) 9 1 (splitB c s).length ((splitB c s).map str)]) := by
  refine Ct.intro Tryz.func112 rfl Tryz.ntmps112 (lb rfl) fun w0 hpre => ?_
  refine jC <| jF <| jA (jG (v := .slice none 0 0) rfl) <| jE <| jB <| jC <| jF <| jA (jD (v := str s) rfl) <| jA (jD (v := str [c]) rfl) ?_
  refine jH rfl (jI [] Tryz.call144 rfl (Y_gsplit s c (by omega)) rfl (fun _ _ => trivial)) ?_
  rintro _ _ ⟨_, ⟨a_1, c_2, rfl, rfl⟩, rfl⟩
  have hsp_3 := splitB_len c s
  refine jA (jG (v := .slice a_1 ((splitB c s).length) c_2) rfl) <| jE <| jB <| jN <| jV (.inl rfl) rfl (jJ (v := .slice a_1 ((splitB c s).length) c_2) rfl) (List.Sublist.refl _) ?_
  exact ⟨_, _, rfl, rfl⟩

set_option maxRecDepth 4000 in
set_option maxHeartbeats 1000000 in
theorem Y_lcut (s : Str) (c : UInt8) (hs : s.length ≤ 100000000) :
    Ct Tryz.prog 146 [str s, str [c]] [] (fun _ => True) (fun v A' => ∃ b, v = .tuple #[str (cutB c s).1, str (cutB c s).2, .bool b] ∧ A' = []) := by
  refine Ct.intro Tryz.func146 rfl Tryz.ntmps146 (lb rfl) fun w0 hpre => ?_
  refine jC <| jF <| jA (jG (v := str []) rfl) <| jA (jG (v := str []) rfl) <| jA (jG (v := .bool false) rfl) <| jE <| jB <| jC <| jC <| jF ?_
  refine jA (jD (v := str s) rfl) <| jA (jD (v := str [c]) rfl) ?_
  refine jH rfl (jI [] Tryz.call169 rfl (C_lix s c) rfl (fun _ _ => trivial)) ?_
  rintro _ _ ⟨_, ⟨rfl, (⟨rfl, hn_5⟩ | ⟨i_1, rfl, hi_2, hf_3, hc_4⟩)⟩, rfl⟩
  · refine jA (jG (v := iv (-1)) rfl) <| jE <| jB <| jC <| jF <| jA (jD (v := iv (-1)) rfl) <| jA (PO.geq rfl rfl) <| jE <| jB ?_
    have h_6 : ¬ (0 ≤ (-1)) := (by decide)
    refine jR (cB (dF h_6)) <| jT <| jB <| jC <| jF <| jA (jD (v := str s) rfl) <| jA (jG (v := str s) rfl) <| jA (jG (v := str []) rfl) <| jA (jG (v := .bool false) rfl) <| jE ?_
    refine jB <| jN <| Done.three (.inl rfl) rfl (jJ (v := str s) rfl) (jJ (v := str []) rfl) (jJ (v := .bool false) rfl) (List.nil_sublist _) ?_
    exact ⟨false, by rw [cutB_no hn_5], rfl⟩
  refine jA (jG (v := nv i_1) rfl) <| jE <| jB <| jC <| jF <| jA (jD (v := nv i_1) rfl) <| jA (PO.geq rfl rfl) <| jE <| jB ?_
  have h_7 : 0 ≤ ((i_1 : Nat) : Int) := (by omega)
  refine jW (cB (dT h_7)) <| jC <| kJ [] 0 mixed (by simp) <| jL 0 rfl (jD (v := str s) rfl) <| jL 1 rfl (jD (v := nv i_1) rfl) <| jL 2 rfl (PO.sliceSh (j := i_1) kg rfl rfl (by omega)) <| jL 3 rfl (jD (v := str s) rfl) <| jL 4 rfl (jD (v := nv i_1) rfl) <| jL 5 rfl (jD (v := str [c]) rfl) <| jL 6 rfl (show PO _ _ _ _ (nv 1) from kF (a := [c]) kg rfl) ?_
  refine jL 7 rfl (jc (c := ((i_1 + 1 : Nat) : Int)) rfl rfl (wr (by omega))) <| jL 8 rfl (PO.sliceSl (i := (i_1 + 1)) kg rfl rfl (by omega)) <| jL 9 rfl (jG (v := str (s.take i_1)) rfl) <| jL 10 rfl (jG (v := str (s.drop (i_1 + 1))) rfl) <| jL 11 rfl (jG (v := .bool true) rfl) <| kI (by kernel_rfl) <| jB <| jN <| jX <| Done.three (.inl rfl) rfl (jJ (v := str (s.take i_1)) rfl) (jJ (v := str (s.drop (i_1 + 1))) rfl) (jJ (v := .bool true) rfl) (List.nil_sublist _) ?_
  exact ⟨true, by rw [cutB_first hi_2 hf_3 hc_4], rfl⟩

set_option maxRecDepth 4000 in
set_option maxHeartbeats 1000000 in
theorem Y_cut (s : Str) (c : UInt8) (hs : s.length ≤ 100000000) :
    Ct Tryz.prog 114 [str s, str [c]] [] (fun _ => True) (fun v A' => ∃ b, v = .tuple #[str (cutB c s).1, str (cutB c s).2, .bool b] ∧ A' = []) := by
  refine Ct.intro Tryz.func114 rfl Tryz.ntmps114 (lb rfl) fun w0 hpre => ?_
  refine jC <| jF <| jA (jG (v := str []) rfl) <| jA (jG (v := str []) rfl) <| jA (jG (v := .bool false) rfl) <| jE <| jB <| jC <| jF <| jA (jD (v := str s) rfl) ?_
  refine jA (jD (v := str [c]) rfl) ?_
  refine jH rfl (jI [] Tryz.call146 rfl (Y_lcut s c (by omega)) rfl (fun _ _ => trivial)) ?_
  rintro _ _ ⟨_, ⟨b_1, rfl, rfl⟩, rfl⟩
  refine jA (je (v := str ((cutB c s).1)) rfl rfl) <| jA (je (v := str ((cutB c s).2)) rfl rfl) <| jA (je (v := .bool b_1) rfl rfl) <| jA (jG (v := str ((cutB c s).1)) rfl) <| jA (jG (v := str ((cutB c s).2)) rfl) <| jA (jG (v := .bool b_1) rfl) <| jE <| jB <| jN <| Done.three (.inl rfl) rfl (jJ (v := str ((cutB c s).1)) rfl) (jJ (v := str ((cutB c s).2)) rfl) (jJ (v := .bool b_1) rfl) (List.nil_sublist _) ?_
  exact ⟨_, rfl, rfl⟩

end Go.Proofs.YtjncpgcccgdeiaaGreatDoor

set_option linter.unusedSimpArgs false
set_option linter.unusedVariables false
set_option linter.unnecessarySimpa false
namespace Go.Proofs.YtjncpgcccgdeiaaGreatDoor
open Go Go.RowKit
attribute [local irreducible] JL JC JQ JO LO PO JA JX Ct

set_option maxRecDepth 4000 in
set_option maxHeartbeats 1000000 in
theorem Y_bstr (b g cap : Nat) (u : Option Addr) (a : Option Addr) (cur : Array Value) (fz : Nat × Nat) (ha : a = some ⟨g, 0, none⟩) (l : Str) (hl0 : l ≠ []) (hcap : l.length ≤ cap) (hm : cap ≤ maxLen) (hsz : cap ≤ cur.size) (hcur : cur.toList.take l.length = l.map encB) :
    Ct Tryz.prog 81 [.pointer (some ⟨b, 0, none⟩)] [bk b 93 [.pointer u, .slice a l.length cap], .blk g (.cells cur TB fz)] (fun _ => True) (fun v A' => ∃ fz', v = str l ∧ A' = [bk b 93 [.pointer u, .slice a l.length cap], .blk g (.cells cur TB fz')]) := by
  have hm63 : cap ≤ 9223372036854775807 := by unfold maxLen at hm; omega
  have hlp : 0 < l.length := List.length_pos_iff.2 hl0
  refine Ct.intro Tryz.func81 rfl Tryz.ntmps81 (lb rfl) fun w0 hpre => ?_
  refine jC <| jF <| jA (jG (v := str []) rfl) <| jE <| jB <| jC <| kJ [bk b 93 [.pointer u, .slice a l.length cap]] 11 mixed (by simp) <| jL 0 rfl (jD (v := .pointer (some ⟨b, 0, none⟩)) rfl) <| jL 1 rfl (PO.nilCheck rfl) <| jL 2 rfl (jQ fo93_1 rfl) ?_
  refine jw 3 rfl (jZ 0 (v := .slice a l.length cap) rfl rfl Tryz.isAgg39 rfl) <| jL 4 rfl (PO.unsafeData ha rfl (by omega)) <| jL 5 rfl (jD (v := .pointer (some ⟨b, 0, none⟩)) rfl) <| jL 6 rfl (PO.nilCheck rfl) <| jL 7 rfl (jQ fo93_1 rfl) <| jw 8 rfl (jZ 0 (v := .slice a l.length cap) rfl rfl Tryz.isAgg39 rfl) <| jL 9 rfl (jr kr rfl) <| jj (i := 10) ?_
  refine jz rfl rfl (JO.unsafeStr 1 (l := l) rfl Tryz.underlying135 rfl rfl rfl hl0 (by omega) (by omega) hcur) ?_
  rintro _ _ ⟨fz_2, rfl, rfl⟩
  refine ⟨by simp, ?_⟩
  refine jL 11 rfl (jG (v := str l) rfl) <| kI (by kernel_rfl) <| jB <| jN <| jV (.inl rfl) rfl (jJ (v := str l) rfl) (List.Sublist.refl _) ?_
  exact ⟨_, rfl, rfl⟩

theorem Y_iHex (s : Str) (hs : s.length ≤ 20000) : Ct Tryz.prog 80 [str s] [] (fun _ => True) (fun v A' => v = str (hexB s) ∧ A' = []) :=
  (N_hexOf s (by omega)).weak (fun _ h => h) fun v A' ⟨u, e, _, hv, hA⟩ => ⟨by rw [hv, ← e, hexS, if_neg (by omega)], hA⟩

set_option maxRecDepth 4000 in
set_option maxHeartbeats 1000000 in
theorem Y_iRec (seq : Int) (a : Option Addr) (c : Nat) (l : List Cell) (hl : okC l) :
    Ct Tryz.prog 28 [.int .i64 seq, .slice a l.length c] [] (fun w => Sees w (.slice a l.length c) 2 l.length (l.flatMap encC)) (fun v A' => v = str (recText seq l) ∧ A' = []) := by
  refine Ct.intro Tryz.func28 rfl Tryz.ntmps28 (lb rfl) fun w0 hpre => ?_
  have hs_a : Sees w0 _ _ _ _ := hpre
  have hll := hl.1
  refine jC <| jF <| jA (jG (v := str []) rfl) <| jE <| jB <| jC <| jC <| jF <| jA (jD (v := iv seq) rfl) ?_
  refine jH rfl (jI [] Tryz.call76 rfl (Y_within seq 1 100000) rfl (fun _ _ => trivial)) ?_
  rintro _ _ ⟨_, ⟨rfl, rfl⟩, rfl⟩
  refine jA (jp rfl) <| jE <| jB ?_
  rcases Bool.eq_false_or_eq_true (within 1 seq 100000) with h_1 | h_1
  · refine jR (cB (cN h_1)) <| jT <| jB <| jC <| jF ?_
    refine jH rfl (jo (z := .agg #[.pointer none, .slice none 0 0]) (cs := [.pointer none, .slice none 0 0]) Tryz.zeroValue93 rfl) ?_
    rintro _ _ ⟨b_2, rfl, rfl⟩
    refine jE <| jB <| jC ?_
    have hwi := (show 1 ≤ seq ∧ seq ≤ 100000 by simpa only [within, Bool.and_eq_true, decide_eq_true_eq] using h_1)
    have hdl := dec_len (n := seq) (by omega) (by omega)
    have hdp := dec_pos seq
    refine jF <| jA (jD (v := iv seq) rfl) ?_
    refine jH rfl (jI [] Tryz.call29 rfl (C_decimal seq (by omega) (by omega)) rfl (fun _ _ => trivial)) ?_
    rintro _ _ ⟨_, ⟨rfl, rfl⟩, rfl⟩
    have hdl_3 := dec_len (n := seq) (by omega) (by omega)
    refine JL.nilRow 5 1 ?_
    refine jH rfl (jI [1, 0] Tryz.call77 rfl (Y_ws0 b_2 none 0 ([] : Str) (dec seq) (by first | omega | ((try simp only [List.length_append, List.length_cons, List.length_nil]); omega)) (by first | omega | ((try simp only [List.length_append, List.length_cons, List.length_nil]); omega))) rfl (fun _ _ => trivial)) ?_
    rintro _ _ ⟨_, ⟨a_4, c_5, rfl, rfl⟩, rfl⟩
    refine jE <| jB <| jC <| jC <| jF <| jA (jD (v := .slice a l.length c) rfl) <| jA (jr kf rfl) <| jA (jD (v := iv 0) rfl) <| jE <| jB ?_
    refine jf <| kD (fun k_ e_ L_ => ∃ j : Nat, ∃ oa : Option Addr, ∃ oc : Nat, ∃ b : Str, (j ≤ l.length) ∧ (0 < b.length ∧ b.length ≤ 5000) ∧ (recGo b (l.drop j) = recGo (dec seq) l) ∧ e_ 5 = .pointer (some ⟨b_2, 0, none⟩) ∧ e_ 15 = .slice a l.length c ∧ e_ 16 = nv l.length ∧ e_ 17 = nv j ∧ L_ = [bk b_2 93 [.pointer (some ⟨b_2, 0, none⟩), .slice oa b.length oc], Res.row (.slice oa b.length oc) 5 1 b.length (b.map encB)] ∧ k_ = l.length - j) _ ⟨0, a_4, c_5, dec seq, by omega, by omega, rfl, rfl, rfl, rfl, rfl, rfl, rfl⟩ ?_
    rintro _ e_6 _ ⟨j, oa, oc, b, hj, hb, hR, he_7, he_8, he_9, he_10, rfl, rfl⟩
    refine jC <| jF <| jA (jl he_10 he_9) <| jE <| jB <| jC ?_
    by_cases h_11 : ((j : Nat) : Int) < ((l.length : Nat) : Int)
    · have hlt : j < l.length := by omega
      refine jW (cB (dT h_11)) <| jT <| jB <| jC <| jf <| jC <| jF ?_
      obtain ⟨hr_12, hr_12b, -⟩ := sees_some hs_a (by omega)
      refine jA (jk (i := j) kf kh hr_12 hr_12b he_8 he_10 (by omega)) <| jK (kX (vs := [str ((l.getD j c0).1), str ((l.getD j c0).2)]) hs_a nM rfl gG kh (atC (by omega)) rfl (by decide)) ?_
      refine jH rfl (jo (z := .agg #[str [], str []]) (cs := [str [], str []]) kw rfl) ?_
      rintro _ _ ⟨b_13, rfl, rfl⟩
      refine jH rfl (ja 0 (vs := [str ((l.getD j c0).1), str ((l.getD j c0).2)]) (cs' := [str ((l.getD j c0).1), str ((l.getD j c0).2)]) rfl rfl rfl rfl kh rfl rfl (lb rfl) rfl) ?_
      rintro _ _ rfl
      refine jE <| jB <| jC <| jC <| jF <| jA (jQ fo48_0 rfl) <| jK (jZ 0 (v := str ((l.getD j c0).1)) rfl rfl ki rfl) ?_
      refine jH rfl (jI [] Tryz.call78 rfl (Y_implKeyOk ((l.getD j c0).1) (hl.2 j hlt).1) rfl (fun _ _ => trivial)) ?_
      rintro _ _ ⟨_, ⟨rfl, rfl⟩, rfl⟩
      refine jA (jp rfl) <| jA (jD (v := .bool (!(keyOk ((l.getD j c0).1)))) rfl) ?_
      rcases Bool.eq_false_or_eq_true (keyOk ((l.getD j c0).1)) with h_14 | h_14
      · have hk40 := keyOk_len h_14
        refine jM rfl rfl rfl (cB (cN h_14)) (jP (jU (jQ fo48_1 rfl))) ?_
        rintro _ _ ⟨rfl, rfl⟩
        refine jM rfl rfl rfl (cB (cN h_14)) (jP (jZ 0 (v := str ((l.getD j c0).2)) rfl rfl ki rfl)) ?_
        rintro _ _ ⟨rfl, rfl⟩
        refine jM rfl rfl rfl (cB (cN h_14)) (jP (jU (kF kg rfl))) ?_
        rintro _ _ ⟨rfl, rfl⟩
        refine jM rfl rfl rfl (cB (cN h_14)) (jP (jU (kR rfl rfl))) ?_
        rintro _ _ ⟨rfl, rfl⟩
        refine jA (ji (v := .bool (decide (60 < (((l.getD j c0).2).length : Int)))) (cB (cN h_14)) rfl) <| jA (jD (v := .bool (decide (60 < (((l.getD j c0).2).length : Int)))) rfl) ?_
        by_cases h_15 : 60 < (((l.getD j c0).2).length : Int)
        · refine jS (b := true) rfl rfl rfl (cB (dT h_15)) <| jS (b := true) rfl rfl rfl (cB (dT h_15)) <| jA (jh (v := .bool true) (cB (dT h_15)) rfl) <| jE <| jB <| jW (cB rfl) <| jC <| jF <| jA (jG (v := str []) rfl) <| jE ?_
          refine jB <| jN <| jX <| jv <| jX <| jX <| jv <| jX <| jV (.inl rfl) rfl (jJ (v := str []) rfl) (List.nil_sublist _) ?_
          refine ⟨congrArg str ?_, rfl⟩
          have hrt : recText seq l = recGo (dec seq) l := by unfold recText; rw [if_pos h_1]
          rw [hrt, ← hR, recGo_step hlt, if_pos (by simp only [recBad, Bool.and_true, Bool.true_and, Bool.and_false, Bool.false_and, Bool.or_true, Bool.true_or, Bool.or_false, Bool.false_or, Bool.not_true, Bool.not_false, (h_1), ((dT h_11)), (h_14), ((dT h_15))])]
        refine jM rfl rfl rfl (cB (dF h_15)) (jI [1] Tryz.call79 rfl (Y_blen b_2 (some ⟨b_2, 0, none⟩) oa b.length oc) (congr (congrArg List.cons he_7) rfl) (fun _ _ => trivial)) ?_
        rintro _ _ ⟨_, ⟨rfl, rfl⟩, rfl⟩
        refine jM rfl rfl rfl (cB (dF h_15)) (jP (jU (kR rfl rfl))) ?_
        rintro _ _ ⟨rfl, rfl⟩
        refine jA (ji (v := .bool (decide (4000 < ((b.length : Nat) : Int)))) (cB (dF h_15)) rfl) <| jE <| jB ?_
        by_cases h_16 : 4000 < ((b.length : Nat) : Int)
        · refine jW (cB (dT h_16)) <| jC <| jF <| jA (jG (v := str []) rfl) <| jE <| jB <| jN <| jX <| jv <| jX ?_
          refine jX <| jv <| jX <| jV (.inl rfl) rfl (jJ (v := str []) rfl) (List.nil_sublist _) ?_
          refine ⟨congrArg str ?_, rfl⟩
          have hrt : recText seq l = recGo (dec seq) l := by unfold recText; rw [if_pos h_1]
          rw [hrt, ← hR, recGo_step hlt, if_pos (by simp only [recBad, Bool.and_true, Bool.true_and, Bool.and_false, Bool.false_and, Bool.or_true, Bool.true_or, Bool.or_false, Bool.false_or, Bool.not_true, Bool.not_false, (h_1), ((dT h_11)), (h_14), ((dF h_15)), ((dT h_16))])]
        refine jR (cB (dF h_16)) <| jT <| jB <| kJ [bk b_13 48 [str ((l.getD j c0).1), str ((l.getD j c0).2)]] 1000 mixed (by simp) <| jL 0 rfl (jQ fo48_0 rfl) <| jw 1 rfl (jZ 0 (v := str ((l.getD j c0).1)) rfl rfl ki rfl) <| jL 5 rfl (jQ fo48_1 rfl) <| jw 6 rfl (jZ 0 (v := str ((l.getD j c0).2)) rfl rfl ki rfl) <| jj (i := 2) ?_
        refine jz rfl rfl (jI [] Tryz.call80 rfl (Y_iHex ((l.getD j c0).1) (by omega)) rfl (fun _ _ => trivial)) ?_
        rintro _ _ ⟨_, ⟨rfl, rfl⟩, rfl⟩
        have hxl_20 := hexB_len ((l.getD j c0).1)
        refine ⟨by simp, ?_⟩
        refine jL 3 rfl (kc rfl rfl (by (try simp only [List.length_append, List.length_cons, List.length_nil, List.length_drop, List.length_take]); omega)) <| jL 4 rfl (kc rfl rfl (by (try simp only [List.length_append, List.length_cons, List.length_nil, List.length_drop, List.length_take]); omega)) <| jj (i := 7) ?_
        refine jz rfl rfl (jI [] Tryz.call80 rfl (Y_iHex ((l.getD j c0).2) (by omega)) rfl (fun _ _ => trivial)) ?_
        rintro _ _ ⟨_, ⟨rfl, rfl⟩, rfl⟩
        have hxl_22 := hexB_len ((l.getD j c0).2)
        refine ⟨by simp, ?_⟩
        refine jL 8 rfl (kc rfl rfl (by (try simp only [List.length_append, List.length_cons, List.length_nil, List.length_drop, List.length_take]); omega)) <| jj (i := 9) ?_
        refine jz rfl rfl (jI [0, 1] Tryz.call77 rfl (Y_ws1 b_2 oa oc b ((([32] ++ (hexB ((l.getD j c0).1))) ++ [61]) ++ (hexB ((l.getD j c0).2))) (by first | omega | ((try simp only [List.length_append, List.length_cons, List.length_nil]); omega)) (by first | omega | ((try simp only [List.length_append, List.length_cons, List.length_nil]); omega))) (congr (congrArg List.cons he_7) (congr (congrArg List.cons rfl) rfl)) (fun _ _ => trivial)) ?_
        rintro _ _ ⟨_, ⟨a_25, c_26, rfl, rfl⟩, rfl⟩
        refine ⟨by simp, ?_⟩
        refine kI (by kernel_rfl) <| jm <| jB <| jF <| jA (jc (c := ((j + 1 : Nat) : Int)) he_10 rfl (wr (by omega))) <| jA (jD (v := iv ((j + 1 : Nat) : Int)) rfl) <| jE <| kB [0, 0] (A := [bk b_2 93 [.pointer (some ⟨b_2, 0, none⟩), .slice a_25 ((b ++ ((([32] ++ (hexB ((l.getD j c0).1))) ++ [61]) ++ (hexB ((l.getD j c0).2)))).length) c_26], Res.row (.slice a_25 ((b ++ ((([32] ++ (hexB ((l.getD j c0).1))) ++ [61]) ++ (hexB ((l.getD j c0).2)))).length) c_26) 5 1 ((b ++ ((([32] ++ (hexB ((l.getD j c0).1))) ++ [61]) ++ (hexB ((l.getD j c0).2)))).length) ((b ++ ((([32] ++ (hexB ((l.getD j c0).1))) ++ [61]) ++ (hexB ((l.getD j c0).2)))).map encB)]) rfl ?_
        refine jq (l.length - (j + 1)) (by omega) ⟨j + 1, a_25, c_26, (b ++ ((([32] ++ (hexB ((l.getD j c0).1))) ++ [61]) ++ (hexB ((l.getD j c0).2)))), by omega, (by simp only [List.length_append, List.length_cons, List.length_nil]; omega), (by rw [recGo_step hlt, if_neg (by simp only [recBad, Bool.and_true, Bool.true_and, Bool.and_false, Bool.false_and, Bool.or_true, Bool.true_or, Bool.or_false, Bool.false_or, Bool.not_true, Bool.not_false, (h_1), ((dT h_11)), (h_14), ((dF h_15)), ((dF h_16))]; exact Bool.false_ne_true)] at hR; simp only [recRow] at hR; exact hR), he_7, he_8, he_9, rfl, rfl, rfl⟩
      refine jS (b := true) rfl rfl rfl (cB (cN h_14)) <| jS (b := true) rfl rfl rfl (cB (cN h_14)) <| jS (b := true) rfl rfl rfl (cB (cN h_14)) <| jS (b := true) rfl rfl rfl (cB (cN h_14)) <| jA (jh (v := .bool true) (cB (cN h_14)) rfl) <| jA (jD (v := .bool true) rfl) <| jS (b := true) rfl rfl rfl (cB rfl) <| jS (b := true) rfl rfl rfl (cB rfl) <| jA (jh (v := .bool true) (cB rfl) rfl) <| jE ?_
      refine jB <| jW (cB rfl) <| jC <| jF <| jA (jG (v := str []) rfl) <| jE <| jB <| jN <| jX <| jv ?_
      refine jX <| jX <| jv <| jX <| jV (.inl rfl) rfl (jJ (v := str []) rfl) (List.nil_sublist _) ?_
      refine ⟨congrArg str ?_, rfl⟩
      have hrt : recText seq l = recGo (dec seq) l := by unfold recText; rw [if_pos h_1]
      rw [hrt, ← hR, recGo_step hlt, if_pos (by simp only [recBad, Bool.and_true, Bool.true_and, Bool.and_false, Bool.false_and, Bool.or_true, Bool.true_or, Bool.or_false, Bool.false_or, Bool.not_true, Bool.not_false, (h_1), ((dT h_11)), (h_14)])]
    refine jR (cB (dF h_11)) <| jx <| jb <| jb <| jy <| jB <| jC <| JC.rowBlk 1 rfl (by omega) ?_
    intro g_ cur_ fz_ ha_ hm1_ hm2_ hm3_ hm4_
    have hm63_ : oc ≤ 9223372036854775807 := by unfold maxLen at hm2_; omega
    have hl0_ : b ≠ [] := List.length_pos_iff.1 (by omega)
    refine jF ?_
    refine jH rfl (jI [0, 0] Tryz.call81 rfl (Y_bstr b_2 g_ oc (some ⟨b_2, 0, none⟩) oa cur_ fz_ ha_ b hl0_ (by omega) (by omega) (by omega) (by rw [Nat.mul_one] at hm4_; exact hm4_)) (congr (congrArg List.cons he_7) rfl) (fun _ _ => trivial)) ?_
    rintro _ _ ⟨_, ⟨fz_27, rfl, rfl⟩, rfl⟩
    refine jA (kc rfl rfl (by (try simp only [List.length_append, List.length_cons, List.length_nil, List.length_drop, List.length_take]); omega)) ?_
    refine jH rfl (jI [0, 0] Tryz.call81 rfl (Y_bstr b_2 g_ oc (some ⟨b_2, 0, none⟩) oa cur_ fz_27 ha_ b hl0_ (by omega) (by omega) (by omega) (by rw [Nat.mul_one] at hm4_; exact hm4_)) (congr (congrArg List.cons he_7) rfl) (fun _ _ => trivial)) ?_
    rintro _ _ ⟨_, ⟨fz_28, rfl, rfl⟩, rfl⟩
    refine jH rfl (jI [] Tryz.call82 rfl (Y_implSum b (by (try simp only [List.length_append, List.length_cons, List.length_nil]); omega)) rfl (fun _ _ => trivial)) ?_
    rintro _ _ ⟨_, ⟨rfl, rfl⟩, rfl⟩
    have hbs_29 := byteSum_lo b
    refine jH rfl (jI [] Tryz.call29 rfl (C_decimal ((byteSum b : Nat) : Int) (by omega) (by omega)) rfl (fun _ _ => trivial)) ?_
    rintro _ _ ⟨_, ⟨rfl, rfl⟩, rfl⟩
    have hdl_30 := dec_len (n := ((byteSum b : Nat) : Int)) (by omega) (by omega)
    refine jA (kc rfl rfl (by (try simp only [List.length_append, List.length_cons, List.length_nil, List.length_drop, List.length_take]); omega)) <| jA (kc rfl rfl (by (try simp only [List.length_append, List.length_cons, List.length_nil, List.length_drop, List.length_take]); omega)) <| jA (jG (v := str (((b ++ [32, 35]) ++ (dec ((byteSum b : Nat) : Int))) ++ [10])) rfl) <| jE <| jB <| jC <| jC <| jF <| jA (jD (v := str (((b ++ [32, 35]) ++ (dec ((byteSum b : Nat) : Int))) ++ [10])) rfl) <| jA (kF kg rfl) ?_
    refine jA (kR rfl rfl) <| jE <| jB ?_
    by_cases h_31 : 4000 < ((((b ++ [32, 35]) ++ (dec ((byteSum b : Nat) : Int))) ++ [10]).length : Int)
    · refine jW (cB (dT h_31)) <| jC <| jF <| jA (jG (v := str []) rfl) <| jE <| jB <| jN <| jX <| jV (.inl rfl) rfl (jJ (v := str []) rfl) (List.nil_sublist _) ?_
      refine ⟨congrArg str ?_, rfl⟩
      have hrt : recText seq l = recGo (dec seq) l := by unfold recText; rw [if_pos h_1]
      rw [hrt, ← hR, List.drop_of_length_le (by omega), recGo, recEnd]
      first | rw [if_pos (by assumption)] | rw [if_neg (by assumption)]
    refine jR (cB (dF h_31)) <| jT <| jB <| jC <| jF <| jA (jD (v := str (((b ++ [32, 35]) ++ (dec ((byteSum b : Nat) : Int))) ++ [10])) rfl) <| jA (jG (v := str (((b ++ [32, 35]) ++ (dec ((byteSum b : Nat) : Int))) ++ [10])) rfl) <| jE <| jB <| jN ?_
    refine jV (.inl rfl) rfl (jJ (v := str (((b ++ [32, 35]) ++ (dec ((byteSum b : Nat) : Int))) ++ [10])) rfl) (List.nil_sublist _) ?_
    refine ⟨congrArg str ?_, rfl⟩
    have hrt : recText seq l = recGo (dec seq) l := by unfold recText; rw [if_pos h_1]
    rw [hrt, ← hR, List.drop_of_length_le (by omega), recGo, recEnd]
    first | rw [if_pos (by assumption)] | rw [if_neg (by assumption)]
  refine jW (cB (cN h_1)) <| jC <| jF <| jA (jG (v := str []) rfl) <| jE <| jB <| jN <| jX <| jV (.inl rfl) rfl (jJ (v := str []) rfl) (List.nil_sublist _) ?_
  refine ⟨congrArg str ?_, rfl⟩
  unfold recText
  rw [h_1]
  rfl

theorem Y_iUnhex (t : Str) (ht : t.length ≤ 100000000) : Ct Tryz.prog 115 [str t] [] (fun w => HexOk w) (fun v A' => v = .tuple #[str (unhex t).1, .bool (unhex t).2] ∧ A' = []) :=
  (N_unhex t (by omega)).weak (fun _ h => h) fun v A' ⟨u, b, e, _, hv, hA⟩ => ⟨by rw [hv, e], hA⟩
theorem cutB_len (c : UInt8) : ∀ s : Str, (cutB c s).1.length ≤ s.length ∧ (cutB c s).2.length ≤ s.length
  | [] => ⟨Nat.le_refl _, Nat.le_refl _⟩
  | x :: s => by
    have h := cutB_len c s
    unfold cutB
    split
    · exact ⟨Nat.zero_le _, by simp⟩
    · simp only [List.length_cons]; omega

set_option maxRecDepth 4000 in
set_option maxHeartbeats 1000000 in
theorem Y_iRead (t : Str) (ht : t.length ≤ 100000000) :
    Ct Tryz.prog 64 [str t] [] (fun w => HexOk w) (fun v A' => ∃ a c, v = .tuple #[.int .i64 (readI t).1, .slice a (readI t).2.1.length c, .bool (readI t).2.2] ∧ A' = [.row (.slice a (readI t).2.1.length c) 48 2 (readI t).2.1.length ((readI t).2.1.flatMap encC)]) := by
  refine Ct.introL Tryz.func64 rfl Tryz.ntmps64 (lb rfl) fun w0 hpre hlow => ?_
  refine jC <| jF <| jA (jG (v := iv 0) rfl) <| jA (jG (v := .slice none 0 0) rfl) <| jA (jG (v := .bool false) rfl) <| jE <| jB <| jC <| jC <| jF ?_
  refine jA (jD (v := str t) rfl) <| jA (kF kg rfl) <| jA (kR rfl rfl) <| jE <| jB ?_
  by_cases h_1 : 4000 < (t.length : Int)
  · refine jW (cB (dT h_1)) <| jC <| jF <| jA (jG (v := iv 0) rfl) <| jA (jG (v := .slice none 0 0) rfl) <| jA (jG (v := .bool false) rfl) <| jE <| jB <| jN <| jX ?_
    refine JQ.nilRow 48 2 <| Done.three (.inl rfl) rfl (jJ (v := iv 0) rfl) (jJ (v := .slice none 0 0) rfl) (jJ (v := .bool false) rfl) (List.Sublist.refl _) ?_
    have he : readI t = (0, [], false) := if_pos h_1
    exact ⟨none, 0, by rw [he] <;> rfl, by rw [he] <;> rfl⟩
  refine jR (cB (dF h_1)) <| jT <| jB <| jC <| jF <| jA (jD (v := str t) rfl) ?_
  refine jH rfl (jI [] Tryz.call112 rfl (Y_split t 32 (by omega)) rfl (fun _ _ => trivial)) ?_
  rintro _ _ ⟨_, ⟨a_2, c_3, rfl, rfl⟩, rfl⟩
  have hsp_4 := splitB_len 32 t
  refine jA (jG (v := .slice a_2 ((splitB 32 t).length) c_3) rfl) <| jE <| jB <| jC <| jF <| jA (jD (v := .slice a_2 ((splitB 32 t).length) c_3) rfl) ?_
  refine kN fun hst => ?_
  obtain ⟨hr_5, hr_5b, -⟩ := row_some 0 rfl (by omega) hst
  refine jA (jk (i := 0) ku kt hr_5 hr_5b rfl rfl (by omega)) <| jK (ka 0 (v := str ((splitB 32 t).getD 0 [])) rfl rfl ki (atS (by omega))) ?_
  refine jH rfl (jI [] Tryz.call113 rfl (C_readDecimal ((splitB 32 t).getD 0 []) (by have h_2 := splitB_get 32 t 0; omega)) rfl (fun _ _ => trivial)) ?_
  rintro _ _ ⟨_, ⟨rfl, rfl⟩, rfl⟩
  refine jA (jD (v := .tuple #[iv ((readDec ((splitB 32 t).getD 0 [])).1), .bool ((readDec ((splitB 32 t).getD 0 [])).2)]) rfl) <| jA (je (v := iv ((readDec ((splitB 32 t).getD 0 [])).1)) rfl rfl) <| jA (je (v := .bool ((readDec ((splitB 32 t).getD 0 [])).2)) rfl rfl) <| jA (jG (v := iv ((readDec ((splitB 32 t).getD 0 [])).1)) rfl) <| jA (jG (v := .bool ((readDec ((splitB 32 t).getD 0 [])).2)) rfl) <| jE <| jB <| jC <| jF <| jA (jG (v := .slice none 0 0) rfl) ?_
  refine jE <| jB <| jC <| jC <| jF <| jA (jD (v := .slice a_2 ((splitB 32 t).length) c_3) rfl) <| jA (jD (v := .slice a_2 ((splitB 32 t).length) c_3) rfl) <| jA (jr ku rfl) <| jA (PO.max2D (c := ((max (splitB 32 t).length 2 : Nat) : Int)) rfl rfl (by omega)) <| jA (kZ (c := (((max (splitB 32 t).length 2) - 1 : Nat) : Int)) rfl rfl (wr (by omega))) ?_
  refine kN fun hst => ?_
  obtain ⟨hf_6m, hf_6x, hf_6s, hf_6l⟩ := fits_of hst (i := 0) rfl
  refine jA (PO.sliceVlh (i := 1) (j := ((max (splitB 32 t).length 2) - 1)) ku kt hf_6s rfl rfl rfl (by omega) (by omega)) <| jA (jr ku rfl) <| jA (jD (v := iv 0) rfl) <| jE <| jB <| jf <| JC.nilRow 48 2 <| kD (fun k_ e_ L_ => ∃ j : Nat, ∃ oa : Option Addr, ∃ oc : Nat, ∃ o_ : List Cell, (j ≤ max (splitB 32 t).length 2 - 1 - 1) ∧ (o_.length ≤ j) ∧ (o_ = (((splitB 32 t).drop 1).take j).map readWord) ∧ e_ 0 = str t ∧ e_ 2 = iv 0 ∧ e_ 3 = .slice none 0 0 ∧ e_ 4 = .bool false ∧ e_ 6 = iv ((readDec ((splitB 32 t).getD 0 [])).1) ∧ e_ 8 = .slice oa o_.length oc ∧ e_ 35 = .slice (subA 1 a_2 c_3 1) (((max (splitB 32 t).length 2) - 1) - 1) (c_3 - 1) ∧ e_ 36 = iv ((((max (splitB 32 t).length 2) - 1) - 1 : Nat) : Int) ∧ e_ 37 = nv j ∧ L_ = [rC oa oc o_, rS a_2 c_3 (splitB 32 t)] ∧ k_ = (max (splitB 32 t).length 2 - 1 - 1) - j) _ ⟨0, none, 0, [], by omega, (by simp), (by simp), rfl, rfl, rfl, rfl, rfl, rfl, rfl, rfl, rfl, rfl, rfl⟩ ?_
  rintro _ e_7 _ ⟨j, oa, oc, o_, hj, hol, ho, he_8, he_9, he_10, he_11, he_12, he_13, he_14, he_15, he_16, rfl, rfl⟩
  refine jC <| jF <| jA (jl he_16 he_15) <| jE <| jB <| jC ?_
  by_cases h_17 : ((j : Nat) : Int) < ((((max (splitB 32 t).length 2) - 1) - 1 : Nat) : Int)
  · have hlt : j < (splitB 32 t).length := by omega
    refine jW (cB (dT h_17)) <| jT <| jB <| jC <| jf <| jC <| jF <| jA (PO.indexSub (lo := 1) (i := j) ku kt hr_5 hr_5b he_14 he_16 (by omega) (by omega)) <| jK (ka 1 (v := str ((splitB 32 t).getD (1 + j) [])) rfl rfl ki (atS (by omega))) <| jA (jG (v := str ((splitB 32 t).getD (1 + j) [])) rfl) ?_
    refine jE <| jB <| jC <| jF <| jA (jD (v := str ((splitB 32 t).getD (1 + j) [])) rfl) ?_
    refine jH rfl (jI [] Tryz.call114 rfl (Y_cut ((splitB 32 t).getD (1 + j) []) 61 (by have h_1 := splitB_get 32 t (1 + j); omega)) rfl (fun _ _ => trivial)) ?_
    rintro _ _ ⟨_, ⟨b_18, rfl, rfl⟩, rfl⟩
    refine jA (jD (v := .tuple #[str ((cutB 61 ((splitB 32 t).getD (1 + j) [])).1), str ((cutB 61 ((splitB 32 t).getD (1 + j) [])).2), .bool b_18]) rfl) <| jA (je (v := str ((cutB 61 ((splitB 32 t).getD (1 + j) [])).1)) rfl rfl) <| jA (je (v := str ((cutB 61 ((splitB 32 t).getD (1 + j) [])).2)) rfl rfl) <| jA (je (v := .bool b_18) rfl rfl) <| jA (jG (v := str ((cutB 61 ((splitB 32 t).getD (1 + j) [])).1)) rfl) <| jA (jG (v := str ((cutB 61 ((splitB 32 t).getD (1 + j) [])).2)) rfl) <| jA (jG (v := .bool b_18) rfl) <| jE <| jB <| jC ?_
    refine jF <| jA (jD (v := str ((cutB 61 ((splitB 32 t).getD (1 + j) [])).1)) rfl) ?_
    refine jH rfl (jI [] Tryz.call115 rfl (Y_iUnhex ((cutB 61 ((splitB 32 t).getD (1 + j) [])).1) (by have h_1 := splitB_get 32 t (1 + j); have h_2 := cutB_len 61 ((splitB 32 t).getD (1 + j) []); omega)) rfl (fun w hw => hw.hex hlow hpre)) ?_
    rintro _ _ ⟨_, ⟨rfl, rfl⟩, rfl⟩
    refine jA (jD (v := .tuple #[str ((unhex ((cutB 61 ((splitB 32 t).getD (1 + j) [])).1)).1), .bool ((unhex ((cutB 61 ((splitB 32 t).getD (1 + j) [])).1)).2)]) rfl) <| jA (je (v := str ((unhex ((cutB 61 ((splitB 32 t).getD (1 + j) [])).1)).1)) rfl rfl) <| jA (je (v := .bool ((unhex ((cutB 61 ((splitB 32 t).getD (1 + j) [])).1)).2)) rfl rfl) <| jA (jG (v := str ((unhex ((cutB 61 ((splitB 32 t).getD (1 + j) [])).1)).1)) rfl) <| jA (jG (v := .bool ((unhex ((cutB 61 ((splitB 32 t).getD (1 + j) [])).1)).2)) rfl) <| jE <| jB <| jC <| jF <| jA (jD (v := str ((cutB 61 ((splitB 32 t).getD (1 + j) [])).2)) rfl) ?_
    refine jH rfl (jI [] Tryz.call115 rfl (Y_iUnhex ((cutB 61 ((splitB 32 t).getD (1 + j) [])).2) (by have h_1 := splitB_get 32 t (1 + j); have h_2 := cutB_len 61 ((splitB 32 t).getD (1 + j) []); omega)) rfl (fun w hw => hw.hex hlow hpre)) ?_
    rintro _ _ ⟨_, ⟨rfl, rfl⟩, rfl⟩
    refine jA (jD (v := .tuple #[str ((unhex ((cutB 61 ((splitB 32 t).getD (1 + j) [])).2)).1), .bool ((unhex ((cutB 61 ((splitB 32 t).getD (1 + j) [])).2)).2)]) rfl) <| jA (je (v := str ((unhex ((cutB 61 ((splitB 32 t).getD (1 + j) [])).2)).1)) rfl rfl) <| jA (je (v := .bool ((unhex ((cutB 61 ((splitB 32 t).getD (1 + j) [])).2)).2)) rfl rfl) <| jA (jG (v := str ((unhex ((cutB 61 ((splitB 32 t).getD (1 + j) [])).2)).1)) rfl) <| jA (jG (v := .bool ((unhex ((cutB 61 ((splitB 32 t).getD (1 + j) [])).2)).2)) rfl) <| jE <| jB <| jF <| jA (jD (v := .slice oa o_.length oc) he_13) <| jA (jD (v := str ((unhex ((cutB 61 ((splitB 32 t).getD (1 + j) [])).1)).1)) rfl) ?_
    refine jA (jD (v := str ((unhex ((cutB 61 ((splitB 32 t).getD (1 + j) [])).2)).1)) rfl) <| jA (kW (ps := [(0, str ((unhex ((cutB 61 ((splitB 32 t).getD (1 + j) [])).1)).1)), (1, str ((unhex ((cutB 61 ((splitB 32 t).getD (1 + j) [])).2)).1))]) (cs := [str ((unhex ((cutB 61 ((splitB 32 t).getD (1 + j) [])).1)).1), str ((unhex ((cutB 61 ((splitB 32 t).getD (1 + j) [])).2)).1)]) rfl (by kernel_rfl)) ?_
    refine jH rfl (kH (ps := [(0, .agg #[str ((unhex ((cutB 61 ((splitB 32 t).getD (1 + j) [])).1)).1), str ((unhex ((cutB 61 ((splitB 32 t).getD (1 + j) [])).2)).1)])]) (cur := #[str ((unhex ((cutB 61 ((splitB 32 t).getD (1 + j) [])).1)).1), str ((unhex ((cutB 61 ((splitB 32 t).getD (1 + j) [])).2)).1)]) kf kh kw rfl (by kernel_rfl) (by decide) (by decide)) ?_
    rintro _ _ ⟨a_19, rfl, rfl⟩
    refine jH rfl (kU 1 (q := 1) (news := ([((unhex ((cutB 61 ((splitB 32 t).getD (1 + j) [])).1)).1, (unhex ((cutB 61 ((splitB 32 t).getD (1 + j) [])).2)).1)] : List Cell).flatMap encC) (n' := (o_ ++ ([((unhex ((cutB 61 ((splitB 32 t).getD (1 + j) [])).1)).1, (unhex ((cutB 61 ((splitB 32 t).getD (1 + j) [])).2)).1)] : List Cell)).length) (cs' := (o_ ++ ([((unhex ((cutB 61 ((splitB 32 t).getD (1 + j) [])).1)).1, (unhex ((cutB 61 ((splitB 32 t).getD (1 + j) [])).2)).1)] : List Cell)).flatMap encC) rfl kf kf ky rfl (by' := 32) rfl rfl rfl rfl rfl (fun w hw => Src.sees (hw.see (i := 0) rfl) (oneC _)) (by (try simp only [LE]); omega) (by (try simp only [LE]); omega) (by simp only [List.length_append, List.length_take, List.length_drop, List.length_cons, List.length_nil] <;> first | rfl | omega) (by simp only [List.flatMap_append])) ?_
    rintro _ _ ⟨a_20, c_21, rfl, rfl⟩
    refine jA (jG (v := .slice a_20 ((o_ ++ ([((unhex ((cutB 61 ((splitB 32 t).getD (1 + j) [])).1)).1, (unhex ((cutB 61 ((splitB 32 t).getD (1 + j) [])).2)).1)] : List Cell)).length) c_21) rfl) <| jE <| jm <| jB <| jF <| jA (jc (c := ((j + 1 : Nat) : Int)) he_16 rfl (wr (by omega))) <| jA (jD (v := iv ((j + 1 : Nat) : Int)) rfl) <| jE <| kB [1, 1] (A := [rC a_20 c_21 (o_ ++ ([((unhex ((cutB 61 ((splitB 32 t).getD (1 + j) [])).1)).1, (unhex ((cutB 61 ((splitB 32 t).getD (1 + j) [])).2)).1)] : List Cell)), rS a_2 c_3 (splitB 32 t)]) rfl ?_
    refine jq ((max (splitB 32 t).length 2 - 1 - 1) - (j + 1)) (by omega) ⟨j + 1, a_20, c_21, (o_ ++ ([((unhex ((cutB 61 ((splitB 32 t).getD (1 + j) [])).1)).1, (unhex ((cutB 61 ((splitB 32 t).getD (1 + j) [])).2)).1)] : List Cell)), by omega, (by (try simp only [List.length_append, List.length_cons, List.length_nil]); omega), (by have h_ := mids_step (p := splitB 32 t) (i := j + 1) (by omega) (by omega); simp only [Nat.add_sub_cancel] at h_; rw [h_, ← ho, Nat.add_comm 1 j]; rfl), he_8, he_9, he_10, he_11, he_12, rfl, he_14, he_15, rfl, rfl, rfl⟩
  refine jR (cB (dF h_17)) <| jx <| jb <| jb <| jy <| jB <| jC <| jC ?_
  have hokl : okC o_ := by rw [ho]; exact okC_read (by rw [List.length_take, List.length_drop]; omega)
  refine jF <| jA (jD (v := str t) he_8) <| jA (PO.eqlS rfl rfl) <| jA (jD (v := .bool (decide (t = []))) rfl) ?_
  by_cases h_22 : t = []
  · refine jS (b := true) rfl rfl rfl (cB (dT h_22)) <| jS (b := true) rfl rfl rfl (cB (dT h_22)) <| jS (b := true) rfl rfl rfl (cB (dT h_22)) <| jS (b := true) rfl rfl rfl (cB (dT h_22)) <| jS (b := true) rfl rfl rfl (cB (dT h_22)) <| jA (jh (v := .bool true) (cB (dT h_22)) rfl) <| jE <| jB <| jW (cB rfl) <| jC ?_
    refine jF <| jA (jG (v := iv 0) rfl) <| jA (jG (v := .slice none 0 0) rfl) <| jA (jG (v := .bool false) rfl) <| jE <| jB <| jN <| jX <| JQ.nilRow 48 2 <| Done.three (.inl rfl) rfl (jJ (v := iv 0) rfl) (jJ (v := .slice none 0 0) rfl) (jJ (v := .bool false) rfl) (tS 1 _) ?_
    have hmi : (midsOf (splitB 32 t)).map readWord = o_ := by rw [ho, midsOf, show j = (splitB 32 t).length - 2 by omega]
    have he : readI t = (0, [], false) := by unfold readI; rw [if_neg h_1, hmi, if_pos (by first | exact .inl (by assumption) | exact .inr (by assumption))]
    exact ⟨none, 0, by rw [he] <;> rfl, by rw [he] <;> rfl⟩
  refine jM rfl rfl rfl (cB (dF h_22)) (jP (jU (jD (v := iv ((readDec ((splitB 32 t).getD 0 [])).1)) he_12))) ?_
  rintro _ _ ⟨rfl, rfl⟩
  refine jM rfl rfl rfl (cB (dF h_22)) (jP (jU (jD (v := .slice oa o_.length oc) he_13))) ?_
  rintro _ _ ⟨rfl, rfl⟩
  refine jM rfl rfl rfl (cB (dF h_22)) (jI [] Tryz.call28 rfl (Y_iRec ((readDec ((splitB 32 t).getD 0 [])).1) oa oc o_ hokl) rfl (fun w hw => hw.see (i := 0) rfl)) ?_
  rintro _ _ ⟨_, ⟨rfl, rfl⟩, rfl⟩
  refine jM rfl rfl rfl (cB (dF h_22)) (jP (jU (jD (v := str t) he_8))) ?_
  rintro _ _ ⟨rfl, rfl⟩
  refine jM rfl rfl rfl (cB (dF h_22)) (jP (jU (PO.neqS rfl rfl))) ?_
  rintro _ _ ⟨rfl, rfl⟩
  refine jA (ji (v := .bool (!(decide ((recText ((readDec ((splitB 32 t).getD 0 [])).1) o_) = t)))) (cB (dF h_22)) rfl) <| jE <| jB ?_
  by_cases h_23 : (recText ((readDec ((splitB 32 t).getD 0 [])).1) o_) = t
  · refine jR (cB (cN (dT h_23))) <| jT <| jB <| jC <| jF <| jA (jD (v := iv ((readDec ((splitB 32 t).getD 0 [])).1)) he_12) <| jA (jD (v := .slice oa o_.length oc) he_13) <| jA (jG (v := iv ((readDec ((splitB 32 t).getD 0 [])).1)) rfl) <| jA (jG (v := .slice oa o_.length oc) rfl) <| jA (jG (v := .bool true) rfl) ?_
    refine jE <| jB <| jN <| Done.three (.inl rfl) rfl (jJ (v := iv ((readDec ((splitB 32 t).getD 0 [])).1)) rfl) (jJ (v := .slice oa o_.length oc) rfl) (jJ (v := .bool true) rfl) (tS 1 _) ?_
    have hmi : (midsOf (splitB 32 t)).map readWord = o_ := by rw [ho, midsOf, show j = (splitB 32 t).length - 2 by omega]
    have he : readI t = ((readDec ((splitB 32 t).getD 0 [])).1, o_, true) := by unfold readI; rw [if_neg h_1, hmi, if_neg (by rintro (h_ | h_) <;> simp_all)]
    exact ⟨oa, oc, by rw [he] <;> rfl, by rw [he] <;> rfl⟩
  refine jW (cB (cN (dF h_23))) <| jC <| jF <| jA (jG (v := iv 0) rfl) <| jA (jG (v := .slice none 0 0) rfl) <| jA (jG (v := .bool false) rfl) <| jE <| jB <| jN <| jX ?_
  refine JQ.nilRow 48 2 <| Done.three (.inl rfl) rfl (jJ (v := iv 0) rfl) (jJ (v := .slice none 0 0) rfl) (jJ (v := .bool false) rfl) (tS 1 _) ?_
  have hmi : (midsOf (splitB 32 t)).map readWord = o_ := by rw [ho, midsOf, show j = (splitB 32 t).length - 2 by omega]
  have he : readI t = (0, [], false) := by unfold readI; rw [if_neg h_1, hmi, if_pos (by first | exact .inl (by assumption) | exact .inr (by assumption))]
  exact ⟨none, 0, by rw [he] <;> rfl, by rw [he] <;> rfl⟩

end Go.Proofs.YtjncpgcccgdeiaaGreatDoor

set_option linter.unusedSimpArgs false
set_option linter.unusedVariables false
set_option linter.unnecessarySimpa false
namespace Go.Proofs.YtjncpgcccgdeiaaGreatDoor
open Go Go.RowKit
def sumLen (l : List Str) : Nat := l.foldr (fun x n => x.length + n) 0
theorem linesG_sum : ∀ (t b : Str), sumLen (linesG b t) ≤ b.length + t.length
  | [], b => Nat.zero_le _
  | c :: t, b => by
    unfold linesG
    split
    · have := linesG_sum t []
      simp only [sumLen, List.foldr_cons, List.length_append, List.length_cons, List.length_nil] at *
      omega
    · have := linesG_sum t (b ++ [c])
      simp only [List.length_append, List.length_cons, List.length_nil] at *
      omega
theorem linesG_mem : ∀ (t b x : Str), x ∈ linesG b t → x.length ≤ b.length + t.length
  | [], b, x, h => by cases h
  | c :: t, b, x, h => by
    unfold linesG at h
    split at h
    · rcases List.mem_cons.1 h with rfl | h
      · simp only [List.length_append, List.length_cons, List.length_nil]; omega
      · have := linesG_mem t [] x h; simp only [List.length_cons, List.length_nil] at *; omega
    · have := linesG_mem t (b ++ [c]) x h; simp only [List.length_append, List.length_cons, List.length_nil] at *; omega
theorem linesG_len : ∀ (t b : Str), (linesG b t).length ≤ t.length
  | [], b => Nat.le_refl _
  | c :: t, b => by
    unfold linesG
    split
    · have := linesG_len t []; simp only [List.length_cons]; omega
    · have := linesG_len t (b ++ [c]); simp only [List.length_cons]; omega
/-- The records of a journal from f on: their cells, and how many bytes they take with those before them; m are there already. -/
def recsG (f : Int) : Nat → List Str → List (List Cell) × Nat
  | _, [] => ([], 0)
  | m, x :: l =>
    if (readI x).2.2 = false then ([], 0)
    else if m = 0 ∧ (readI x).1 < f then ((recsG f m l).1, x.length + (recsG f m l).2)
    else if (readI x).1 = f + ((m : Nat) : Int) then ((readI x).2.1 :: (recsG f (m + 1) l).1, x.length + (recsG f (m + 1) l).2)
    else ([], 0)
def recsOf (t : Str) (f : Int) : List (List Cell) × Nat := if within 1 f 100000 = true then recsG f 0 (linesOf t) else ([], 0)
theorem recsG_sum (f : Int) : ∀ (l : List Str) (m : Nat), (recsG f m l).2 ≤ sumLen l ∧ (recsG f m l).1.length ≤ l.length
  | [], m => ⟨Nat.le_refl _, Nat.le_refl _⟩
  | x :: l, m => by
    have h1 := recsG_sum f l m
    have h2 := recsG_sum f l (m + 1)
    unfold recsG
    simp only [sumLen, List.foldr_cons, List.length_cons] at *
    split
    · exact ⟨Nat.zero_le _, Nat.zero_le _⟩
    · split
      · dsimp only; exact ⟨by omega, by omega⟩
      · split
        · dsimp only; simp only [List.length_cons]; exact ⟨by omega, by omega⟩
        · exact ⟨Nat.zero_le _, Nat.zero_le _⟩
theorem recsOf_le (t : Str) (f : Int) : (recsOf t f).2 ≤ t.length := by
  unfold recsOf
  split
  · have h1 := (recsG_sum f (linesOf t) 0).1
    have h2 := linesG_sum t []
    simp only [List.length_nil] at h2
    unfold linesOf at *
    omega
  · exact Nat.zero_le _
def mostOf (d : DD) : Int := (d.slots.getD (bestD d).toNat o0.t).seq
theorem diskOk_best {d : DD} (h : diskOk d = true) : ∃ q : Nat, bestD d = ((q : Nat) : Int) ∧ q < d.slots.length := by
  unfold diskOk diskOkF at h
  simp only [Bool.and_eq_true] at h
  obtain ⟨h1, h2, _⟩ := h
  rw [← bestF_any] at h2
  have h3 := of_decide_eq_true h2
  have h4 := bestF_lo (fun i => d.slots.getD i o0.t) d.slots.length
  exact ⟨(bestD d).toNat, by unfold bestD at *; omega, by unfold bestD at *; omega⟩
theorem diskOk_jour {d : DD} (h : diskOk d = true) : jourOk d.jt d.js = true := by
  unfold diskOk diskOkF at h
  simp only [Bool.and_eq_true] at h
  exact h.2.2.2
end Go.Proofs.YtjncpgcccgdeiaaGreatDoor

set_option linter.unusedSimpArgs false
set_option linter.unusedVariables false
set_option linter.unnecessarySimpa false
namespace Go.Proofs.YtjncpgcccgdeiaaGreatDoor
open Go Go.RowKit
section
variable {P : Program} {ops : Array Oper} {Q : Exit → Act → World → Prop} {n : Nat} {w0 : World} {D : List Nat} {L : List Res} {e : Env} {ro : Option Nat} {ds : List Deferred}
def fenceR (ro : Option Nat) : Fence := { Fence.wide with round := ro }
def actD (n : Nat) (e : Env) (ds : List Deferred) : Act := { tmps := Array.ofFn (n := n) (fun i => e i.val), defers := ds }
theorem actD_eval (n : Nat) (e : Env) (ds : List Deferred) : (actD n e ds).eval = rd n e := act_eval' n e
theorem actD_put (n : Nat) (e : Env) (ds : List Deferred) (d : Option Nat) (v : Value) : (actD n e ds).put d v = actD n (updO e d v) ds := by
  have h := act_put n e d v
  cases d with
  | none => rfl
  | some d => simp only [Act.put, act, actD, updO, Act.mk.injEq, and_true] at *; exact h
def JLi (ro : Option Nat) (ds : List Deferred) (P : Program) (ops : Array Oper) (Q : Exit → Act → World → Prop) (n : Nat) (w0 : World) (D : List Nat) (L : List Res) (l : List Oper) (e : Env) : Prop :=
  ∀ w, St w0 D L w → wpListIn (fenceR ro) 0 P ops Q l (actD n e ds) w
def JCi (ro : Option Nat) (ds : List Deferred) (P : Program) (Q : Exit → Act → World → Prop) (n : Nat) (w0 : World) (D : List Nat) (L : List Res) (c : Code) (e : Env) : Prop :=
  ∀ w, St w0 D L w → c.wpIn (fenceR ro) 0 P Q (actD n e ds) w
def JQi (ds : List Deferred) (Q : Exit → Act → World → Prop) (x : Exit) (n : Nat) (w0 : World) (D : List Nat) (L : List Res) (e : Env) : Prop :=
  ∀ w, St w0 D L w → Q x (actD n e ds) w
def plainO (o : Oper) : Bool := o.guard.isNone && (match o.op with | .defer _ => false | _ => true)
theorem JO.into {o : Oper} {Φ : Value → List Res → Prop} (hp : plainO o = true) (h : JO P n w0 D L e o Φ) {w : World} (hw : St w0 D L w) {K : Act → World → Prop} {Q : Exit → Act → World → Prop}
    (hK : ∀ v L' w', Φ v L' → St w0 D L' w' → K (actD n (updO e o.dst v) ds) w') : o.wpIn (fenceR ro) 0 P (actD n e ds) w K Q := by
  have h1 := h w hw (fun a w' => a.defers = [] ∧ K { a with defers := ds } w') (fun _ _ _ => False) (fun v L' w' hΦ hw' => ⟨rfl, hK v L' w' hΦ hw'⟩)
  have hsem : o.semAt (fenceR ro).round (actD n e ds).eval = execOp (act n e).eval o := by
    rw [actD_eval, act_eval', Oper.semAt_eq _ _ _ (fun c hc => by simp [plainO, hc] at hp)]
  unfold Oper.wp at h1
  unfold Oper.wpIn
  rw [hsem]
  refine ⟨fun _ _ => trivial, ?_⟩
  have hput : ∀ (u : Value), ({ (act n e).put o.dst u with defers := ds } : Act) = (actD n e ds).put o.dst u := fun u => by rw [act_put, actD_put]; rfl
  generalize (execOp (act n e).eval o).run P w = r at h1 ⊢
  cases r with
  | halt h w' => cases h <;> exact absurd h1 (by simp [Oper.upon])
  | ok v w' =>
    cases v with
    | value v => have := h1.2; rw [hput] at this; exact this
    | skip => have := h1.2; rw [hput] at this; exact this
    | defer d => exact absurd h1.1 (by cases o.dst <;> simp [Act.put])
    | enter f args =>
      refine ⟨fun h => by simp [fenceR, Fence.wide] at h, ?_⟩
      have h2 : CallsIn Fence.wide 0 P f args w' _ := callsIn_wide.2 h1
      refine CallsIn.mono (F := fenceR ro) (n := 0) h2 fun en w'' hen => ?_
      cases en with
      | returned v => have := hen.2; rw [hput] at this; exact this
      | panicked ch => exact hen.elim
      | outgrown => obtain ⟨_, _, h⟩ := hen; exact h.elim
    | row rw_ args =>
      refine ⟨fun h => by simp [fenceR, Fence.wide] at h, ?_⟩
      intro c cs _
      obtain ⟨v, w'', hR, hs⟩ := h1 c cs
      have := hR.2
      rw [hput] at this
      exact ⟨v, w'', this, stepsIn_wide.2 hs⟩
    | _ => exact h1.elim
theorem JLi.nil (h : JQi ds Q .normal n w0 D L e) : JLi ro ds P ops Q n w0 D L [] e := fun w hw => h w hw
theorem plainO_guard {o : Oper} (h : plainO o = true) : o.guard = none := by
  simp only [plainO, Bool.and_eq_true, Option.isNone_iff_eq_none] at h
  exact h.1
theorem JLi.op {o : Oper} {rest : List Oper} {Φ : Value → List Res → Prop} (hg : plainO o = true) (ho : JO P n w0 D L e o Φ)
    (h : ∀ v L', Φ v L' → JLi ro ds P ops Q n w0 D L' rest (updO e o.dst v)) : JLi ro ds P ops Q n w0 D L (o :: rest) e := fun w hw =>
  wpListIn_plain (plainO_guard hg) fun K hK => JO.into hg ho hw fun v L' w' hΦ hw' => hK _ _ (h v L' hΦ w' hw')
theorem JLi.pure {o : Oper} {rest : List Oper} {v : Value} (hg : plainO o = true) (ho : PO P n e o v)
    (h : JLi ro ds P ops Q n w0 D L rest (updO e o.dst v)) : JLi ro ds P ops Q n w0 D L (o :: rest) e :=
  JLi.op hg (JO.pure fun _ => ho) fun _ _ ⟨hv, hL⟩ => by subst hv; subst hL; exact h
theorem JLi.ld {o : Oper} {rest : List Oper} {v : Value} (hg : plainO o = true) (ho : LO P n w0 D L e o v)
    (h : JLi ro ds P ops Q n w0 D L rest (updO e o.dst v)) : JLi ro ds P ops Q n w0 D L (o :: rest) e :=
  JLi.op hg (jP ho) fun _ _ ⟨hv, hL⟩ => by subst hv; subst hL; exact h
theorem JLi.facts {l : List Oper} (h : (∃ w, St w0 D L w) → JLi ro ds P ops Q n w0 D L l e) : JLi ro ds P ops Q n w0 D L l e := fun w hw => h ⟨w, hw⟩ w hw
theorem JCi.region {id : Nat} {l : List Oper} (h : JLi ro ds P l.toArray Q n w0 D L l e) : JCi ro ds P Q n w0 D L (.region id l.toArray false) e := fun w hw => wpIn_region_lit (h w hw)
theorem JCi.seq {x y : Code} (h : JCi ro ds P (Exit.then (y.wpIn (fenceR ro) 0 P Q) Q) n w0 D L x e) : JCi ro ds P Q n w0 D L (.seq x y) e := fun w hw => wpIn_seq (h w hw)
theorem JQi.seq {y : Code} (h : JCi ro ds P Q n w0 D L y e) : JQi ds (Exit.then (y.wpIn (fenceR ro) 0 P Q) Q) .normal n w0 D L e := fun w hw => h w hw
theorem JCi.skip (h : JQi ds Q .normal n w0 D L e) : JCi ro ds P Q n w0 D L .skip e := fun w hw => wpIn_skip (h w hw)
theorem JCi.ret (h : JQi ds Q .ret n w0 D L e) : JCi ro ds P Q n w0 D L .ret e := fun w hw => wpIn_ret (h w hw)
theorem JCi.block {id : Nat} {c : Code} (h : JCi ro ds P (Exit.inBlock id Q) n w0 D L c e) : JCi ro ds P Q n w0 D L (.block id c) e := fun w hw => wpIn_block (h w hw)
theorem JQi.blockN {id : Nat} (h : JQi ds Q .normal n w0 D L e) : JQi ds (Exit.inBlock id Q) .normal n w0 D L e := fun w hw => h w hw
theorem JCi.condT {c : Operand} {x y : Code} (hc : rd n e c = .bool true) (h : JCi ro ds P Q n w0 D L x e) : JCi ro ds P Q n w0 D L (.cond c x y) e := fun w hw => wpIn_cond_true (by rw [actD_eval]; exact hc) (h w hw)
theorem JCi.condF {c : Operand} {x y : Code} (hc : rd n e c = .bool false) (h : JCi ro ds P Q n w0 D L y e) : JCi ro ds P Q n w0 D L (.cond c x y) e := fun w hw => wpIn_cond_false (by rw [actD_eval]; exact hc) (h w hw)
/-- A region with a call of yield, in the plain walk. -/
theorem JC.regionI {id : Nat} {l : List Oper} (h : JLi none [] P l.toArray Q n w0 D L l e) : JC P Q n w0 D L (.region id l.toArray false) e := fun w hw => (wpIn_wide (n := 0)).1 (wpIn_region_lit (h w hw))
/-- One block turned for another. -/
theorem St.putObj {i b : Nat} {o : Obj} {w : World} (h : St w0 D L w) (hL : L[i]? = some (.blk b o)) (o' : Obj) : St w0 D (L.set i (.blk b o')) (w.putObj b o') := by
  have hb : w.heap[b]? = some o := h.get hL
  have hlt := (Array.getElem?_eq_some_iff.1 hb).1
  refine h.turn1 hL rfl rfl rfl (by simp) (fun k _ hk => ?_) (World.putObj_heap_same hlt) (by simp [Res.ids]) (fun i hi => .inl hi)
  simp only [Res.ids, List.mem_singleton] at hk
  exact World.putObj_heap_other hk
/-- What a round is told: it hands back 'go on' and leaves such resources. -/
def Round (P : Program) (l : Nat) (v : Value) (w0 : World) (D : List Nat) (L : List Res) (Ψ : List Res → Prop) : Prop :=
  ∀ w, St w0 D L w → ∃ fn tmps assign body, (Instr.yield l #[v]).run P w = .ok (.round l fn tmps assign body) w ∧
    RoundIn Fence.wide 0 P l fn tmps assign body w (fun en w' => en = .returned (.bool true) ∧ ∃ L', Ψ L' ∧ St w0 D L' w')
theorem JLi.yield {l : Nat} {v : Value} {x y : Operand} {ats : Array TypeId} {d : Option Tmp} {ty : TypeId} {pos : String} {aft : Array Edge} {rest : List Oper} {Ψ : List Res → Prop} (hx : rd n e x = .func (.yield l) #[] #[]) (hy : rd n e y = v)
    (hr : Round P l v w0 D L Ψ) (h : ∀ L', Ψ L' → JLi none ds P ops Q n w0 D L' rest (updO e d (.bool true))) :
    JLi none ds P ops Q n w0 D L (⟨d, .call ⟨.value x, #[y], ats⟩, ty, pos, aft, none⟩ :: rest) e := fun w hw => by
  refine wpListIn_plain rfl fun K hK => ?_
  obtain ⟨fn, tmps, assign, body, hyl, hR⟩ := hr w hw
  have hrun : (execOp (rd n e) ⟨d, .call ⟨.value x, #[y], ats⟩, ty, pos, aft, none⟩).run P w = .ok (.round l fn tmps assign body) w := by
    simp [execOp, resolve, Deferred.ofValue, hx, hy, invoke, hyl]
  unfold Oper.wpIn
  refine ⟨fun _ _ => trivial, ?_⟩
  rw [show (fenceR none).round = none from rfl, Oper.semAt_none, actD_eval, hrun]
  refine ⟨fun h => by simp [fenceR, Fence.wide] at h, RoundIn.mono (F := Fence.wide) (n := 0) hR fun en w' hen => ?_⟩
  obtain ⟨rfl, L', hΨ, hw'⟩ := hen
  show K _ _
  rw [actD_put]
  exact hK _ _ (h L' hΨ w' hw')
/-- The left side is set, the record is ready: the round begins; at its end the record is ready anew. -/
theorem JQi.begin {i l : Nat} {r : Loop} {R : Ending → World → Prop} {body : Code} {ff : Exit → Act → World → Prop} (hL : L[i]? = some (.blk l (.loop r))) (hs : r.state = .ready)
    (h : JCi (some l) [] P (roundPost P l R) n w0 D (L.set i (.blk l (.loop { r with state := .busy }))) body e) :
    JQi [] (Exit.then (fun a₁ w₁ => ∃ w₂, (Instr.beginRound l).run P w₁ = .ok () w₂ ∧ body.wpIn (Fence.wide.inRound l) 0 P (roundPost P l R) a₁ w₂) ff) .normal n w0 D L e := fun w hw =>
  ⟨_, run_beginRound (hw.get hL) hs, h _ (hw.putObj hL _)⟩
theorem loop_back {r : Loop} (hs : r.state = .ready) (hp : r.pending = none) : ({ ({ r with state := .busy } : Loop) with state := .ready, pending := none } : Loop) = r := by
  cases r
  simp_all
theorem JQi.endr {i l : Nat} {r : Loop} {Ψ : List Res → Prop} (hL : L[i]? = some (.blk l (.loop { r with state := .busy }))) (hs : r.state = .ready) (hp : r.pending = none) (h : Ψ (L.set i (.blk l (.loop r)))) :
    JQi [] (roundPost P l (fun en w' => en = .returned (.bool true) ∧ ∃ L', Ψ L' ∧ St w0 D L' w')) .normal n w0 D L e := fun w hw => by
  have h1 := hw.putObj hL (.loop r)
  have h2 := run_endRound (P := P) none (hw.get hL)
  refine ⟨_, _, h2, rfl, _, h, ?_⟩
  have e2 := loop_back hs hp
  simp only [Option.isNone_none, if_true]
  rw [e2]
  exact h1
theorem Round.of {i l t : Nat} {r : Loop} {v : Value} {Ψ : List Res → Prop} {assign body : Code} (hL : L[i]? = some (.blk l (.loop r))) (hp : r.params = #[t]) (ht : r.tmps = (act n e).tmps) (ha : r.assign = assign) (hb : r.body = body)
    (h : JCi (some l) [] P (Exit.then (fun a₁ w₁ => ∃ w₂, (Instr.beginRound l).run P w₁ = .ok () w₂ ∧ body.wpIn (Fence.wide.inRound l) 0 P (roundPost P l (fun en w' => en = .returned (.bool true) ∧ ∃ L', Ψ L' ∧ St w0 D L' w')) a₁ w₂) (fun _ _ _ => False)) n w0 D L assign (updO e (some t) v)) :
    Round P l v w0 D L Ψ := fun w hw => by
  refine ⟨r.fn, _, r.assign, r.body, run_yield (hw.get hL) (by rw [hp]; rfl), roundIn_of_wpIn trivial ?_⟩
  have e1 : (r.params.zip #[v]).foldl (fun tmps (t, a) => tmps.setIfInBounds t a) r.tmps = (actD n (updO e (some t) v) []).tmps := by
    have := congrArg Act.tmps (act_put n e (some t) v)
    rw [hp, ht]
    have h2 : (act n (updO e (some t) v)).tmps = (actD n (updO e (some t) v) []).tmps := rfl
    rw [← h2]
    simpa [Act.put] using this
  rw [e1, ha, hb]
  exact h w hw
theorem Round.swap {l : Nat} {v : Value} {B : List Res} {R : List Res → Prop} (h : Round P l v w0 D (L ++ B) (fun L' => ∃ L1, R L1 ∧ L' = L1 ++ B)) : Round P l v w0 D (B ++ L) (fun L' => ∃ L1, R L1 ∧ L' = B ++ L1) := fun w hw => by
  obtain ⟨fn, tmps, assign, body, hy, hR⟩ := h w (hw.perm List.perm_append_comm)
  refine ⟨fn, tmps, assign, body, hy, RoundIn.mono hR fun en w' hen => ?_⟩
  obtain ⟨rfl, L', ⟨L1, h1, rfl⟩, hw'⟩ := hen
  exact ⟨rfl, _, ⟨L1, h1, rfl⟩, hw'.perm List.perm_append_comm⟩
/-- Behind the statement, in what was begun as a plain walk. -/
theorem JQi.seqW {y : Code} (h : JCi none ds P Q n w0 D L y e) : JQi ds (Exit.then (y.wp P Q) Q) .normal n w0 D L e := fun w hw => (wpIn_wide (n := 0)).1 (h w hw)
theorem JQi.ofQ {x : Exit} (h : JQ Q x n w0 D L e) : JQi [] Q x n w0 D L e := h
theorem JQi.sub {x : Exit} {L' : List Res} (hL : L'.Sublist L) (h : JQi ds Q x n w0 D L' e) : JQi ds Q x n w0 D L e := fun w hw => h w (hw.sub hL)
/-- The statement. -/
def recOf (fn : FuncId) (tmps : Array Value) (ps : Array Tmp) (assign body : Code) (bd : Nat) : Loop := { state := .ready, pending := none, fn := fn, tmps := tmps, params := ps, assign := assign, body := body, defers := bd }
def markOf (bd : Nat) : Deferred := { target := .collected bd, args := #[] }
theorem rangeFuncC {g : Operand} {ps : Array Tmp} {assign body : Code} {gf : FuncId} {lb : List Value} (hg : rd n e g = .func (.func gf) #[] lb.toArray) (hc : ∀ args w, (callFunc gf args).run P w = .ok (.enter gf args) w)
    (h : ∀ (bd l : Nat) (rc : Loop), rc.state = .ready → rc.pending = none → rc.params = ps → rc.tmps = (act n e).tmps → rc.assign = assign → rc.body = body → ∃ (is : List Nat) (A F : List Res) (Pre : World → Prop) (Post : Value → List Res → Prop),
      pick is (.blk l (.loop rc) :: .blk bd (.deferred (some [])) :: L) = some (A, F) ∧ Ct P gf (.func (.yield l) #[] #[] :: lb) A Pre Post ∧
      (∀ w, St w0 D (.blk l (.loop rc) :: .blk bd (.deferred (some [])) :: L) w → Pre w) ∧
      ∀ v A', Post v A' → ∃ (j : Nat) (r : Loop), (A' ++ F)[j]? = some (.blk l (.loop r)) ∧ r.state = .ready ∧ r.pending = none ∧ JQi [markOf bd] Q .normal n w0 D ((A' ++ F).set j (.blk l (.loop { r with state := .exhausted }))) e) :
    JC P Q n w0 D L (.rangeFunc g ps assign body) e := fun w hw => (wpIn_wide (n := 0)).1 <| by
  refine wpIn_rangeFunc fun fn _ => ?_
  obtain ⟨is, A, F, Pre, Post, hp, hct, hpre, hpost⟩ := h w.heap.size (w.heap.size + 1) (recOf fn (act n e).tmps ps assign body w.heap.size) rfl rfl rfl rfl rfl rfl
  have s1 := hw.alloc (.deferred (some []))
  have s2 := s1.alloc (.loop (recOf fn (act n e).tmps ps assign body w.heap.size))
  rw [World.size_alloc] at s2
  have hperm := pick_perm is hp
  have hA : Has A _ := ((s2.perm hperm.symm).sub (List.sublist_append_left _ _)).toHas
  refine ⟨w.heap.size + 1, [markOf w.heap.size], (w.alloc (.deferred (some []))).alloc (.loop (recOf fn (act n e).tmps ps assign body w.heap.size)), { target := .fn (.func gf) lb.toArray, args := #[.func (.yield (w.heap.size + 1)) #[] #[]] }, (w.alloc (.deferred (some []))).alloc (.loop (recOf fn (act n e).tmps ps assign body w.heap.size)), gf,
    #[.func (.yield (w.heap.size + 1)) #[] #[]] ++ lb.toArray, (w.alloc (.deferred (some []))).alloc (.loop (recOf fn (act n e).tmps ps assign body w.heap.size)), ?_, ?_, fun _ _ => trivial, ?_, fun h => by simp [Fence.wide] at h, ?_⟩
  · exact run_enterLoop_outer _ _ _ _ _
  · have he : (act n e).eval g = .func (.func gf) #[] lb.toArray := by rw [act_eval]; exact hg
    simp only [resolve, rangeCall, Deferred.ofValue]
    rw [he]
    simp [go_sem]
  · simp [invoke, hc]
  · refine callsIn_wide.2 ?_
    have := hct _ hA (hpre _ s2)
    rw [show ((Value.func (.yield (w.heap.size + 1)) #[] #[] :: lb).toArray) = #[.func (.yield (w.heap.size + 1)) #[] #[]] ++ lb.toArray by simp] at this
    refine this.mono fun en w' hen => ?_
    obtain ⟨v, A', rfl, hq, hst⟩ := hen
    have s3 := s2.turn hperm hst.os hst.tape hst.output hst.size hst.keep hst.holds hst.nodup hst.fresh
    obtain ⟨j, r, hj, hs, hpd, hQ⟩ := hpost v A' hq
    refine ⟨none, _, (run_endLoop (s3.get hj) (by rw [hs]; simp)).trans (by rw [hpd]), hQ _ (s3.putObj hj _)⟩
/-- A function that holds one. -/
theorem Ct.introM {f : FuncId} {fn : Func} {c : Code} {args : List Value} {A : List Res} {Pre : World → Prop} {Post : Value → List Res → Prop}
    (hf : P.funcs[f]? = some fn) (hb : fn.body = some c) (hn : fn.ntmps = n) (hle : args.length ≤ n)
    (h : ∀ w0, Pre w0 → JC P (bodyPostM Fence.wide 0 P fn (Done w0 (idsOf A) Post)) n w0 (idsOf A) A c (argEnv args)) : Ct P f args A Pre Post := fun w hA hpre => by
  refine callsIn_wide.1 (callsIn_of_wp_marks (n := 0) hf hb trivial ((wpIn_wide (n := 0)).2 ?_))
  rw [hn, act_args n args hle]
  exact h w hpre w (St.start hA)
theorem JQi.retM {fn : Func} {Post : Value → List Res → Prop} {j bd : Nat} (hL : L[j]? = some (.blk bd (.deferred (some [])))) (h : JQ (bodyPost P fn (Done w0 D Post)) .ret n w0 D (L.set j (.blk bd (.deferred none))) e) :
    JQi [markOf bd] (bodyPostM Fence.wide 0 P fn (Done w0 D Post)) .ret n w0 D L e := fun w hw => by
  obtain ⟨_, v, hv, hd⟩ := h _ (hw.putObj hL (.deferred none))
  exact ⟨by simp, .inl ⟨bd, _, rfl, run_takeDeferred (hw.get hL), v, hv, hd⟩⟩
end
end Go.Proofs.YtjncpgcccgdeiaaGreatDoor

set_option linter.unusedSimpArgs false
set_option linter.unusedVariables false
set_option linter.unnecessarySimpa false
namespace Go.Proofs.YtjncpgcccgdeiaaGreatDoor
open Go Go.RowKit
attribute [local irreducible] JL JC JQ JO LO PO JA JX Ct JLi JCi JQi

set_option maxRecDepth 4000 in
set_option maxHeartbeats 1000000 in
theorem Y_iter (l : Nat) (J : List Str → List Res → Prop) (s : Str) (hs : s.length ≤ 100000000) (b1 b2 b3 : Nat) (L0 : List Res) (hround : ∀ (w0 : World) (D : List Nat) (B : List Res) (pre : List Str) (x : Str) (L : List Res), J pre L → Lib.hasSuffix x [10] = true → x.length ≤ 100000000 → pre.length ≤ 100000000 → Round Tryz.prog l (str x) w0 D (L ++ B) (fun L' => ∃ L1, J (pre ++ [x]) L1 ∧ L' = L1 ++ B)) (hlast : ∀ (w0 : World) (D : List Nat) (B : List Res) (pre : List Str) (x : Str) (L : List Res), J pre L → Lib.hasSuffix x [10] = false → x.length ≤ 100000000 → pre.length ≤ 100000000 → Round Tryz.prog l (str x) w0 D (L ++ B) (fun L' => ∃ L1, J pre L1 ∧ L' = L1 ++ B)) (h0 : J [] L0) :
    Ct Tryz.prog 162 [.func (.yield l) #[] #[], .pointer (some ⟨b1, 0, none⟩), .pointer (some ⟨b2, 0, none⟩), .pointer (some ⟨b3, 0, none⟩)] ([bk b1 9 [str [10]], bk b2 9 [str s], bk b3 3 [.int .i64 1]] ++ L0) (fun _ => True) (fun v A' => ∃ L1, J (linesOf s) L1 ∧ A' = L1) := by
  refine Ct.intro Tryz.func162 rfl Tryz.ntmps162 (lb rfl) fun w0 hpre => ?_
  refine jC <| jC <| jF <| jK (jZ 0 (v := str [10]) rfl rfl ki rfl) <| jA (show PO _ _ _ _ (nv 1) from kF (a := [10]) kg rfl) <| jA (kO rfl rfl) <| jE <| jB ?_
  have h_1 : ¬ (((1 : Nat) : Int) = 0) := (by decide)
  refine jR (cB (dF h_1)) <| jT <| jB <| jC <| jf <| kD (fun k_ e_ L_ => ∃ pre : List Str, ∃ s_ : Str, ∃ LJ : List Res, (pre ++ linesOf s_ = linesOf s) ∧ (s_.length ≤ s.length) ∧ (J pre LJ) ∧ e_ 0 = .func (.yield l) #[] #[] ∧ e_ 1 = .pointer (some ⟨b1, 0, none⟩) ∧ e_ 2 = .pointer (some ⟨b2, 0, none⟩) ∧ e_ 3 = .pointer (some ⟨b3, 0, none⟩) ∧ L_ = ([bk b1 9 [str [10]], bk b2 9 [str s_], bk b3 3 [iv 1]] ++ LJ) ∧ k_ = s_.length) _ ⟨[], s, L0, rfl, by omega, h0, rfl, rfl, rfl, rfl, rfl, rfl⟩ ?_
  rintro _ e_2 _ ⟨pre, s_, LJ, hR, hl_, hJ, he_3, he_4, he_5, he_6, rfl, rfl⟩
  refine jf <| jC <| jF <| jK (jZ 1 (v := str s_) rfl he_5 ki rfl) <| jK (jZ 0 (v := str [10]) rfl he_4 ki rfl) ?_
  refine jH rfl (jI [] Tryz.call164 rfl (C_ix s_ 10) rfl (fun _ _ => trivial)) ?_
  rintro _ _ ⟨_, ⟨rfl, (⟨rfl, hn_11⟩ | ⟨i_7, rfl, hi_8, hf_9, hc_10⟩)⟩, rfl⟩
  · refine jA (jG (v := iv (-1)) rfl) <| jE <| jB <| jC <| jC <| jF <| jA (jD (v := iv (-1)) rfl) <| jA (jl rfl rfl) <| jE <| jB ?_
    have h_12 : (-1) < 0 := (by decide)
    refine jW (cB (dT h_12)) <| jx <| jb <| JQ.blockO rfl <| jb <| jy <| jB <| JC.regionI <| JLi.pure rfl (jD (v := .func (.yield l) #[] #[]) he_3) <| JLi.ld rfl (jZ 1 (v := str s_) rfl he_5 ki rfl) ?_
    refine JLi.yield (Ψ := fun L_ => ∃ L1, J (pre) L1 ∧ L_ = [bk b1 9 [str [10]], bk b2 9 [str s_], bk b3 3 [iv 1]] ++ L1) rfl rfl (Round.swap (hlast _ _ _ pre s_ LJ hJ (suffix_none hn_11) (by omega) (by have h_ := congrArg List.length hR; have h2_ := linesG_len s []; simp only [List.length_append, linesOf] at *; omega))) ?_
    rintro _ ⟨LJ_13, hJ_14, rfl⟩
    refine JLi.nil <| JQi.ofQ <| Done.none (A' := LJ_13) (.inr rfl) rfl (List.sublist_append_right _ _) ?_
    exact ⟨LJ_13, by rw [lines_no hn_11, List.append_nil] at hR; rw [← hR]; exact hJ_14, rfl⟩
  refine jA (jG (v := nv i_7) rfl) <| jE <| jB <| jC <| jC <| jF <| jA (jD (v := nv i_7) rfl) <| jA (jl rfl rfl) <| jE <| jB ?_
  have h_15 : ¬ (((i_7 : Nat) : Int) < 0) := (by omega)
  refine jR (cB (dF h_15)) <| jT <| jB <| jC <| jF <| jK (jZ 1 (v := str s_) rfl he_5 ki rfl) <| jA (jD (v := nv i_7) rfl) <| jK (jZ 2 (v := iv 1) rfl he_6 kq rfl) <| jA (jc (c := ((i_7 + 1 : Nat) : Int)) rfl rfl (wr (by omega))) <| jA (PO.sliceSh (j := (i_7 + 1)) kg rfl rfl (by omega)) ?_
  refine jA (jG (v := str (s_.take (i_7 + 1))) rfl) <| jE <| jB <| jC <| jC <| JC.regionI <| JLi.pure rfl (jD (v := .func (.yield l) #[] #[]) he_3) <| JLi.pure rfl (jD (v := str (s_.take (i_7 + 1))) rfl) ?_
  refine JLi.yield (Ψ := fun L_ => ∃ L1, J (pre ++ [s_.take (i_7 + 1)]) L1 ∧ L_ = [bk b1 9 [str [10]], bk b2 9 [str s_], bk b3 3 [iv 1]] ++ L1) rfl rfl (Round.swap (hround _ _ _ pre (s_.take (i_7 + 1)) LJ hJ (suffix_line hi_8 hc_10) (by rw [List.length_take]; omega) (by have h_ := congrArg List.length hR; have h2_ := linesG_len s []; simp only [List.length_append, linesOf] at *; omega))) ?_
  rintro _ ⟨LJ_16, hJ_17, rfl⟩
  refine JLi.pure rfl (jp rfl) <| JLi.nil <| JQi.ofQ <| jB <| jR (cB rfl) <| jT <| jB <| jF <| jK (jZ 1 (v := str s_) rfl he_5 ki rfl) <| jA (jD (v := nv i_7) rfl) ?_
  refine jK (jZ 0 (v := str [10]) rfl he_4 ki rfl) <| jA (show PO _ _ _ _ (nv 1) from kF (a := [10]) kg rfl) <| jA (jc (c := ((i_7 + 1 : Nat) : Int)) rfl rfl (wr (by omega))) <| jA (PO.sliceSl (i := (i_7 + 1)) kg rfl rfl (by omega)) ?_
  refine jH rfl (ja 1 (vs := [str (s_.drop (i_7 + 1))]) (cs' := [str (s_.drop (i_7 + 1))]) rfl he_5 rfl rfl kt rfl rfl (lb rfl) rfl) ?_
  rintro _ _ rfl
  refine jE <| jm ?_
  have hdl_ : (s_.drop (i_7 + 1)).length = s_.length - (i_7 + 1) := List.length_drop
  refine jq ((s_.drop (i_7 + 1)).length) (by omega) ⟨(pre ++ [s_.take (i_7 + 1)]), s_.drop (i_7 + 1), LJ_16, (by rw [List.append_assoc]; rw [lines_first hi_8 hf_9 hc_10] at hR; exact hR), (by rw [List.length_drop]; omega), hJ_17, he_3, he_4, he_5, he_6, rfl, rfl⟩

theorem Y_sseq (s : Str) :
    Ct Tryz.prog 142 [str s, str [10], .int .i64 1] [] (fun _ => True) (fun v A' => ∃ b1 b2 b3 : Nat, v = .func (.func 162) #[] #[.pointer (some ⟨b1, 0, none⟩), .pointer (some ⟨b2, 0, none⟩), .pointer (some ⟨b3, 0, none⟩)] ∧ A' = [bk b1 9 [str [10]], bk b2 9 [str s], bk b3 3 [.int .i64 1]]) := by
  refine Ct.intro Tryz.func142 rfl Tryz.ntmps142 (lb rfl) fun w0 hpre => ?_
  refine jC <| jF ?_
  refine jH rfl (kG (cs := [str s]) rfl rfl) ?_
  rintro _ _ ⟨b_1, rfl, rfl⟩
  refine jH rfl (kG (cs := [str [10]]) rfl rfl) ?_
  rintro _ _ ⟨b_2, rfl, rfl⟩
  refine jH rfl (kG (cs := [iv 1]) rfl rfl) ?_
  rintro _ _ ⟨b_3, rfl, rfl⟩
  refine jA (jG (v := .nilFunc) rfl) <| jE <| jB <| jC <| jF <| jA (PO.makeFunc (fv := []) (cv := [.pointer (some ⟨b_2, 0, none⟩), .pointer (some ⟨b_1, 0, none⟩), .pointer (some ⟨b_3, 0, none⟩)]) rfl rfl) <| jA (jG (v := .func (.func 162) #[] #[.pointer (some ⟨b_2, 0, none⟩), .pointer (some ⟨b_1, 0, none⟩), .pointer (some ⟨b_3, 0, none⟩)]) rfl) <| jE <| jB <| jN ?_
  refine kM (pick_perm [1, 1, 0] (A := [bk b_2 9 [str [10]], bk b_1 9 [str s], bk b_3 3 [iv 1]]) (F := []) rfl).symm <| jV (.inl rfl) rfl (jJ (v := .func (.func 162) #[] #[.pointer (some ⟨b_2, 0, none⟩), .pointer (some ⟨b_1, 0, none⟩), .pointer (some ⟨b_3, 0, none⟩)]) rfl) (tS 3 _) ?_
  exact ⟨b_2, b_1, b_3, rfl, rfl⟩

theorem Y_saft (s : Str) :
    Ct Tryz.prog 110 [str s, str [10]] [] (fun _ => True) (fun v A' => ∃ b1 b2 b3 : Nat, v = .func (.func 162) #[] #[.pointer (some ⟨b1, 0, none⟩), .pointer (some ⟨b2, 0, none⟩), .pointer (some ⟨b3, 0, none⟩)] ∧ A' = [bk b1 9 [str [10]], bk b2 9 [str s], bk b3 3 [.int .i64 1]]) := by
  refine Ct.intro Tryz.func110 rfl Tryz.ntmps110 (lb rfl) fun w0 hpre => ?_
  refine jC <| jF <| jA (jG (v := .nilFunc) rfl) <| jE <| jB <| jC <| jF <| jA (jD (v := str s) rfl) <| jA (jD (v := str [10]) rfl) <| jA (jD (v := str [10]) rfl) ?_
  refine jA (show PO _ _ _ _ (nv 1) from kF (a := [10]) kg rfl) ?_
  refine jH rfl (jI [] Tryz.call142 rfl (Y_sseq s) rfl (fun _ _ => trivial)) ?_
  rintro _ _ ⟨_, ⟨b_1, b_2, b_3, rfl, rfl⟩, rfl⟩
  refine jA (jG (v := .func (.func 162) #[] #[.pointer (some ⟨b_1, 0, none⟩), .pointer (some ⟨b_2, 0, none⟩), .pointer (some ⟨b_3, 0, none⟩)]) rfl) <| jE <| jB <| jN <| jV (.inl rfl) rfl (jJ (v := .func (.func 162) #[] #[.pointer (some ⟨b_1, 0, none⟩), .pointer (some ⟨b_2, 0, none⟩), .pointer (some ⟨b_3, 0, none⟩)]) rfl) (List.Sublist.refl _) ?_
  exact ⟨b_1, b_2, b_3, rfl, rfl⟩

set_option maxRecDepth 4000 in
set_option maxHeartbeats 1000000 in
theorem Y_iLines (s : Str) (hs : s.length ≤ 100000000) :
    Ct Tryz.prog 63 [str s] [] (fun _ => True) (fun v A' => ∃ a c, v = .slice a (linesOf s).length c ∧ A' = [.row (.slice a (linesOf s).length c) 9 1 (linesOf s).length ((linesOf s).map str)]) := by
  refine Ct.introM Tryz.func63 rfl Tryz.ntmps63 (lb rfl) fun w0 hpre => ?_
  refine jC <| jF <| jA (jG (v := .slice none 0 0) rfl) <| jE <| jB <| jC <| jF ?_
  refine jH rfl (jo (z := .slice none 0 0) (cs := [.slice none 0 0]) Tryz.zeroValue71 rfl) ?_
  rintro _ _ ⟨b_1, rfl, rfl⟩
  refine jE <| jB <| jC <| jC <| jF <| jA (jD (v := str s) rfl) ?_
  refine jH rfl (jI [] Tryz.call110 rfl (Y_saft s) rfl (fun _ _ => trivial)) ?_
  rintro _ _ ⟨_, ⟨b_2, b_3, b_4, rfl, rfl⟩, rfl⟩
  refine jE <| jB <| jf <| JC.nilRow 9 1 <| rangeFuncC (gf := 162) (lb := [.pointer (some ⟨b_2, 0, none⟩), .pointer (some ⟨b_3, 0, none⟩), .pointer (some ⟨b_4, 0, none⟩)]) rfl Tryz.call162 ?_
  intro bd_ l_ rc hst hpd hps htm has hbd
  refine ⟨[3, 3, 3, 0, 2, 1], _, _, _, _, rfl, Y_iter l_ (fun pre L => ∃ a c, L = [.blk l_ (.loop rc), bk b_1 71 [.slice a pre.length c], .row (.slice a pre.length c) 9 1 pre.length (pre.map str)]) s hs b_2 b_3 b_4 _ ?_ ?_ ⟨none, 0, rfl⟩, fun _ _ => trivial, ?_⟩
  · rintro w0 D B pre x _ ⟨a_, c_, rfl⟩ hx hxl hpl
    refine Round.of (i := 0) rfl hps htm has hbd <| JCi.region <| JLi.pure rfl (jG (v := str x) rfl) <| JLi.nil <| JQi.begin (i := 0) rfl hst <| JCi.block <| JCi.seq <| JCi.region <| JLi.pure rfl (jD (v := str x) rfl) <| JLi.op rfl (jI [] Tryz.call111 rfl (C_sfx x [10] (by omega)) rfl (fun _ _ => trivial)) ?_
    rintro _ _ ⟨_, ⟨rfl, rfl⟩, rfl⟩
    refine JLi.nil <| JQi.seq <| JCi.condT (cB hx) <| JCi.region <| JLi.ld rfl (jZ 1 (v := .slice a_ pre.length c_) rfl rfl Tryz.isAgg71 rfl) <| JLi.pure rfl (jD (v := str x) rfl) <| JLi.op rfl (kH (ps := [(0, str x)]) (cur := #[str x]) ku kt Tryz.zeroValue9 rfl (by kernel_rfl) (by decide) (by decide)) ?_
    rintro _ _ ⟨a_5, rfl, rfl⟩
    refine JLi.op rfl (kU 3 (q := 1) (news := ([x] : List Str).map str) (n' := (pre ++ ([x] : List Str)).length) (cs' := (pre ++ ([x] : List Str)).map str) rfl ku ku Tryz.typeInfo9 rfl (by' := 16) rfl rfl rfl rfl rfl (fun w hw => Src.sees (hw.see (i := 0) rfl) (oneS _)) (by (try simp only [LE]); omega) (by (try simp only [LE]); omega) (by simp only [List.length_append, List.length_take, List.length_drop, List.length_cons, List.length_nil] <;> first | rfl | omega) (by simp only [List.map_append])) ?_
    rintro _ _ ⟨a_6, c_7, rfl, rfl⟩
    refine JLi.op rfl (ja 2 (vs := [.slice a_6 ((pre ++ ([x] : List Str)).length) c_7]) (cs' := [.slice a_6 ((pre ++ ([x] : List Str)).length) c_7]) rfl rfl rfl rfl Tryz.sizeOf71 rfl rfl (lb rfl) rfl) ?_
    rintro _ _ rfl
    refine JLi.nil <| JQi.blockN <| JQi.sub (L' := ([.blk l_ (.loop { rc with state := .busy }), bk b_1 71 [.slice a_6 ((pre ++ ([x] : List Str)).length) c_7], rS a_6 c_7 (pre ++ ([x] : List Str))] ++ B)) (.cons _ (List.Sublist.refl _)) ?_
    exact JQi.endr (i := 0) rfl hst hpd ⟨_, ⟨a_6, c_7, rfl⟩, rfl⟩
  · rintro w0 D B pre x _ ⟨a_, c_, rfl⟩ hx hxl hpl
    refine Round.of (i := 0) rfl hps htm has hbd <| JCi.region <| JLi.pure rfl (jG (v := str x) rfl) <| JLi.nil <| JQi.begin (i := 0) rfl hst <| JCi.block <| JCi.seq <| JCi.region <| JLi.pure rfl (jD (v := str x) rfl) <| JLi.op rfl (jI [] Tryz.call111 rfl (C_sfx x [10] (by omega)) rfl (fun _ _ => trivial)) ?_
    rintro _ _ ⟨_, ⟨rfl, rfl⟩, rfl⟩
    refine JLi.nil <| JQi.seq <| JCi.condF (cB hx) <| JCi.skip <| JQi.blockN ?_
    exact JQi.endr (i := 0) rfl hst hpd ⟨_, ⟨a_, c_, rfl⟩, rfl⟩
  rintro _ _ ⟨_, ⟨a_, c_, rfl⟩, rfl⟩
  refine ⟨0, rc, rfl, hst, hpd, ?_⟩
  refine JQi.blockN <| JQi.seqW <| JCi.seq <| JCi.region <| JLi.ld rfl (jZ 1 (v := .slice a_ ((linesOf s).length) c_) rfl rfl Tryz.isAgg71 rfl) <| JLi.pure rfl (jG (v := .slice a_ ((linesOf s).length) c_) rfl) <| JLi.nil <| JQi.seq <| JCi.ret <| JQi.retM (j := 3) rfl ?_
  refine jV (A' := [rS a_ c_ (linesOf s)]) (.inl rfl) rfl (jJ (v := .slice a_ ((linesOf s).length) c_) rfl) (.cons _ (.cons _ (.cons_cons _ (.cons _ .slnil)))) ?_
  exact ⟨a_, c_, rfl, rfl⟩

end Go.Proofs.YtjncpgcccgdeiaaGreatDoor

set_option linter.unusedSimpArgs false
set_option linter.unusedVariables false
set_option linter.unnecessarySimpa false
namespace Go.Proofs.YtjncpgcccgdeiaaGreatDoor
open Go Go.RowKit
structure RT where
  cells : List Cell
structure RA where
  a0 : Option Addr
  c0 : Nat
structure RX where
  x : RA
  t : RT
def encR (p : RX) : List Value := [.slice p.x.a0 p.t.cells.length p.x.c0]
def rdsR (p : RX) : List RD := [⟨.slice p.x.a0 p.t.cells.length p.x.c0, 48, 2, p.t.cells.length, p.t.cells.flatMap encC⟩]
theorem encR_len (p : RX) : (encR p).length = 1 := rfl
def r0 : RX := ⟨⟨none, 0⟩, ⟨[]⟩⟩
theorem oneR (l : List RX) : ∀ u ∈ l.flatMap encR, u.oneCell' = true := flat_one (fun c u hu => by
  simp only [encR, List.mem_cons, List.not_mem_nil, or_false] at hu
  rcases hu with rfl <;> rfl) l
theorem seesR {w : World} {p : RX} (h : SeesA w (rdsR p)) : Sees w (.slice p.x.a0 p.t.cells.length p.x.c0) 2 p.t.cells.length (p.t.cells.flatMap encC) := h.head
def rdsRS (a : Option Addr) (c : Nat) (l : List RX) : List RD := ⟨.slice a l.length c, 49, 1, l.length, l.flatMap encR⟩ :: l.flatMap rdsR
def cellsR (p : RX) : List Cell := p.t.cells
section
variable {f : Int} {m n i : Nat} {L : List Str} {A : List (List Cell)} {R : List (List Cell) × Nat}
theorem recsG_step (h : i < L.length) : recsG f m (L.drop i) =
    if (readI (L.getD i [])).2.2 = false then ([], 0)
    else if m = 0 ∧ (readI (L.getD i [])).1 < f then ((recsG f m (L.drop (i + 1))).1, (L.getD i []).length + (recsG f m (L.drop (i + 1))).2)
    else if (readI (L.getD i [])).1 = f + ((m : Nat) : Int) then ((readI (L.getD i [])).2.1 :: (recsG f (m + 1) (L.drop (i + 1))).1, (L.getD i []).length + (recsG f (m + 1) (L.drop (i + 1))).2)
    else ([], 0) := by
  rw [drop_at (getD_some (d := []) h), recsG]
theorem recs_skip (h : i < L.length) (ho : (readI (L.getD i [])).2.2 = true) (hc : m = 0 ∧ (readI (L.getD i [])).1 < f) (hR : R = (A ++ (recsG f m (L.drop i)).1, n + (recsG f m (L.drop i)).2)) :
    R = (A ++ (recsG f m (L.drop (i + 1))).1, (n + (L.getD i []).length) + (recsG f m (L.drop (i + 1))).2) := by
  rw [recsG_step h, if_neg (by rw [ho]; decide), if_pos hc] at hR
  rw [hR, Nat.add_assoc]
theorem recs_take (h : i < L.length) (ho : (readI (L.getD i [])).2.2 = true) (hc : (readI (L.getD i [])).1 = f + ((m : Nat) : Int)) (hR : R = (A ++ (recsG f m (L.drop i)).1, n + (recsG f m (L.drop i)).2)) :
    R = ((A ++ [(readI (L.getD i [])).2.1]) ++ (recsG f (m + 1) (L.drop (i + 1))).1, (n + (L.getD i []).length) + (recsG f (m + 1) (L.drop (i + 1))).2) := by
  rw [recsG_step h, if_neg (by rw [ho]; decide), if_neg (by omega), if_pos hc] at hR
  rw [hR, Nat.add_assoc, List.append_assoc]
  rfl
theorem recs_bad (h : i < L.length) (ho : (readI (L.getD i [])).2.2 = false) (hR : R = (A ++ (recsG f m (L.drop i)).1, n + (recsG f m (L.drop i)).2)) : R = (A, n) := by
  rw [recsG_step h, if_pos ho] at hR
  rw [hR, List.append_nil]
  rfl
theorem recs_stop (h : i < L.length) (ho : (readI (L.getD i [])).2.2 = true) (hc : ¬ (m = 0 ∧ (readI (L.getD i [])).1 < f)) (he : ¬ (readI (L.getD i [])).1 = f + ((m : Nat) : Int)) (hR : R = (A ++ (recsG f m (L.drop i)).1, n + (recsG f m (L.drop i)).2)) : R = (A, n) := by
  rw [recsG_step h, if_neg (by rw [ho]; decide), if_neg hc, if_neg he] at hR
  rw [hR, List.append_nil]
  rfl
theorem recs_end (h : L.length ≤ i) (hR : R = (A ++ (recsG f m (L.drop i)).1, n + (recsG f m (L.drop i)).2)) : R = (A, n) := by
  rw [List.drop_of_length_le h, recsG] at hR
  rw [hR, List.append_nil]
  rfl
theorem sumLen_step (h : i < L.length) : sumLen (L.drop i) = (L.getD i []).length + sumLen (L.drop (i + 1)) := by
  rw [drop_at (getD_some (d := []) h)]
  rfl
end
end Go.Proofs.YtjncpgcccgdeiaaGreatDoor
