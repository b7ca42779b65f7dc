/-
  Texts of the walk, joined: what each one proves stands at its theorems.
-/
import Derived.Test.YtghfijncihbojaaGreatDoorS10SPEC
import Derived.Lib.HexFns2
import Derived.Test.YtghfijncihbojaaGreatDoorMo
import Derived.Lib.ConvBytes
set_option linter.unusedSimpArgs false
set_option linter.unusedVariables false
set_option linter.unnecessarySimpa false
namespace Go.Proofs.YtghfijncihbojaaGreatDoor
open Go Go.RowKit
attribute [local irreducible] JL JC JQ JO LO PO JA JX Ct

theorem C_sReadDec (t : Str) (ht : t.length ≤ 281474976710656) :
    Ct Tryz.prog 188 [str t] [] (fun _ => True) (fun v A' => v = .tuple #[.int .i64 (readDec t).1, .bool (readDec t).2] ∧ A' = []) := by
  refine Ct.intro Tryz.func188 rfl Tryz.ntmps188 (lb rfl) fun w0 hpre => ?_
  refine jD <| jF <| jA (jG (v := iv 0) rfl) <| jA (jG (v := .bool false) rfl) <| jE <| jB <| jD <| jD <| jF <| jA (jC (v := str t) rfl) ?_
  refine jA (kM kf rfl) <| jA (kU rfl rfl) <| jE <| jB ?_
  by_cases h_1 : 10 < (t.length : Int)
  · refine jQ (cB (dT h_1)) <| jD <| jF <| jA (jG (v := iv 0) rfl) <| jA (jG (v := .bool false) rfl) <| jE <| jB <| jM <| jb <| jn (.inl rfl) rfl (jN (v := iv 0) rfl) (jN (v := .bool false) rfl) (List.nil_sublist _) ?_
    refine ⟨?_, rfl⟩
    rw [readDec_long (by omega)]
  refine jR (cB (dF h_1)) <| jW <| jB <| jD <| jF <| jA (jG (v := iv 0) rfl) <| jE <| jB <| jD <| jD ?_
  refine jF <| jA (jG (v := iv 0) rfl) <| jE <| jB <| jl <| kE (fun k_ e_ L_ => ∃ j : Nat, ∃ n1 : Int, (j ≤ t.length) ∧ (0 ≤ n1) ∧ (n1 < ((10 ^ j : Nat) : Int)) ∧ (figs n1 (t.drop j) = figs 0 t) ∧ e_ 0 = str t ∧ e_ 4 = iv n1 ∧ e_ 5 = nv j ∧ L_ = [] ∧ k_ = t.length - j) _ ⟨0, 0, by omega, by omega, (by decide), rfl, rfl, rfl, rfl, rfl, rfl⟩ ?_
  rintro _ e_2 _ ⟨j, n1, hj, h0, hb, hR, he_3, he_4, he_5, rfl, rfl⟩
  refine jD <| jD <| jF <| jA (jC (v := nv j) he_5) <| jA (jC (v := str t) he_3) <| jA (kM kf rfl) <| jA (jr rfl rfl) <| jE <| jB ?_
  by_cases h_6 : ((j : Nat) : Int) < (t.length : Int)
  · have hlt : j < t.length := by omega
    have hpj : 10 ^ j ≤ 1000000000 := Nat.le_trans (Nat.pow_le_pow_right (by omega) (show j ≤ 9 by omega)) (by decide)
    refine jQ (cB (dT h_6)) <| jW <| jB <| jD <| jl <| jD <| jD <| jF <| jA (jC (v := str t) he_3) <| jA (jC (v := nv j) he_5) ?_
    refine jA (kY (i := j) (c := t.getD j 0) kf rfl rfl (getD_some (by omega))) ?_
    have hu_7 := UInt8.toNat_lt (t.getD j 0)
    refine jA (jr rfl rfl) <| jA (jC (v := .bool (decide (((t.getD j 0).toNat : Int) < 48))) rfl) ?_
    by_cases h_8 : ((t.getD j 0).toNat : Int) < 48
    · refine jO (b := true) rfl rfl rfl (cB (dT h_8)) <| jO (b := true) rfl rfl rfl (cB (dT h_8)) <| jO (b := true) rfl rfl rfl (cB (dT h_8)) <| jO (b := true) rfl rfl rfl (cB (dT h_8)) <| jA (jw (v := .bool true) (cB (dT h_8)) rfl) <| jE <| jB <| jQ (cB rfl) <| jD <| jF ?_
      refine jA (jG (v := iv 0) rfl) <| jA (jG (v := .bool false) rfl) <| jE <| jB <| jM <| jb <| kA <| jb <| jb <| kA ?_
      refine jb <| jn (.inl rfl) rfl (jN (v := iv 0) rfl) (jN (v := .bool false) rfl) (List.nil_sublist _) ?_
      refine ⟨?_, rfl⟩
      rw [figs_step hlt, if_neg (by omega)] at hR
      rw [readDec_figs (by omega), ← hR]
    refine jX rfl rfl rfl (cB (dF h_8)) (jZ (jd (jC (v := str t) he_3))) ?_
    rintro _ _ ⟨rfl, rfl⟩
    refine jX rfl rfl rfl (cB (dF h_8)) (jZ (jd (jC (v := nv j) he_5))) ?_
    rintro _ _ ⟨rfl, rfl⟩
    refine jX rfl rfl rfl (cB (dF h_8)) (jZ (jd (kY (i := j) (c := t.getD j 0) kf rfl rfl (getD_some (by omega))))) ?_
    rintro _ _ ⟨rfl, rfl⟩
    have hu_9 := UInt8.toNat_lt (t.getD j 0)
    refine jX rfl rfl rfl (cB (dF h_8)) (jZ (jd (kU rfl rfl))) ?_
    rintro _ _ ⟨rfl, rfl⟩
    refine jA (js (v := .bool (decide (57 < ((t.getD j 0).toNat : Int)))) (cB (dF h_8)) rfl) <| jE <| jB ?_
    by_cases h_10 : 57 < ((t.getD j 0).toNat : Int)
    · refine jQ (cB (dT h_10)) <| jD <| jF <| jA (jG (v := iv 0) rfl) <| jA (jG (v := .bool false) rfl) <| jE <| jB <| jM <| jb <| kA ?_
      refine jb <| jb <| kA <| jb <| jn (.inl rfl) rfl (jN (v := iv 0) rfl) (jN (v := .bool false) rfl) (List.nil_sublist _) ?_
      refine ⟨?_, rfl⟩
      rw [figs_step hlt, if_neg (by omega)] at hR
      rw [readDec_figs (by omega), ← hR]
    refine jR (cB (dF h_10)) <| jW <| jB <| jF <| jA (jC (v := iv n1) he_4) <| jA (PO.mul (c := 10 * n1) rfl rfl (wr (by omega))) <| jA (jC (v := str t) he_3) <| jA (jC (v := nv j) he_5) <| jA (kY (i := j) (c := t.getD j 0) kf rfl rfl (getD_some (by omega))) ?_
    have hu_11 := UInt8.toNat_lt (t.getD j 0)
    refine jA (PO.convI (c := ((t.getD j 0).toNat : Int)) kx gD rfl (wr (by omega))) <| jA (ji (c := (10 * n1) + ((t.getD j 0).toNat : Int)) rfl rfl (wr (by omega))) <| jA (kQ (c := ((10 * n1) + ((t.getD j 0).toNat : Int)) - 48) rfl rfl (wr (by omega))) <| jA (jG (v := iv (((10 * n1) + ((t.getD j 0).toNat : Int)) - 48)) rfl) <| jE <| jk <| jB <| jF <| jA (jC (v := nv j) he_5) <| jA (ji (c := ((j + 1 : Nat) : Int)) rfl rfl (wr (by omega))) ?_
    refine jA (jG (v := iv ((j + 1 : Nat) : Int)) rfl) <| jE ?_
    refine ju (t.length - (j + 1)) (by omega) ⟨j + 1, ((10 * n1) + ((t.getD j 0).toNat : Int)) - 48, by omega, by omega, (by rw [Nat.pow_succ]; omega), (by rw [figs_step hlt, if_pos (by omega)] at hR; exact hR), he_3, rfl, rfl, rfl, rfl⟩
  have hpj : 10 ^ j ≤ 10000000000 := Nat.le_trans (Nat.pow_le_pow_right (by omega) (show j ≤ 10 by omega)) (by decide)
  rw [List.drop_of_length_le (by omega), figs] at hR
  refine jR (cB (dF h_6)) <| kB <| jm <| jm <| kC <| jB <| jD <| jD <| jF <| jA (jC (v := iv n1) he_4) ?_
  refine jA (kU rfl rfl) <| jA (jC (v := .bool (decide (1000000000 < n1))) rfl) ?_
  by_cases h_12 : 1000000000 < n1
  · refine jO (b := true) rfl rfl rfl (cB (dT h_12)) <| jO (b := true) rfl rfl rfl (cB (dT h_12)) <| jO (b := true) rfl rfl rfl (cB (dT h_12)) <| jO (b := true) rfl rfl rfl (cB (dT h_12)) <| jA (jw (v := .bool true) (cB (dT h_12)) rfl) <| jE <| jB <| jQ (cB rfl) <| jD <| jF ?_
    refine jA (jG (v := iv 0) rfl) <| jA (jG (v := .bool false) rfl) <| jE <| jB <| jM <| jb <| jn (.inl rfl) rfl (jN (v := iv 0) rfl) (jN (v := .bool false) rfl) (List.nil_sublist _) ?_
    refine ⟨?_, rfl⟩
    rw [readDec_figs (by omega), ← hR]
    simp only
    rw [if_neg (fun h => by simp_all <;> omega)]
  refine jX rfl rfl rfl (cB (dF h_12)) (jZ (jd (jC (v := iv n1) he_4))) ?_
  rintro _ _ ⟨rfl, rfl⟩
  refine jX rfl rfl rfl (cB (dF h_12)) (jI [] Tryz.call135 rfl (C_sDec n1 (by omega) (by omega)) rfl (fun _ _ => trivial)) ?_
  rintro _ _ ⟨_, ⟨rfl, rfl⟩, rfl⟩
  refine jX rfl rfl rfl (cB (dF h_12)) (jZ (jd (jC (v := str t) he_3))) ?_
  rintro _ _ ⟨rfl, rfl⟩
  refine jX rfl rfl rfl (cB (dF h_12)) (jZ (jd (PO.neqS rfl rfl))) ?_
  rintro _ _ ⟨rfl, rfl⟩
  refine jA (js (v := .bool (!(decide ((dec n1) = t)))) (cB (dF h_12)) rfl) <| jE <| jB ?_
  by_cases h_13 : (dec n1) = t
  · refine jR (cB (cN (dT h_13))) <| jW <| jB <| jD <| jF <| jA (jC (v := iv n1) he_4) <| jA (jG (v := iv n1) rfl) <| jA (jG (v := .bool true) rfl) <| jE <| jB ?_
    refine jM <| jn (.inl rfl) rfl (jN (v := iv n1) rfl) (jN (v := .bool true) rfl) (List.nil_sublist _) ?_
    refine ⟨?_, rfl⟩
    rw [readDec_figs (by omega), ← hR]
    simp only
    rw [if_pos (by refine ⟨?_, ?_⟩ <;> first | omega | simp_all)]
  refine jQ (cB (cN (dF h_13))) <| jD <| jF <| jA (jG (v := iv 0) rfl) <| jA (jG (v := .bool false) rfl) <| jE <| jB <| jM <| jb <| jn (.inl rfl) rfl (jN (v := iv 0) rfl) (jN (v := .bool false) rfl) (List.nil_sublist _) ?_
  refine ⟨?_, rfl⟩
  rw [readDec_figs (by omega), ← hR]
  simp only
  rw [if_neg (fun h => by simp_all <;> omega)]

theorem C_sNumOf (t : Str) (ht : t.length ≤ 281474976710656) :
    Ct Tryz.prog 133 [str t] [] (fun _ => True) (fun v A' => v = .int .i64 (numOf t) ∧ A' = []) := by
  refine Ct.intro Tryz.func133 rfl Tryz.ntmps133 (lb rfl) fun w0 hpre => ?_
  refine jD <| jF <| jA (jG (v := iv 0) rfl) <| jE <| jB <| jD <| jF <| jA (jC (v := str t) rfl) ?_
  refine jH rfl (jI [] Tryz.call188 rfl (C_sReadDec t ht) rfl (fun _ _ => trivial)) ?_
  rintro _ _ ⟨_, ⟨rfl, rfl⟩, rfl⟩
  refine jA (jC (v := .tuple #[iv ((readDec t).1), .bool ((readDec t).2)]) rfl) <| jA (jS (v := iv ((readDec t).1)) rfl rfl) <| jA (jS (v := .bool ((readDec t).2)) rfl rfl) <| jA (jG (v := iv ((readDec t).1)) rfl) <| jA (jG (v := .bool ((readDec t).2)) rfl) <| jE <| jB <| jD <| jD <| jF ?_
  refine jA (jC (v := .bool ((readDec t).2)) rfl) <| jA (kF rfl) <| jA (jC (v := .bool (!((readDec t).2))) rfl) ?_
  rcases Bool.eq_false_or_eq_true ((readDec t).2) with h_1 | h_1
  · refine jX rfl rfl rfl (cB (cN h_1)) (jZ (jd (jC (v := iv ((readDec t).1)) rfl))) ?_
    rintro _ _ ⟨rfl, rfl⟩
    refine jX rfl rfl rfl (cB (cN h_1)) (jZ (jd (kU rfl rfl))) ?_
    rintro _ _ ⟨rfl, rfl⟩
    refine jA (js (v := .bool (decide (999 < ((readDec t).1)))) (cB (cN h_1)) rfl) <| jE <| jB ?_
    by_cases h_2 : 999 < ((readDec t).1)
    · refine jQ (cB (dT h_2)) <| jD <| jF <| jA (jG (v := iv 0) rfl) <| jE <| jB <| jM <| jb <| jU (.inl rfl) rfl (jN (v := iv 0) rfl) (List.nil_sublist _) ?_
      refine ⟨?_, rfl⟩
      unfold numOf
      first | rw [if_pos (by omega)] | (rw [if_neg (by omega)] <;> first | rfl | (congr 1; omega))
    refine jR (cB (dF h_2)) <| jW <| jB <| jD <| jF <| jA (jC (v := iv ((readDec t).1)) rfl) <| jA (jG (v := iv ((readDec t).1)) rfl) <| jE <| jB <| jM ?_
    refine jU (.inl rfl) rfl (jN (v := iv ((readDec t).1)) rfl) (List.nil_sublist _) ?_
    refine ⟨?_, rfl⟩
    unfold numOf
    first | rw [if_pos (by omega)] | (rw [if_neg (by omega)] <;> first | rfl | (congr 1; omega))
  refine jO (b := true) rfl rfl rfl (cB (cN h_1)) <| jO (b := true) rfl rfl rfl (cB (cN h_1)) <| jA (jw (v := .bool true) (cB (cN h_1)) rfl) <| jE <| jB <| jQ (cB rfl) <| jD <| jF <| jA (jG (v := iv 0) rfl) <| jE ?_
  refine jB <| jM <| jb <| jU (.inl rfl) rfl (jN (v := iv 0) rfl) (List.nil_sublist _) ?_
  refine ⟨?_, rfl⟩
  unfold numOf
  have hz := readDec_no h_1
  first | rw [if_pos (by omega)] | (rw [if_neg (by omega)] <;> first | rfl | (congr 1; omega))

theorem C_sLook (a0 a1 a2 : Option Addr) (c0_ c1 c2 : Nat) (m : MS) (key : Str) (h0 : m.s.length ≤ 5000000000) (h1 : m.r.length ≤ 5000000000) (h2 : m.w.length ≤ 5000000000) :
    Ct Tryz.prog 132 [.agg #[.slice a0 m.s.length c0_, .slice a1 m.r.length c1, .slice a2 m.w.length c2], str key] [Res.row (.slice a0 m.s.length c0_) 130 2 m.s.length (m.s.flatMap encC), Res.row (.slice a1 m.r.length c1) 9 1 m.r.length (m.r.map str), Res.row (.slice a2 m.w.length c2) 9 1 m.w.length (m.w.map str)] (fun _ => True) (fun v A' => ∃ x0 y0 x1 y1 x2 y2, v = .tuple #[.agg #[.slice x0 (((m.look key).1).s.length) y0, .slice x1 (((m.look key).1).r.length) y1, .slice x2 (((m.look key).1).w.length) y2], str (m.look key).2] ∧ A' = [Res.row (.slice x0 (((m.look key).1).s.length) y0) 130 2 ((((m.look key).1).s).length) ((((m.look key).1).s).flatMap encC), Res.row (.slice x1 (((m.look key).1).r.length) y1) 9 1 ((((m.look key).1).r).length) ((((m.look key).1).r).map str), Res.row (.slice x2 (((m.look key).1).w.length) y2) 9 1 ((((m.look key).1).w).length) ((((m.look key).1).w).map str)]) := by
  refine Ct.intro Tryz.func132 rfl Tryz.ntmps132 (lb rfl) fun w0 hpre => ?_
  refine jD <| jF ?_
  refine jH rfl (jv (cs := [.slice a0 m.s.length c0_, .slice a1 m.r.length c1, .slice a2 m.w.length c2]) rfl rfl) ?_
  rintro _ _ ⟨b_1, rfl, rfl⟩
  refine jH rfl (jh (z := zM) (cs := zC) kj rfl) ?_
  rintro _ _ ⟨b_2, rfl, rfl⟩
  refine jA (jG (v := str []) rfl) <| jE <| jB <| jD <| jF <| jA (jY fo58_1 rfl) <| jA (jY fo30_0 rfl) <| jT (jf 1 (v := .slice a1 m.r.length c1) rfl rfl ku rfl) <| jA (jC (v := str key) rfl) ?_
  refine jH rfl (jI [] Tryz.call159 rfl (C_sAddSpan a1 c1 m.r key (by omega)) rfl (fun w hw => hw.see (i := 3) rfl)) ?_
  rintro _ _ ⟨_, ⟨a_3, c_4, rfl, rfl⟩, rfl⟩
  refine jA (jY fo58_1 rfl) <| jA (jY fo30_0 rfl) ?_
  refine jH rfl (ja 2 (vs := [.slice a_3 ((addSpan m.r key).length) c_4]) (cs' := [.slice a0 m.s.length c0_, .slice a_3 ((addSpan m.r key).length) c_4, .slice a2 m.w.length c2]) rfl rfl rfl rfl gM rfl rfl (lb rfl) rfl) ?_
  rintro _ _ rfl
  refine jE <| jB <| jD <| jq [Res.row (.slice a_3 ((addSpan m.r key).length) c_4) 9 1 ((addSpan m.r key).length) ((addSpan m.r key).map str), bk b_1 58 [.slice a0 m.s.length c0_, .slice a_3 ((addSpan m.r key).length) c_4, .slice a2 m.w.length c2], Res.row (.slice a0 m.s.length c0_) 130 2 m.s.length (m.s.flatMap encC), Res.row (.slice a1 m.r.length c1) 9 1 m.r.length (m.r.map str), Res.row (.slice a2 m.w.length c2) 9 1 m.w.length (m.w.map str)] 6 mixed (by simp) <| jj 0 rfl (je 1 (vs := [.slice a0 m.s.length c0_, .slice a_3 ((addSpan m.r key).length) c_4, .slice a2 m.w.length c2]) rfl rfl gK gB rfl rfl) <| jJ 1 rfl (jY fo58_0 rfl) <| jj 2 rfl (jf 1 (v := .slice a0 m.s.length c0_) rfl rfl gL rfl) <| jJ 3 rfl (jC (v := str key) rfl) <| jK (i := 4) ?_
  refine jP rfl rfl (jI [] Tryz.call187 rfl (C_sGetKey a0 c0_ m.s key (by omega)) rfl (fun w hw => hw.see (i := 3) rfl)) ?_
  rintro _ _ ⟨_, ⟨rfl, rfl⟩, rfl⟩
  refine ⟨by simp, ?_⟩
  refine jK (i := 5) ?_
  refine jP rfl rfl (ja 1 (vs := [.slice a0 m.s.length c0_, .slice a_3 ((addSpan m.r key).length) c_4, .slice a2 m.w.length c2]) (cs' := [.slice a0 m.s.length c0_, .slice a_3 ((addSpan m.r key).length) c_4, .slice a2 m.w.length c2]) rfl rfl rfl rfl gB rfl rfl (lb rfl) rfl) ?_
  rintro _ _ rfl
  refine ⟨by simp, ?_⟩
  refine jJ 6 rfl (jG (v := str (getKey m.s key)) rfl) <| kI (by kernel_rfl) <| jB <| jM <| kK (pick_perm [3, 0, 3] (A := [Res.row (.slice a0 m.s.length c0_) 130 2 m.s.length (m.s.flatMap encC), Res.row (.slice a_3 ((addSpan m.r key).length) c_4) 9 1 ((addSpan m.r key).length) ((addSpan m.r key).map str), Res.row (.slice a2 m.w.length c2) 9 1 m.w.length (m.w.map str)]) (F := [bk b_2 58 [.slice a0 m.s.length c0_, .slice a_3 ((addSpan m.r key).length) c_4, .slice a2 m.w.length c2], bk b_1 58 [.slice a0 m.s.length c0_, .slice a_3 ((addSpan m.r key).length) c_4, .slice a2 m.w.length c2], Res.row (.slice a1 m.r.length c1) 9 1 m.r.length (m.r.map str)]) rfl).symm <| jn (.inl rfl) rfl (jg (je 3 (vs := [.slice a0 m.s.length c0_, .slice a_3 ((addSpan m.r key).length) c_4, .slice a2 m.w.length c2]) rfl rfl gK gB rfl rfl) ⟨_, rfl⟩) (jN (v := str (getKey m.s key)) rfl) (tS 3 _) ?_
  exact ⟨_, _, _, _, _, _, rfl, rfl⟩

theorem C_sLay (a0 a1 a2 : Option Addr) (c0_ c1 c2 : Nat) (m : MS) (key val : Str) (h0 : m.s.length ≤ 5000000000) (h1 : m.r.length ≤ 5000000000) (h2 : m.w.length ≤ 5000000000) (hk : key.length ≤ 1000000000000) :
    Ct Tryz.prog 134 [.agg #[.slice a0 m.s.length c0_, .slice a1 m.r.length c1, .slice a2 m.w.length c2], str key, str val] [Res.row (.slice a0 m.s.length c0_) 130 2 m.s.length (m.s.flatMap encC), Res.row (.slice a1 m.r.length c1) 9 1 m.r.length (m.r.map str), Res.row (.slice a2 m.w.length c2) 9 1 m.w.length (m.w.map str)] (fun _ => True) (fun v A' => ∃ x0 y0 x1 y1 x2 y2, v = .agg #[.slice x0 ((m.lay key val).s.length) y0, .slice x1 ((m.lay key val).r.length) y1, .slice x2 ((m.lay key val).w.length) y2] ∧ A' = [Res.row (.slice x0 ((m.lay key val).s.length) y0) 130 2 (((m.lay key val).s).length) (((m.lay key val).s).flatMap encC), Res.row (.slice x1 ((m.lay key val).r.length) y1) 9 1 (((m.lay key val).r).length) (((m.lay key val).r).map str), Res.row (.slice x2 ((m.lay key val).w.length) y2) 9 1 (((m.lay key val).w).length) (((m.lay key val).w).map str)]) := by
  refine Ct.intro Tryz.func134 rfl Tryz.ntmps134 (lb rfl) fun w0 hpre => ?_
  refine jD <| jF ?_
  refine jH rfl (jv (cs := [.slice a0 m.s.length c0_, .slice a1 m.r.length c1, .slice a2 m.w.length c2]) rfl rfl) ?_
  rintro _ _ ⟨b_1, rfl, rfl⟩
  refine jH rfl (jh (z := zM) (cs := zC) kj rfl) ?_
  rintro _ _ ⟨b_2, rfl, rfl⟩
  refine jE <| jB <| jD <| jF <| jA (jY fo58_1 rfl) <| jA (jY fo30_1 rfl) <| jT (jf 1 (v := .slice a2 m.w.length c2) rfl rfl ku rfl) <| jA (jC (v := str key) rfl) ?_
  refine jH rfl (jI [] Tryz.call159 rfl (C_sAddSpan a2 c2 m.w key (by omega)) rfl (fun w hw => hw.see (i := 4) rfl)) ?_
  rintro _ _ ⟨_, ⟨a_3, c_4, rfl, rfl⟩, rfl⟩
  refine jA (jY fo58_1 rfl) <| jA (jY fo30_1 rfl) ?_
  refine jH rfl (ja 2 (vs := [.slice a_3 ((addSpan m.w key).length) c_4]) (cs' := [.slice a0 m.s.length c0_, .slice a1 m.r.length c1, .slice a_3 ((addSpan m.w key).length) c_4]) rfl rfl rfl rfl gM rfl rfl (lb rfl) rfl) ?_
  rintro _ _ rfl
  refine jE <| jB <| jD <| jF <| jA (jY fo58_0 rfl) <| jT (jf 2 (v := .slice a0 m.s.length c0_) rfl rfl gL rfl) <| jA (jC (v := str key) rfl) <| jA (jC (v := str val) rfl) ?_
  refine jH rfl (jI [] Tryz.call189 rfl (C_sPutKey a0 c0_ m.s key val (by omega) (by omega)) rfl (fun w hw => hw.see (i := 3) rfl)) ?_
  rintro _ _ ⟨_, ⟨a_5, c_6, rfl, rfl⟩, rfl⟩
  refine jA (jY fo58_0 rfl) ?_
  refine jH rfl (ja 3 (vs := [.slice a_5 ((putKey m.s key val).length) c_6]) (cs' := [.slice a_5 ((putKey m.s key val).length) c_6, .slice a1 m.r.length c1, .slice a_3 ((addSpan m.w key).length) c_4]) rfl rfl rfl rfl Tryz.sizeOf40 rfl rfl (lb rfl) rfl) ?_
  rintro _ _ rfl
  refine jE <| jB <| jD <| jF <| jT (je 3 (vs := [.slice a_5 ((putKey m.s key val).length) c_6, .slice a1 m.r.length c1, .slice a_3 ((addSpan m.w key).length) c_4]) rfl rfl gK gB rfl rfl) ?_
  refine jH rfl (ja 2 (vs := [.slice a_5 ((putKey m.s key val).length) c_6, .slice a1 m.r.length c1, .slice a_3 ((addSpan m.w key).length) c_4]) (cs' := [.slice a_5 ((putKey m.s key val).length) c_6, .slice a1 m.r.length c1, .slice a_3 ((addSpan m.w key).length) c_4]) rfl rfl rfl rfl gB rfl rfl (lb rfl) rfl) ?_
  rintro _ _ rfl
  refine jE <| jB <| jM <| kK (pick_perm [0, 4, 0] (A := [Res.row (.slice a_5 ((putKey m.s key val).length) c_6) 130 2 ((putKey m.s key val).length) ((putKey m.s key val).flatMap encC), Res.row (.slice a1 m.r.length c1) 9 1 m.r.length (m.r.map str), Res.row (.slice a_3 ((addSpan m.w key).length) c_4) 9 1 ((addSpan m.w key).length) ((addSpan m.w key).map str)]) (F := [bk b_2 58 [.slice a_5 ((putKey m.s key val).length) c_6, .slice a1 m.r.length c1, .slice a_3 ((addSpan m.w key).length) c_4], bk b_1 58 [.slice a_5 ((putKey m.s key val).length) c_6, .slice a1 m.r.length c1, .slice a_3 ((addSpan m.w key).length) c_4], Res.row (.slice a0 m.s.length c0_) 130 2 m.s.length (m.s.flatMap encC), Res.row (.slice a2 m.w.length c2) 9 1 m.w.length (m.w.map str)]) rfl).symm <| jU (.inl rfl) rfl (jg (je 3 (vs := [.slice a_5 ((putKey m.s key val).length) c_6, .slice a1 m.r.length c1, .slice a_3 ((addSpan m.w key).length) c_4]) rfl rfl gK gB rfl rfl) ⟨_, rfl⟩) (tS 3 _) ?_
  exact ⟨_, _, _, _, _, _, rfl, rfl⟩

theorem C_sBump (a0 a1 a2 : Option Addr) (c0_ c1 c2 : Nat) (m : MS) (key : Str) (h0 : m.s.length ≤ 2000000000) (h1 : m.r.length ≤ 2000000000) (h2 : m.w.length ≤ 2000000000) (hv : (getKey m.s key).length ≤ 281474976710656) (hk : key.length ≤ 1000000000000) :
    Ct Tryz.prog 68 [.agg #[.slice a0 m.s.length c0_, .slice a1 m.r.length c1, .slice a2 m.w.length c2], str key] [Res.row (.slice a0 m.s.length c0_) 130 2 m.s.length (m.s.flatMap encC), Res.row (.slice a1 m.r.length c1) 9 1 m.r.length (m.r.map str), Res.row (.slice a2 m.w.length c2) 9 1 m.w.length (m.w.map str)] (fun _ => True) (fun v A' => ∃ x0 y0 x1 y1 x2 y2, v = .tuple #[.agg #[.slice x0 (((m.bump key).1).s.length) y0, .slice x1 (((m.bump key).1).r.length) y1, .slice x2 (((m.bump key).1).w.length) y2], .int .i64 (m.bump key).2] ∧ A' = [Res.row (.slice x0 (((m.bump key).1).s.length) y0) 130 2 ((((m.bump key).1).s).length) ((((m.bump key).1).s).flatMap encC), Res.row (.slice x1 (((m.bump key).1).r.length) y1) 9 1 ((((m.bump key).1).r).length) ((((m.bump key).1).r).map str), Res.row (.slice x2 (((m.bump key).1).w.length) y2) 9 1 ((((m.bump key).1).w).length) ((((m.bump key).1).w).map str)]) := by
  refine Ct.intro Tryz.func68 rfl Tryz.ntmps68 (lb rfl) fun w0 hpre => ?_
  refine jD <| jF ?_
  refine jH rfl (jv (cs := [.slice a0 m.s.length c0_, .slice a1 m.r.length c1, .slice a2 m.w.length c2]) rfl rfl) ?_
  rintro _ _ ⟨b_1, rfl, rfl⟩
  refine jH rfl (jh (z := zM) (cs := zC) kj rfl) ?_
  rintro _ _ ⟨b_2, rfl, rfl⟩
  refine jA (jG (v := iv 0) rfl) <| jE <| jB <| jD <| jF <| jT (je 1 (vs := [.slice a0 m.s.length c0_, .slice a1 m.r.length c1, .slice a2 m.w.length c2]) rfl rfl gK gB rfl rfl) <| jA (jC (v := str key) rfl) ?_
  refine jH rfl (jI [2, 2, 2] Tryz.call132 rfl (C_sLook a0 a1 a2 c0_ c1 c2 m key (by omega) (by omega) (by omega)) rfl (fun _ _ => trivial)) ?_
  rintro _ _ ⟨_, ⟨a_3, c_4, a_5, c_6, a_7, c_8, rfl, rfl⟩, rfl⟩
  have hlk8 := look_len m key
  refine jA (jC (v := .tuple #[.agg #[.slice a_3 (((MS.look m key).1).s.length) c_4, .slice a_5 (((MS.look m key).1).r.length) c_6, .slice a_7 (((MS.look m key).1).w.length) c_8], str ((MS.look m key).2)]) rfl) <| jA (jS (v := .agg #[.slice a_3 (((MS.look m key).1).s.length) c_4, .slice a_5 (((MS.look m key).1).r.length) c_6, .slice a_7 (((MS.look m key).1).w.length) c_8]) rfl rfl) <| jA (jS (v := str ((MS.look m key).2)) rfl rfl) ?_
  refine jH rfl (ja 4 (vs := [.slice a_3 (((MS.look m key).1).s.length) c_4, .slice a_5 (((MS.look m key).1).r.length) c_6, .slice a_7 (((MS.look m key).1).w.length) c_8]) (cs' := [.slice a_3 (((MS.look m key).1).s.length) c_4, .slice a_5 (((MS.look m key).1).r.length) c_6, .slice a_7 (((MS.look m key).1).w.length) c_8]) rfl rfl rfl rfl gB rfl rfl (lb rfl) rfl) ?_
  rintro _ _ rfl
  refine jA (jG (v := str ((MS.look m key).2)) rfl) <| jE <| jB <| jD <| jF <| jA (jC (v := str ((MS.look m key).2)) rfl) ?_
  refine jH rfl (jI [] Tryz.call133 rfl (C_sNumOf ((MS.look m key).2) hv) rfl (fun _ _ => trivial)) ?_
  rintro _ _ ⟨_, ⟨rfl, rfl⟩, rfl⟩
  have hno8 := numOf_lo ((MS.look m key).2)
  refine jA (ji (c := (numOf ((MS.look m key).2)) + 1) rfl rfl (wr (by omega))) <| jA (jG (v := iv ((numOf ((MS.look m key).2)) + 1)) rfl) <| jE <| jB <| jD <| jD <| jF <| jA (jC (v := iv ((numOf ((MS.look m key).2)) + 1)) rfl) <| jA (kU rfl rfl) <| jE ?_
  refine jB ?_
  by_cases h_9 : 999 < ((numOf ((MS.look m key).2)) + 1)
  · refine jQ (cB (dT h_9)) <| jD <| jF <| jT (je 4 (vs := [.slice a_3 (((MS.look m key).1).s.length) c_4, .slice a_5 (((MS.look m key).1).r.length) c_6, .slice a_7 (((MS.look m key).1).w.length) c_8]) rfl rfl gK gB rfl rfl) ?_
    refine jH rfl (ja 3 (vs := [.slice a_3 (((MS.look m key).1).s.length) c_4, .slice a_5 (((MS.look m key).1).r.length) c_6, .slice a_7 (((MS.look m key).1).w.length) c_8]) (cs' := [.slice a_3 (((MS.look m key).1).s.length) c_4, .slice a_5 (((MS.look m key).1).r.length) c_6, .slice a_7 (((MS.look m key).1).w.length) c_8]) rfl rfl rfl rfl gB rfl rfl (lb rfl) rfl) ?_
    rintro _ _ rfl
    refine jA (jG (v := iv 0) rfl) <| jE <| jB <| jM <| jb <| jn (.inl rfl) rfl (jg (je 3 (vs := [.slice a_3 (((MS.look m key).1).s.length) c_4, .slice a_5 (((MS.look m key).1).r.length) c_6, .slice a_7 (((MS.look m key).1).w.length) c_8]) rfl rfl gK gB rfl rfl) ⟨_, rfl⟩) (jN (v := iv 0) rfl) (tS 3 _) ?_
    have hq : (m.num key).2 = numOf (m.look key).2 := rfl
    have hb : m.bump key = ((m.num key).1, 0) := by unfold MS.bump; rw [if_pos (by omega)]
    rw [hb]
    exact ⟨_, _, _, _, _, _, rfl, rfl⟩
  refine jR (cB (dF h_9)) <| jW <| jB <| jD <| jq [bk b_1 58 [.slice a_3 (((MS.look m key).1).s.length) c_4, .slice a_5 (((MS.look m key).1).r.length) c_6, .slice a_7 (((MS.look m key).1).w.length) c_8]] 6 mixed (by simp) <| jj 0 rfl (je 0 (vs := [.slice a_3 (((MS.look m key).1).s.length) c_4, .slice a_5 (((MS.look m key).1).r.length) c_6, .slice a_7 (((MS.look m key).1).w.length) c_8]) rfl rfl gK gB rfl rfl) <| jJ 1 rfl (jC (v := str key) rfl) <| jJ 2 rfl (jC (v := iv ((numOf ((MS.look m key).2)) + 1)) rfl) <| jJ 5 rfl (jC (v := iv ((numOf ((MS.look m key).2)) + 1)) rfl) <| jK (i := 3) ?_
  refine jP rfl rfl (jI [] Tryz.call135 rfl (C_sDec ((numOf ((MS.look m key).2)) + 1) (by omega) (by omega)) rfl (fun _ _ => trivial)) ?_
  rintro _ _ ⟨_, ⟨rfl, rfl⟩, rfl⟩
  refine ⟨by simp, ?_⟩
  refine jK (i := 4) ?_
  refine jP rfl rfl (jI [0, 0, 0] Tryz.call134 rfl (C_sLay a_3 a_5 a_7 c_4 c_6 c_8 ((MS.look m key).1) key (dec ((numOf ((MS.look m key).2)) + 1)) (by omega) (by omega) (by omega) (by omega)) rfl (fun _ _ => trivial)) ?_
  rintro _ _ ⟨_, ⟨a_16, c_17, a_18, c_19, a_20, c_21, rfl, rfl⟩, rfl⟩
  have hly21 := lay_len ((MS.look m key).1) key (dec ((numOf ((MS.look m key).2)) + 1))
  refine ⟨by simp, ?_⟩
  refine jK (i := 6) ?_
  refine jp rfl (ja 3 (vs := [.slice a_16 ((MS.lay ((MS.look m key).1) key (dec ((numOf ((MS.look m key).2)) + 1))).s.length) c_17, .slice a_18 ((MS.lay ((MS.look m key).1) key (dec ((numOf ((MS.look m key).2)) + 1))).r.length) c_19, .slice a_20 ((MS.lay ((MS.look m key).1) key (dec ((numOf ((MS.look m key).2)) + 1))).w.length) c_21]) (cs' := [.slice a_16 ((MS.lay ((MS.look m key).1) key (dec ((numOf ((MS.look m key).2)) + 1))).s.length) c_17, .slice a_18 ((MS.lay ((MS.look m key).1) key (dec ((numOf ((MS.look m key).2)) + 1))).r.length) c_19, .slice a_20 ((MS.lay ((MS.look m key).1) key (dec ((numOf ((MS.look m key).2)) + 1))).w.length) c_21]) rfl rfl rfl rfl gB rfl rfl (lb rfl) rfl) ?_
  rintro _ _ rfl
  refine jJ 7 rfl (jG (v := iv ((numOf ((MS.look m key).2)) + 1)) rfl) <| kI (by kernel_rfl) <| jB <| jM <| jn (.inl rfl) rfl (jg (je 3 (vs := [.slice a_16 ((MS.lay ((MS.look m key).1) key (dec ((numOf ((MS.look m key).2)) + 1))).s.length) c_17, .slice a_18 ((MS.lay ((MS.look m key).1) key (dec ((numOf ((MS.look m key).2)) + 1))).r.length) c_19, .slice a_20 ((MS.lay ((MS.look m key).1) key (dec ((numOf ((MS.look m key).2)) + 1))).w.length) c_21]) rfl rfl gK gB rfl rfl) ⟨_, rfl⟩) (jN (v := iv ((numOf ((MS.look m key).2)) + 1)) rfl) (tS 3 _) ?_
  have hq : (m.num key).2 = numOf (m.look key).2 := rfl
  have hb : m.bump key = ((m.look key).1.lay key (dec (numOf (m.look key).2 + 1)), numOf (m.look key).2 + 1) := by unfold MS.bump; rw [if_neg (by omega)]; unfold MS.setNum; rw [if_pos (by omega)]; rfl
  rw [hb]
  exact ⟨_, _, _, _, _, _, rfl, rfl⟩

end Go.Proofs.YtghfijncihbojaaGreatDoor

set_option linter.unusedSimpArgs false
set_option linter.unusedVariables false
set_option linter.unnecessarySimpa false
namespace Go.Proofs.YtghfijncihbojaaGreatDoor
open Go Go.RowKit

/-- Where the three lists of a machine lie. -/
structure MA where
  a0 : Option Addr
  c0 : Nat
  a1 : Option Addr
  c1 : Nat
  a2 : Option Addr
  c2 : Nat
@[reducible] def mc (x : MA) (m : MS) : List Value := [.slice x.a0 m.s.length x.c0, .slice x.a1 m.r.length x.c1, .slice x.a2 m.w.length x.c2]
@[reducible] def mv (x : MA) (m : MS) : Value := .agg #[.slice x.a0 m.s.length x.c0, .slice x.a1 m.r.length x.c1, .slice x.a2 m.w.length x.c2]
@[reducible] def mr (x : MA) (m : MS) : List Res := [rC x.a0 x.c0 m.s, rS x.a1 x.c1 m.r, rS x.a2 x.c2 m.w]
@[reducible] def mb (p : Nat) (x : MA) (m : MS) : Res := bk p 58 [.slice x.a0 m.s.length x.c0, .slice x.a1 m.r.length x.c1, .slice x.a2 m.w.length x.c2]
theorem Ct.introL {P : Program} {n : Nat} {f : FuncId} {fn : Func} {c : Code} {args : List Value} {A : List Res} {Pre : World → Prop} {Post : Value → List Res → Prop}
    (hf : P.funcs[f]? = some fn) (hb : fn.body = some c) (hn : fn.ntmps = n) (hle : args.length ≤ n)
    (h : ∀ w0, Pre w0 → (∀ i ∈ idsOf A, GB ≤ i) → JC P (bodyPost P fn (Done w0 (idsOf A) Post)) n w0 (idsOf A) A c (argEnv args)) : Ct P f args A Pre Post := fun w hA hpre => by
  refine calls_of_wp hf hb ?_
  rw [hn, act_args n args hle]
  exact h w hpre hA.low w (St.start hA)
theorem St.hex {w0 w : World} {D : List Nat} {L : List Res} (hw : St w0 D L w) (hlow : ∀ i ∈ D, GB ≤ i) (h : HexOk w0) : HexOk w :=
  h.keep (hw.keep _ h.lt fun hD => by have := hlow _ hD; have := hexLow; omega)

section
variable {n : Nat} {w0 : World} {D : List Nat} {L : List Res} {e : Env} {d : Option Tmp} {ty : TypeId} {pos : String} {aft : Array Edge} {gd : Option (Nat × Bool)}
/-- A machine read from its block, and laid there. -/
theorem jV (i : Nat) {x : Operand} {b : Nat} (X : MA) (M : MS) (hL : L[i]? = some (mb b X M)) (hx : rd n e x = .pointer (some ⟨b, 0, none⟩)) : LO Tryz.prog n w0 D L e ⟨d, .load 58 x, ty, pos, aft, gd⟩ (mv X M) := je i (vs := mc X M) hL hx Tryz.isAgg58 Tryz.sizeOf58 rfl rfl
theorem jc (i : Nat) {x y : Operand} {b : Nat} {cs : List Value} (X : MA) (M : MS) (hL : L[i]? = some (bk b 58 cs)) (hx : rd n e x = .pointer (some ⟨b, 0, none⟩)) (hy : rd n e y = mv X M) (hc : cs.length = 3) :
    JO Tryz.prog n w0 D L e ⟨d, .store 58 x y, ty, pos, aft, gd⟩ (fun _ L' => L' = L.set i (mb b X M)) := by
  match cs, hc with
  | [c1, c2, c3], _ => exact ja i (vs := mc X M) (cs' := mc X M) hL hx hy rfl Tryz.sizeOf58 rfl rfl (Nat.le_of_ble_eq_true rfl) rfl
end

theorem N_look (p : Nat) (x : MA) (m : MS) {S T : Nat} (hk : m.ok S T) (hS : S ≤ 1000000000) (hT : T ≤ 1000000000) (key : Str) :
    Ct Tryz.prog 180 [.pointer (some ⟨p, 0, none⟩), str key] (mb p x m :: mr x m) (fun _ => True) (fun v A' => ∃ x' m' u, m.look key = (m', u) ∧ m'.ok S (T + 1) ∧ u.length ≤ 1048576 ∧ v = str u ∧ A' = mb p x' m' :: mr x' m') :=
  (C_look p x.a0 x.a1 x.a2 x.c0 x.c1 x.c2 m key (by have := hk.1; omega) (by have := hk.2.1; omega) (by have := hk.2.2.1; omega)).weak (fun _ h => h) fun v A' ⟨x0, y0, x1, y1, x2, y2, hv, hA⟩ => ⟨⟨x0, y0, x1, y1, x2, y2⟩, (m.look key).1, (m.look key).2, rfl, hk.look key, hk.getKey key, hv, hA⟩

theorem N_lay (p : Nat) (x : MA) (m : MS) {S T : Nat} (hk : m.ok S T) (hS : S ≤ 1000000000) (hT : T ≤ 1000000000) (key : Str) (val : Str) (hkey : key.length ≤ 1000000000000) :
    Ct Tryz.prog 168 [.pointer (some ⟨p, 0, none⟩), str key, str val] (mb p x m :: mr x m) (fun _ => True) (fun v A' => ∃ x' m', m.lay key val = m' ∧ m'.ok (S + 1) (T + 1) ∧ v = .tuple #[] ∧ A' = mb p x' m' :: mr x' m') :=
  (C_lay p x.a0 x.a1 x.a2 x.c0 x.c1 x.c2 m key val (by have := hk.1; omega) (by have := hk.2.1; omega) (by have := hk.2.2.1; omega) hkey).weak (fun _ h => h) fun v A' ⟨x0, y0, x1, y1, x2, y2, hv, hA⟩ => ⟨⟨x0, y0, x1, y1, x2, y2⟩, m.lay key val, rfl, hk.lay key val, hv, hA⟩

theorem N_layNil (p : Nat) (x : MA) (m : MS) {S T : Nat} (hk : m.ok S T) (hS : S ≤ 1000000000) (hT : T ≤ 1000000000) (key : Str) (hkey : key.length ≤ 1000000000000) :
    Ct Tryz.prog 168 [.pointer (some ⟨p, 0, none⟩), str key, str []] (mb p x m :: mr x m) (fun _ => True) (fun v A' => ∃ x' m', m.lay key [] = m' ∧ m'.ok S (T + 1) ∧ v = .tuple #[] ∧ A' = mb p x' m' :: mr x' m') :=
  (C_lay p x.a0 x.a1 x.a2 x.c0 x.c1 x.c2 m key [] (by have := hk.1; omega) (by have := hk.2.1; omega) (by have := hk.2.2.1; omega) hkey).weak (fun _ h => h) fun v A' ⟨x0, y0, x1, y1, x2, y2, hv, hA⟩ => ⟨⟨x0, y0, x1, y1, x2, y2⟩, m.lay key [], rfl, hk.layNil key, hv, hA⟩

theorem N_num (p : Nat) (x : MA) (m : MS) {S T : Nat} (hk : m.ok S T) (hS : S ≤ 1000000000) (hT : T ≤ 1000000000) (key : Str) :
    Ct Tryz.prog 160 [.pointer (some ⟨p, 0, none⟩), str key] (mb p x m :: mr x m) (fun _ => True) (fun v A' => ∃ x' m' n, m.num key = (m', n) ∧ m'.ok S (T + 1) ∧ (0 ≤ n ∧ n ≤ 999) ∧ v = .int .i64 n ∧ A' = mb p x' m' :: mr x' m') :=
  (C_num p x.a0 x.a1 x.a2 x.c0 x.c1 x.c2 m key (by have := hk.1; omega) (by have := hk.2.1; omega) (by have := hk.2.2.1; omega) (Nat.le_trans (hk.getKey key) (by decide))).weak (fun _ h => h) fun v A' ⟨x0, y0, x1, y1, x2, y2, hv, hA⟩ => ⟨⟨x0, y0, x1, y1, x2, y2⟩, (m.num key).1, (m.num key).2, rfl, hk.look key, numOf_lo _, hv, hA⟩

theorem N_setNum (p : Nat) (x : MA) (m : MS) {S T : Nat} (hk : m.ok S T) (hS : S ≤ 1000000000) (hT : T ≤ 1000000000) (key : Str) (n : Int) (hkey : key.length ≤ 1000000000000) (hn : -9223372036854775808 ≤ n ∧ n ≤ 9223372036854775807) :
    Ct Tryz.prog 165 [.pointer (some ⟨p, 0, none⟩), str key, .int .i64 n] (mb p x m :: mr x m) (fun _ => True) (fun v A' => ∃ x' m', m.setNum key n = m' ∧ m'.ok (S + 1) (T + 1) ∧ v = .tuple #[] ∧ A' = mb p x' m' :: mr x' m') :=
  (C_setNum p x.a0 x.a1 x.a2 x.c0 x.c1 x.c2 m key n (by have := hk.1; omega) (by have := hk.2.1; omega) (by have := hk.2.2.1; omega) hkey hn.1 hn.2).weak (fun _ h => h) fun v A' ⟨x0, y0, x1, y1, x2, y2, hv, hA⟩ => ⟨⟨x0, y0, x1, y1, x2, y2⟩, m.setNum key n, rfl, hk.lay key _, hv, hA⟩

theorem N_bump (p : Nat) (x : MA) (m : MS) {S T : Nat} (hk : m.ok S T) (hS : S ≤ 1000000000) (hT : T ≤ 1000000000) (key : Str) (hkey : key.length ≤ 1000000000000) :
    Ct Tryz.prog 164 [.pointer (some ⟨p, 0, none⟩), str key] (mb p x m :: mr x m) (fun _ => True) (fun v A' => ∃ x' m' n, m.bump key = (m', n) ∧ m'.ok (S + 1) (T + 1) ∧ (0 ≤ n ∧ n ≤ 999) ∧ v = .int .i64 n ∧ A' = mb p x' m' :: mr x' m') :=
  (C_bump p x.a0 x.a1 x.a2 x.c0 x.c1 x.c2 m key (by have := hk.1; omega) (by have := hk.2.1; omega) (by have := hk.2.2.1; omega) (Nat.le_trans (hk.getKey key) (by decide)) hkey).weak (fun _ h => h) fun v A' ⟨x0, y0, x1, y1, x2, y2, hv, hA⟩ => ⟨⟨x0, y0, x1, y1, x2, y2⟩, (m.bump key).1, (m.bump key).2, rfl, hk.bump key, (bump_lo m key), hv, hA⟩

theorem N_sLook (x : MA) (m : MS) {S T : Nat} (hk : m.ok S T) (hS : S ≤ 1000000000) (hT : T ≤ 1000000000) (key : Str) :
    Ct Tryz.prog 132 [mv x m, str key] (mr x m) (fun _ => True) (fun v A' => ∃ x' m' u, m.look key = (m', u) ∧ m'.ok S (T + 1) ∧ u.length ≤ 1048576 ∧ v = .tuple #[mv x' m', str u] ∧ A' = mr x' m') :=
  (C_sLook x.a0 x.a1 x.a2 x.c0 x.c1 x.c2 m key (by have := hk.1; omega) (by have := hk.2.1; omega) (by have := hk.2.2.1; omega)).weak (fun _ h => h) fun v A' ⟨x0, y0, x1, y1, x2, y2, hv, hA⟩ => ⟨⟨x0, y0, x1, y1, x2, y2⟩, (m.look key).1, (m.look key).2, rfl, hk.look key, hk.getKey key, hv, hA⟩

theorem N_sLay (x : MA) (m : MS) {S T : Nat} (hk : m.ok S T) (hS : S ≤ 1000000000) (hT : T ≤ 1000000000) (key : Str) (val : Str) (hkey : key.length ≤ 1000000000000) :
    Ct Tryz.prog 134 [mv x m, str key, str val] (mr x m) (fun _ => True) (fun v A' => ∃ x' m', m.lay key val = m' ∧ m'.ok (S + 1) (T + 1) ∧ v = mv x' m' ∧ A' = mr x' m') :=
  (C_sLay x.a0 x.a1 x.a2 x.c0 x.c1 x.c2 m key val (by have := hk.1; omega) (by have := hk.2.1; omega) (by have := hk.2.2.1; omega) hkey).weak (fun _ h => h) fun v A' ⟨x0, y0, x1, y1, x2, y2, hv, hA⟩ => ⟨⟨x0, y0, x1, y1, x2, y2⟩, m.lay key val, rfl, hk.lay key val, hv, hA⟩

theorem N_sLayNil (x : MA) (m : MS) {S T : Nat} (hk : m.ok S T) (hS : S ≤ 1000000000) (hT : T ≤ 1000000000) (key : Str) (hkey : key.length ≤ 1000000000000) :
    Ct Tryz.prog 134 [mv x m, str key, str []] (mr x m) (fun _ => True) (fun v A' => ∃ x' m', m.lay key [] = m' ∧ m'.ok S (T + 1) ∧ v = mv x' m' ∧ A' = mr x' m') :=
  (C_sLay x.a0 x.a1 x.a2 x.c0 x.c1 x.c2 m key [] (by have := hk.1; omega) (by have := hk.2.1; omega) (by have := hk.2.2.1; omega) hkey).weak (fun _ h => h) fun v A' ⟨x0, y0, x1, y1, x2, y2, hv, hA⟩ => ⟨⟨x0, y0, x1, y1, x2, y2⟩, m.lay key [], rfl, hk.layNil key, hv, hA⟩

theorem N_sBump (x : MA) (m : MS) {S T : Nat} (hk : m.ok S T) (hS : S ≤ 1000000000) (hT : T ≤ 1000000000) (key : Str) (hkey : key.length ≤ 1000000000000) :
    Ct Tryz.prog 68 [mv x m, str key] (mr x m) (fun _ => True) (fun v A' => ∃ x' m' n, m.bump key = (m', n) ∧ m'.ok (S + 1) (T + 1) ∧ (0 ≤ n ∧ n ≤ 999) ∧ v = .tuple #[mv x' m', .int .i64 n] ∧ A' = mr x' m') :=
  (C_sBump x.a0 x.a1 x.a2 x.c0 x.c1 x.c2 m key (by have := hk.1; omega) (by have := hk.2.1; omega) (by have := hk.2.2.1; omega) (Nat.le_trans (hk.getKey key) (by decide)) hkey).weak (fun _ h => h) fun v A' ⟨x0, y0, x1, y1, x2, y2, hv, hA⟩ => ⟨⟨x0, y0, x1, y1, x2, y2⟩, (m.bump key).1, (m.bump key).2, rfl, hk.bump key, (bump_lo m key), hv, hA⟩

end Go.Proofs.YtghfijncihbojaaGreatDoor

set_option linter.unusedSimpArgs false
set_option linter.unusedVariables false
set_option linter.unnecessarySimpa false
namespace Go.Proofs.YtghfijncihbojaaGreatDoor
open Go Go.RowKit
attribute [local irreducible] JL JC JQ JO LO PO JA JX Ct

theorem tmod10 (k : Nat) : (-((k : Nat) : Int)).tmod 10 = -((k % 10 : Nat) : Int) := by
  rw [Int.neg_tmod]; rfl
theorem tdiv10 (k : Nat) : (-((k : Nat) : Int)).tdiv 10 = -((k / 10 : Nat) : Int) := by
  rw [Int.neg_tdiv]; rfl
theorem dec_neg {k : Nat} (h : 0 < k) : dec (-((k : Nat) : Int)) = 45 :: mtAcc k [] := by
  unfold dec Lib.itoa
  rw [if_pos (by omega), show (-((k : Nat) : Int)).natAbs = k by omega, mtAcc_dec k k h (Nat.le_refl _)]

theorem C_sDecM (k : Nat) (h0 : 0 < k) (h1 : k ≤ 9223372036854775808) :
    Ct Tryz.prog 135 [.int .i64 (-((k : Nat) : Int))] [] (fun _ => True) (fun v A' => v = str (dec (-((k : Nat) : Int))) ∧ A' = []) := by
  refine Ct.intro Tryz.func135 rfl Tryz.ntmps135 (lb rfl) fun w0 hpre => ?_
  refine jD <| jF <| jA (jG (v := str []) rfl) <| jE <| jB <| jD <| jD <| jF <| jA (jC (v := iv (-((k : Nat) : Int))) rfl) <| jA (jx rfl rfl) ?_
  refine jE <| jB ?_
  by_cases h_1 : (-((k : Nat) : Int)) = 0
  · exfalso; omega
  refine jR (cB (dF h_1)) <| jW <| jB <| jD <| jF <| jA (jC (v := iv (-((k : Nat) : Int))) rfl) <| jA (jr rfl rfl) <| jA (jG (v := .bool (decide ((-((k : Nat) : Int)) < 0))) rfl) <| jE <| jB ?_
  refine jD <| jF <| jA (jG (v := str []) rfl) <| jE <| jB <| jD <| jl <| kE (fun k_ e_ L_ => ∃ k1 : Nat, ∃ o_ : Str, (k1 ≤ k) ∧ (o_.length = 0 ∨ o_.length + k1 ≤ k / 2 + 1) ∧ (mtAcc k1 o_ = mtAcc k []) ∧ e_ 0 = iv (-((k1 : Nat) : Int)) ∧ e_ 2 = str [] ∧ e_ 3 = .bool (decide ((-((k : Nat) : Int)) < 0)) ∧ e_ 4 = str o_ ∧ L_ = [] ∧ k_ = k1 + 1) _ ⟨k, [], by omega, (by simp), rfl, rfl, rfl, rfl, rfl, rfl, rfl⟩ ?_
  rintro _ e_2 _ ⟨k1, o_, hk, hl, hR, he_3, he_4, he_5, he_6, rfl, rfl⟩
  refine jD <| jD <| jF <| jA (jC (v := iv (-((k1 : Nat) : Int))) he_3) <| jA (kO rfl rfl) <| jE <| jB ?_
  by_cases h_7 : (-((k1 : Nat) : Int)) = 0
  · refine jR (cB (cN (dT h_7))) <| kB <| jm <| jm <| kC <| jB <| jD <| jD <| jF <| jA (jC (v := .bool (decide ((-((k : Nat) : Int)) < 0))) he_5) ?_
    refine jE <| jB ?_
    by_cases h_8 : (-((k : Nat) : Int)) < 0
    · refine jQ (cB (dT h_8)) <| jD <| jF <| jA (jC (v := str o_) he_6) <| jA (kS rfl rfl (by (try simp only [List.length_append, List.length_cons, List.length_nil, List.length_drop, List.length_take]); omega)) <| jA (jG (v := str ([45] ++ o_)) rfl) <| jE <| jB <| jM <| jb ?_
      refine jU (.inl rfl) rfl (jN (v := str ([45] ++ o_)) rfl) (List.nil_sublist _) ?_
      refine ⟨?_, rfl⟩
      rw [dec_neg (by omega), ← hR, mtAcc_zero (by omega)]
      rfl
    exfalso; omega
  refine jQ (cB (cN (dF h_7))) <| jW <| jB <| jl <| jD <| jF <| jA (jC (v := iv (-((k1 : Nat) : Int))) he_3) <| jA (PO.rem (c := -((k1 % 10 : Nat) : Int)) rfl rfl (by omega) (tmod10 k1)) <| jA (jG (v := iv (-((k1 % 10 : Nat) : Int))) rfl) <| jE ?_
  refine jB <| jD <| jD <| jF <| jA (jC (v := iv (-((k1 % 10 : Nat) : Int))) rfl) <| jA (jr rfl rfl) <| jE <| jB ?_
  by_cases h_9 : (-((k1 % 10 : Nat) : Int)) < 0
  · refine jQ (cB (dT h_9)) <| jF <| jA (jC (v := iv (-((k1 % 10 : Nat) : Int))) rfl) <| jA (PO.neg (c := ((k1 % 10 : Nat) : Int)) rfl (wr (by omega))) <| jA (jG (v := iv ((k1 % 10 : Nat) : Int)) rfl) <| jE <| jB <| jD <| jF <| jA (jC (v := iv ((k1 % 10 : Nat) : Int)) rfl) ?_
    refine jH rfl (jI [] Tryz.call190 rfl (C_figure (k1 % 10) (by omega)) rfl (fun _ _ => trivial)) ?_
    rintro _ _ ⟨_, ⟨rfl, rfl⟩, rfl⟩
    refine jH rfl (kH (ps := [(0, .int .u8 ((48 + (k1 % 10) : Nat) : Int))]) (cur := #[.int .u8 ((48 + (k1 % 10) : Nat) : Int)]) ks gI gO rfl (by kernel_rfl) (by decide) (by decide)) ?_
    rintro _ _ ⟨a_10, rfl, rfl⟩
    refine jT (LO.toStr 0 [UInt8.ofNat (48 + (k1 % 10))] rfl ks kx kf rfl (by rw [List.map_cons, List.map_nil, encB_of _ (by omega)])) <| jA (jC (v := str o_) he_6) <| jA (kS rfl rfl (by (try simp only [List.length_append, List.length_cons, List.length_nil, List.length_drop, List.length_take]); omega)) <| jA (jG (v := str ([UInt8.ofNat (48 + (k1 % 10))] ++ o_)) rfl) <| jE <| jB <| jF <| jA (jC (v := iv (-((k1 : Nat) : Int))) he_3) <| jA (PO.quo (c := -((k1 / 10 : Nat) : Int)) rfl rfl (by omega) ((congrArg _ (tdiv10 k1)).trans (wr (by omega)))) <| jA (jG (v := iv (-((k1 / 10 : Nat) : Int))) rfl) ?_
    refine jE <| jk <| jt [] (A := []) rfl ?_
    refine ju (k1 / 10 + 1) (by omega) ⟨(k1 / 10), [UInt8.ofNat (48 + (k1 % 10))] ++ o_, by omega, (by simp only [List.length_append, List.length_cons, List.length_nil]; omega), (by rw [mtAcc_step (by omega)]; exact hR), rfl, he_4, he_5, rfl, rfl, rfl⟩
  have hz_11 : -((k1 % 10 : Nat) : Int) = ((k1 % 10 : Nat) : Int) := by omega
  have hz_12 : -((k1 % 10 : Nat) : Int) = ((k1 % 10 : Nat) : Int) := by omega
  have hz_13 : -((k1 % 10 : Nat) : Int) = ((k1 % 10 : Nat) : Int) := by omega
  refine jR (cB (dF h_9)) <| jW <| jB <| jD <| jF <| jA (jC (v := iv ((k1 % 10 : Nat) : Int)) (congrArg (Value.int .i64) hz_12)) ?_
  refine jH rfl (jI [] Tryz.call190 rfl (C_figure (k1 % 10) (by omega)) rfl (fun _ _ => trivial)) ?_
  rintro _ _ ⟨_, ⟨rfl, rfl⟩, rfl⟩
  refine jH rfl (kH (ps := [(0, .int .u8 ((48 + (k1 % 10) : Nat) : Int))]) (cur := #[.int .u8 ((48 + (k1 % 10) : Nat) : Int)]) ks gI gO rfl (by kernel_rfl) (by decide) (by decide)) ?_
  rintro _ _ ⟨a_14, rfl, rfl⟩
  refine jT (LO.toStr 0 [UInt8.ofNat (48 + (k1 % 10))] rfl ks kx kf rfl (by rw [List.map_cons, List.map_nil, encB_of _ (by omega)])) <| jA (jC (v := str o_) he_6) <| jA (kS rfl rfl (by (try simp only [List.length_append, List.length_cons, List.length_nil, List.length_drop, List.length_take]); omega)) <| jA (jG (v := str ([UInt8.ofNat (48 + (k1 % 10))] ++ o_)) rfl) <| jE <| jB <| jF <| jA (jC (v := iv (-((k1 : Nat) : Int))) he_3) <| jA (PO.quo (c := -((k1 / 10 : Nat) : Int)) rfl rfl (by omega) ((congrArg _ (tdiv10 k1)).trans (wr (by omega)))) <| jA (jG (v := iv (-((k1 / 10 : Nat) : Int))) rfl) ?_
  refine jE <| jk <| jt [] (A := []) rfl ?_
  refine ju (k1 / 10 + 1) (by omega) ⟨(k1 / 10), [UInt8.ofNat (48 + (k1 % 10))] ++ o_, by omega, (by simp only [List.length_append, List.length_cons, List.length_nil]; omega), (by rw [mtAcc_step (by omega)]; exact hR), rfl, he_4, he_5, rfl, rfl, rfl⟩

theorem C_sDecP (k : Nat) (h1 : k ≤ 9223372036854775807) :
    Ct Tryz.prog 135 [.int .i64 ((k : Nat) : Int)] [] (fun _ => True) (fun v A' => v = str (dec ((k : Nat) : Int)) ∧ A' = []) := by
  refine Ct.intro Tryz.func135 rfl Tryz.ntmps135 (lb rfl) fun w0 hpre => ?_
  refine jD <| jF <| jA (jG (v := str []) rfl) <| jE <| jB <| jD <| jD <| jF <| jA (jC (v := nv k) rfl) <| jA (jx rfl rfl) ?_
  refine jE <| jB ?_
  by_cases h_1 : ((k : Nat) : Int) = 0
  · refine jQ (cB (dT h_1)) <| jD <| jF <| jA (jG (v := str [48]) rfl) <| jE <| jB <| jM <| jb <| jU (.inl rfl) rfl (jN (v := str [48]) rfl) (List.nil_sublist _) ?_
    refine ⟨?_, rfl⟩
    rw [show ((k : Nat) : Int) = 0 by omega, dec_zero]
  refine jR (cB (dF h_1)) <| jW <| jB <| jD <| jF <| jA (jC (v := nv k) rfl) <| jA (jr rfl rfl) <| jA (jG (v := .bool (decide (((k : Nat) : Int) < 0))) rfl) <| jE <| jB ?_
  refine jD <| jF <| jA (jG (v := str []) rfl) <| jE <| jB <| jD <| jl <| kE (fun k_ e_ L_ => ∃ k1 : Nat, ∃ o_ : Str, (k1 ≤ k) ∧ (o_.length + k1 ≤ k) ∧ (mtAcc k1 o_ = mtAcc k []) ∧ e_ 0 = nv k1 ∧ e_ 2 = str [] ∧ e_ 3 = .bool (decide (((k : Nat) : Int) < 0)) ∧ e_ 4 = str o_ ∧ L_ = [] ∧ k_ = k1 + 1) _ ⟨k, [], by omega, (by simp), rfl, rfl, rfl, rfl, rfl, rfl, rfl⟩ ?_
  rintro _ e_2 _ ⟨k1, o_, hk, hl, hR, he_3, he_4, he_5, he_6, rfl, rfl⟩
  refine jD <| jD <| jF <| jA (jC (v := nv k1) he_3) <| jA (kO rfl rfl) <| jE <| jB ?_
  by_cases h_7 : ((k1 : Nat) : Int) = 0
  · refine jR (cB (cN (dT h_7))) <| kB <| jm <| jm <| kC <| jB <| jD <| jD <| jF <| jA (jC (v := .bool (decide (((k : Nat) : Int) < 0))) he_5) ?_
    refine jE <| jB ?_
    by_cases h_8 : ((k : Nat) : Int) < 0
    · exfalso; omega
    refine jR (cB (dF h_8)) <| jW <| jB <| jD <| jF <| jA (jC (v := str o_) he_6) <| jA (jG (v := str o_) rfl) <| jE <| jB <| jM ?_
    refine jU (.inl rfl) rfl (jN (v := str o_) rfl) (List.nil_sublist _) ?_
    refine ⟨?_, rfl⟩
    rw [dec_nat (by omega), ← hR, mtAcc_zero (by omega)]
  refine jQ (cB (cN (dF h_7))) <| jW <| jB <| jl <| jD <| jF <| jA (jC (v := nv k1) he_3) <| jA (PO.remN (c := ((k1 % 10 : Nat) : Int)) rfl rfl (by omega) (by omega) (by omega)) <| jA (jG (v := iv ((k1 % 10 : Nat) : Int)) rfl) <| jE ?_
  refine jB <| jD <| jD <| jF <| jA (jC (v := iv ((k1 % 10 : Nat) : Int)) rfl) <| jA (jr rfl rfl) <| jE <| jB ?_
  by_cases h_9 : ((k1 % 10 : Nat) : Int) < 0
  · exfalso; omega
  refine jR (cB (dF h_9)) <| jW <| jB <| jD <| jF <| jA (jC (v := iv ((k1 % 10 : Nat) : Int)) rfl) ?_
  refine jH rfl (jI [] Tryz.call190 rfl (C_figure (k1 % 10) (by omega)) rfl (fun _ _ => trivial)) ?_
  rintro _ _ ⟨_, ⟨rfl, rfl⟩, rfl⟩
  refine jH rfl (kH (ps := [(0, .int .u8 ((48 + (k1 % 10) : Nat) : Int))]) (cur := #[.int .u8 ((48 + (k1 % 10) : Nat) : Int)]) ks gI gO rfl (by kernel_rfl) (by decide) (by decide)) ?_
  rintro _ _ ⟨a_10, rfl, rfl⟩
  refine jT (LO.toStr 0 [UInt8.ofNat (48 + (k1 % 10))] rfl ks kx kf rfl (by rw [List.map_cons, List.map_nil, encB_of _ (by omega)])) <| jA (jC (v := str o_) he_6) <| jA (kS rfl rfl (by (try simp only [List.length_append, List.length_cons, List.length_nil, List.length_drop, List.length_take]); omega)) <| jA (jG (v := str ([UInt8.ofNat (48 + (k1 % 10))] ++ o_)) rfl) <| jE <| jB <| jF <| jA (jC (v := nv k1) he_3) <| jA (PO.quoN (c := ((k1 / 10 : Nat) : Int)) rfl rfl (by omega) (by omega) (by omega) (wr (by omega))) <| jA (jG (v := iv ((k1 / 10 : Nat) : Int)) rfl) ?_
  refine jE <| jk <| jt [] (A := []) rfl ?_
  refine ju (k1 / 10 + 1) (by omega) ⟨(k1 / 10), [UInt8.ofNat (48 + (k1 % 10))] ++ o_, by omega, (by simp only [List.length_append, List.length_cons, List.length_nil]; omega), (by rw [mtAcc_step (by omega)]; exact hR), rfl, he_4, he_5, rfl, rfl, rfl⟩

theorem N_sDec (n : Int) (hn : -9223372036854775808 ≤ n ∧ n ≤ 9223372036854775807) : Ct Tryz.prog 135 [.int .i64 n] [] (fun _ => True) (fun v A' => ∃ r0, dec n = r0 ∧ r0.length ≤ 21 ∧ v = str r0 ∧ A' = []) := by
  have h21 := dec_len21 hn.1 hn.2
  by_cases h : 0 ≤ n
  · have := C_sDecP n.toNat (by omega)
    rw [Int.toNat_of_nonneg h] at this
    exact this.weak (fun _ h => h) fun v A' ⟨h1, h2⟩ => ⟨_, rfl, h21, h1, h2⟩
  · have := C_sDecM (-n).toNat (by omega) (by omega)
    rw [Int.toNat_of_nonneg (by omega), Int.neg_neg] at this
    exact this.weak (fun _ h => h) fun v A' ⟨h1, h2⟩ => ⟨_, rfl, h21, h1, h2⟩

theorem N_dec (n : Int) (hn : -9223372036854775808 ≤ n ∧ n ≤ 9223372036854775807) : Ct Tryz.prog 114 [.int .i64 n] [] (fun _ => True) (fun v A' => ∃ r0, dec n = r0 ∧ r0.length ≤ 21 ∧ v = str r0 ∧ A' = []) :=
  (C_decimal n hn.1 hn.2).weak (fun _ h => h) fun v A' ⟨h1, h2⟩ => ⟨_, rfl, dec_len21 hn.1 hn.2, h1, h2⟩

theorem N_numOf (t : Str) (ht : t.length ≤ 1000000000000) : Ct Tryz.prog 182 [str t] [] (fun _ => True) (fun v A' => ∃ r0, numOf t = r0 ∧ (0 ≤ r0 ∧ r0 ≤ 999) ∧ v = .int .i64 r0 ∧ A' = []) :=
  (C_numOf t (by omega)).weak (fun _ h => h) fun v A' ⟨h1, h2⟩ => ⟨_, rfl, numOf_lo t, h1, h2⟩

theorem N_sNumOf (t : Str) (ht : t.length ≤ 1000000000000) : Ct Tryz.prog 133 [str t] [] (fun _ => True) (fun v A' => ∃ r0, numOf t = r0 ∧ (0 ≤ r0 ∧ r0 ≤ 999) ∧ v = .int .i64 r0 ∧ A' = []) :=
  (C_sNumOf t (by omega)).weak (fun _ h => h) fun v A' ⟨h1, h2⟩ => ⟨_, rfl, numOf_lo t, h1, h2⟩

theorem N_sNumAt (x : MA) (m : MS) {S T : Nat} (hk : m.ok S T) (hS : S ≤ 900000000) (hT : T ≤ 900000000) (key : Str) :
    Ct Tryz.prog 67 [mv x m, str key] (mr x m) (fun _ => True) (fun v A' => ∃ x' m' r0, MS.num m key = (m', r0) ∧ m'.ok (S) (T + 1) ∧ (0 ≤ r0 ∧ r0 ≤ 999) ∧ v = .tuple #[mv x' m', .int .i64 r0] ∧ A' = mr x' m') := by
  refine Ct.intro Tryz.func67 rfl Tryz.ntmps67 (lb rfl) fun w0 hpre => ?_
  refine jD <| jF ?_
  refine jH rfl (jv (cs := (mc x m)) rfl rfl) ?_
  rintro _ _ ⟨b_1, rfl, rfl⟩
  refine jH rfl (jh (z := zM) (cs := zC) kj rfl) ?_
  rintro _ _ ⟨b_2, rfl, rfl⟩
  refine jA (jG (v := iv 0) rfl) <| jE <| jB <| jD <| jF <| jT (jV 1 x m rfl rfl) <| jA (jC (v := str key) rfl) ?_
  refine jH rfl (jI [2, 2, 2] Tryz.call132 rfl (N_sLook x m hk (by omega) (by omega) key) rfl (fun _ _ => trivial)) ?_
  rintro _ _ ⟨_, ⟨x_5, m_6, u_7, e_3, k_4, f_8, rfl, rfl⟩, rfl⟩
  refine jA (jC (v := .tuple #[mv x_5 m_6, str u_7]) rfl) <| jA (jS (v := mv x_5 m_6) rfl rfl) <| jA (jS (v := str u_7) rfl rfl) ?_
  refine jH rfl (jc 4 x_5 m_6 rfl rfl rfl rfl) ?_
  rintro _ _ rfl
  refine jA (jG (v := str u_7) rfl) <| jE <| jB <| jD <| jq [mb b_1 x_5 m_6] 3 mixed (by simp) <| jj 0 rfl (jV 0 x_5 m_6 rfl rfl) <| jJ 1 rfl (jC (v := str u_7) rfl) <| jK (i := 2) ?_
  refine jP rfl rfl (jI [] Tryz.call133 rfl (N_sNumOf u_7 (by omega)) rfl (fun _ _ => trivial)) ?_
  rintro _ _ ⟨_, ⟨n_15, e_13, f_16, rfl, rfl⟩, rfl⟩
  refine ⟨(by simp), ?_⟩
  refine jK (i := 3) ?_
  refine jp rfl (jc 3 x_5 m_6 rfl rfl rfl rfl) ?_
  rintro _ _ rfl
  refine jJ 4 rfl (jG (v := iv n_15) rfl) <| kI (by kernel_rfl) <| jB <| jM <| jn (.inl rfl) rfl (jg (jV 3 x_5 m_6 rfl rfl) ⟨_, rfl⟩) (jN (v := iv n_15) rfl) (tS 3 _) ?_
  exact ⟨x_5, m_6, n_15, (by simp only [MS.num, e_3, e_13, SB]; (repeat (first | rw [if_pos (by omega)] | rw [if_neg (by omega)])); all_goals (first | rfl | simp only [SB, e_3, e_13])), (k_4.mono (by omega) (by omega)), (by first | omega | (simp only [LE]; omega)), rfl, rfl⟩

theorem N_sSetNum (x : MA) (m : MS) {S T : Nat} (hk : m.ok S T) (hS : S ≤ 900000000) (hT : T ≤ 900000000) (key : Str) (n : Int) (hkey : key.length ≤ 1000000000000) (hn : -9223372036854775808 ≤ n ∧ n ≤ 9223372036854775807) :
    Ct Tryz.prog 69 [mv x m, str key, .int .i64 n] (mr x m) (fun _ => True) (fun v A' => ∃ x' m', MS.setNum m key n = m' ∧ m'.ok (S + 1) (T + 1) ∧ v = mv x' m' ∧ A' = mr x' m') := by
  refine Ct.intro Tryz.func69 rfl Tryz.ntmps69 (lb rfl) fun w0 hpre => ?_
  refine jD <| jF ?_
  refine jH rfl (jv (cs := (mc x m)) rfl rfl) ?_
  rintro _ _ ⟨b_1, rfl, rfl⟩
  refine jH rfl (jh (z := zM) (cs := zC) kj rfl) ?_
  rintro _ _ ⟨b_2, rfl, rfl⟩
  refine jE <| jB <| jD <| jD <| jF <| jA (jC (v := iv n) rfl) ?_
  refine jH rfl (jI [] Tryz.call136 rfl (C_l01In n 1 999) rfl (fun _ _ => trivial)) ?_
  rintro _ _ ⟨_, ⟨rfl, rfl⟩, rfl⟩
  refine jA (kF rfl) <| jE <| jB ?_
  rcases Bool.eq_false_or_eq_true (decide (1 ≤ n) && decide (n ≤ 999)) with h_3 | h_3
  · have h_3d := h_3
    simp only [Bool.and_eq_true, Bool.and_eq_false_iff, decide_eq_true_eq, decide_eq_false_iff_not] at h_3d
    refine jR (cB (cN h_3)) <| jW <| jB <| jD <| jq [mb b_1 x m] 4 mixed (by simp) <| jj 0 rfl (jV 0 x m rfl rfl) <| jJ 1 rfl (jC (v := str key) rfl) <| jJ 2 rfl (jC (v := iv n) rfl) <| jK (i := 3) ?_
    refine jP rfl rfl (jI [] Tryz.call135 rfl (N_sDec n (by omega)) rfl (fun _ _ => trivial)) ?_
    rintro _ _ ⟨_, ⟨u_10, e_8, f_11, rfl, rfl⟩, rfl⟩
    refine ⟨(by simp), ?_⟩
    refine jK (i := 4) ?_
    refine jp rfl (jI [2, 2, 2] Tryz.call134 rfl (N_sLay x m hk (by omega) (by omega) key u_10 (by omega)) rfl (fun _ _ => trivial)) ?_
    rintro _ _ ⟨_, ⟨x_18, m_19, e_16, k_17, rfl, rfl⟩, rfl⟩
    refine jK (i := 5) ?_
    refine jo rfl (jc 3 x_18 m_19 rfl rfl rfl rfl) ?_
    rintro _ _ rfl
    refine jB <| jM <| jU (.inl rfl) rfl (jg (jV 3 x_18 m_19 rfl rfl) ⟨_, rfl⟩) (tS 3 _) ?_
    exact ⟨x_18, m_19, (by simp only [MS.setNum, h_3, e_8, e_16, SB]; (repeat (first | rw [if_pos (by omega)] | rw [if_neg (by omega)])); all_goals (first | rfl | simp only [SB, h_3, e_8, e_16])), (k_17.mono (by omega) (by omega)), rfl, rfl⟩
  have h_3d := h_3
  simp only [Bool.and_eq_true, Bool.and_eq_false_iff, decide_eq_true_eq, decide_eq_false_iff_not] at h_3d
  refine jQ (cB (cN h_3)) <| jD <| jF <| jT (jV 1 x m rfl rfl) <| jA (jC (v := str key) rfl) ?_
  refine jH rfl (jI [2, 2, 2] Tryz.call134 rfl (N_sLayNil x m hk (by omega) (by omega) key (by omega)) rfl (fun _ _ => trivial)) ?_
  rintro _ _ ⟨_, ⟨x_22, m_23, e_20, k_21, rfl, rfl⟩, rfl⟩
  refine jH rfl (jc 3 x_22 m_23 rfl rfl rfl rfl) ?_
  rintro _ _ rfl
  refine jE <| jB <| jM <| jb <| jU (.inl rfl) rfl (jg (jV 3 x_22 m_23 rfl rfl) ⟨_, rfl⟩) (tS 3 _) ?_
  exact ⟨x_22, m_23, (by simp only [MS.setNum, h_3, e_20, SB]; (repeat (first | rw [if_pos (by omega)] | rw [if_neg (by omega)])); all_goals (first | rfl | simp only [SB, h_3, e_20])), (k_21.mono (by omega) (by omega)), rfl, rfl⟩

theorem N_keyNum {hb tb : Nat} (h : Str) (n : Int) (t : Str) (hh : h.length ≤ hb) (hn : -9223372036854775808 ≤ n ∧ n ≤ 9223372036854775807) (ht : t.length ≤ tb) (hq : hb + tb ≤ 1000000) :
    Ct Tryz.prog 170 [str h, .int .i64 n, str t] ([]) (fun _ => True) (fun v A' => ∃ r0, keyNum h n t = r0 ∧ r0.length ≤ hb + 21 + tb ∧ v = str r0 ∧ A' = []) := by
  refine Ct.intro Tryz.func170 rfl Tryz.ntmps170 (lb rfl) fun w0 hpre => ?_
  refine jD <| jF <| jA (jG (v := str []) rfl) <| jE <| jB <| jD <| jF <| jA (jC (v := str h) rfl) <| jA (jC (v := iv n) rfl) ?_
  refine jH rfl (jI [] Tryz.call114 rfl (N_dec n (by omega)) rfl (fun _ _ => trivial)) ?_
  rintro _ _ ⟨_, ⟨u_3, e_1, f_4, rfl, rfl⟩, rfl⟩
  refine jA (kS rfl rfl (by (try simp only [List.length_append, List.length_cons, List.length_nil, List.length_drop, List.length_take]); omega)) <| jA (jC (v := str t) rfl) <| jA (kS rfl rfl (by (try simp only [List.length_append, List.length_cons, List.length_nil, List.length_drop, List.length_take]); omega)) <| jA (jG (v := str ((h ++ u_3) ++ t)) rfl) <| jE <| jB <| jM <| jU (.inl rfl) rfl (jN (v := str ((h ++ u_3) ++ t)) rfl) (List.nil_sublist _) ?_
  exact ⟨((h ++ u_3) ++ t), (by simp only [keyNum, e_1, SB]; (repeat (first | rw [if_pos (by omega)] | rw [if_neg (by omega)])); all_goals (first | rfl | simp only [SB, e_1])), (by first | omega | (simp only [LE]; omega)), rfl, rfl⟩

theorem N_sKeyNum {hb tb : Nat} (h : Str) (n : Int) (t : Str) (hh : h.length ≤ hb) (hn : -9223372036854775808 ≤ n ∧ n ≤ 9223372036854775807) (ht : t.length ≤ tb) (hq : hb + tb ≤ 1000000) :
    Ct Tryz.prog 137 [str h, .int .i64 n, str t] ([]) (fun _ => True) (fun v A' => ∃ r0, keyNum h n t = r0 ∧ r0.length ≤ hb + 21 + tb ∧ v = str r0 ∧ A' = []) := by
  refine Ct.intro Tryz.func137 rfl Tryz.ntmps137 (lb rfl) fun w0 hpre => ?_
  refine jD <| jF <| jA (jG (v := str []) rfl) <| jE <| jB <| jD <| jF <| jA (jC (v := str h) rfl) <| jA (jC (v := iv n) rfl) ?_
  refine jH rfl (jI [] Tryz.call135 rfl (N_sDec n (by omega)) rfl (fun _ _ => trivial)) ?_
  rintro _ _ ⟨_, ⟨u_3, e_1, f_4, rfl, rfl⟩, rfl⟩
  refine jA (kS rfl rfl (by (try simp only [List.length_append, List.length_cons, List.length_nil, List.length_drop, List.length_take]); omega)) <| jA (jC (v := str t) rfl) <| jA (kS rfl rfl (by (try simp only [List.length_append, List.length_cons, List.length_nil, List.length_drop, List.length_take]); omega)) <| jA (jG (v := str ((h ++ u_3) ++ t)) rfl) <| jE <| jB <| jM <| jU (.inl rfl) rfl (jN (v := str ((h ++ u_3) ++ t)) rfl) (List.nil_sublist _) ?_
  exact ⟨((h ++ u_3) ++ t), (by simp only [keyNum, e_1, SB]; (repeat (first | rw [if_pos (by omega)] | rw [if_neg (by omega)])); all_goals (first | rfl | simp only [SB, e_1])), (by first | omega | (simp only [LE]; omega)), rfl, rfl⟩

theorem N_pipeKey {tb : Nat} (id : Int) (t : Str) (hid : -9223372036854775808 ≤ id ∧ id ≤ 9223372036854775807) (ht : t.length ≤ tb) (hq : tb ≤ 900000) :
    Ct Tryz.prog 175 [.int .i64 id, str t] ([]) (fun _ => True) (fun v A' => ∃ r0, keyNum ([112, 47] : Str) id t = r0 ∧ r0.length ≤ 2 + 21 + tb ∧ v = str r0 ∧ A' = []) := by
  refine Ct.intro Tryz.func175 rfl Tryz.ntmps175 (lb rfl) fun w0 hpre => ?_
  refine jD <| jF <| jA (jG (v := str []) rfl) <| jE <| jB <| jD <| jF <| jA (jC (v := iv id) rfl) <| jA (jC (v := str t) rfl) ?_
  refine jH rfl (jI [] Tryz.call170 rfl (N_keyNum [112, 47] id t (show List.length ([112, 47] : Str) ≤ 2 by decide) (by omega) (Nat.le_refl _) (by omega)) rfl (fun _ _ => trivial)) ?_
  rintro _ _ ⟨_, ⟨u_3, e_1, f_4, rfl, rfl⟩, rfl⟩
  refine jA (jG (v := str u_3) rfl) <| jE <| jB <| jM <| jU (.inl rfl) rfl (jN (v := str u_3) rfl) (List.nil_sublist _) ?_
  exact ⟨u_3, (by simp only [if_true, e_1, SB]; (repeat (first | rw [if_pos (by omega)] | rw [if_neg (by omega)])); all_goals (first | rfl | simp only [SB, e_1])), (by first | omega | (simp only [LE]; omega)), rfl, rfl⟩

theorem N_procKey {tb : Nat} (id : Int) (t : Str) (hid : -9223372036854775808 ≤ id ∧ id ≤ 9223372036854775807) (ht : t.length ≤ tb) (hq : tb ≤ 900000) :
    Ct Tryz.prog 161 [.int .i64 id, str t] ([]) (fun _ => True) (fun v A' => ∃ r0, keyNum ([114, 47] : Str) id t = r0 ∧ r0.length ≤ 2 + 21 + tb ∧ v = str r0 ∧ A' = []) := by
  refine Ct.intro Tryz.func161 rfl Tryz.ntmps161 (lb rfl) fun w0 hpre => ?_
  refine jD <| jF <| jA (jG (v := str []) rfl) <| jE <| jB <| jD <| jF <| jA (jC (v := iv id) rfl) <| jA (jC (v := str t) rfl) ?_
  refine jH rfl (jI [] Tryz.call170 rfl (N_keyNum [114, 47] id t (show List.length ([114, 47] : Str) ≤ 2 by decide) (by omega) (Nat.le_refl _) (by omega)) rfl (fun _ _ => trivial)) ?_
  rintro _ _ ⟨_, ⟨u_3, e_1, f_4, rfl, rfl⟩, rfl⟩
  refine jA (jG (v := str u_3) rfl) <| jE <| jB <| jM <| jU (.inl rfl) rfl (jN (v := str u_3) rfl) (List.nil_sublist _) ?_
  exact ⟨u_3, (by simp only [if_true, e_1, SB]; (repeat (first | rw [if_pos (by omega)] | rw [if_neg (by omega)])); all_goals (first | rfl | simp only [SB, e_1])), (by first | omega | (simp only [LE]; omega)), rfl, rfl⟩

theorem N_signalKey {tb : Nat} (id : Int) (t : Str) (hid : -9223372036854775808 ≤ id ∧ id ≤ 9223372036854775807) (ht : t.length ≤ tb) (hq : tb ≤ 900000) :
    Ct Tryz.prog 184 [.int .i64 id, str t] ([]) (fun _ => True) (fun v A' => ∃ r0, keyNum ([103, 47] : Str) id t = r0 ∧ r0.length ≤ 2 + 21 + tb ∧ v = str r0 ∧ A' = []) := by
  refine Ct.intro Tryz.func184 rfl Tryz.ntmps184 (lb rfl) fun w0 hpre => ?_
  refine jD <| jF <| jA (jG (v := str []) rfl) <| jE <| jB <| jD <| jF <| jA (jC (v := iv id) rfl) <| jA (jC (v := str t) rfl) ?_
  refine jH rfl (jI [] Tryz.call170 rfl (N_keyNum [103, 47] id t (show List.length ([103, 47] : Str) ≤ 2 by decide) (by omega) (Nat.le_refl _) (by omega)) rfl (fun _ _ => trivial)) ?_
  rintro _ _ ⟨_, ⟨u_3, e_1, f_4, rfl, rfl⟩, rfl⟩
  refine jA (jG (v := str u_3) rfl) <| jE <| jB <| jM <| jU (.inl rfl) rfl (jN (v := str u_3) rfl) (List.nil_sublist _) ?_
  exact ⟨u_3, (by simp only [if_true, e_1, SB]; (repeat (first | rw [if_pos (by omega)] | rw [if_neg (by omega)])); all_goals (first | rfl | simp only [SB, e_1])), (by first | omega | (simp only [LE]; omega)), rfl, rfl⟩

theorem N_l09Key {tb : Nat} (id : Int) (t : Str) (hid : -9223372036854775808 ≤ id ∧ id ≤ 9223372036854775807) (ht : t.length ≤ tb) (hq : tb ≤ 900000) :
    Ct Tryz.prog 70 [.int .i64 id, str t] ([]) (fun _ => True) (fun v A' => ∃ r0, keyNum ([114, 47] : Str) id t = r0 ∧ r0.length ≤ 2 + 21 + tb ∧ v = str r0 ∧ A' = []) := by
  refine Ct.intro Tryz.func70 rfl Tryz.ntmps70 (lb rfl) fun w0 hpre => ?_
  refine jD <| jF <| jA (jG (v := str []) rfl) <| jE <| jB <| jD <| jF <| jA (jC (v := iv id) rfl) <| jA (jC (v := str t) rfl) ?_
  refine jH rfl (jI [] Tryz.call137 rfl (N_sKeyNum [114, 47] id t (show List.length ([114, 47] : Str) ≤ 2 by decide) (by omega) (Nat.le_refl _) (by omega)) rfl (fun _ _ => trivial)) ?_
  rintro _ _ ⟨_, ⟨u_3, e_1, f_4, rfl, rfl⟩, rfl⟩
  refine jA (jG (v := str u_3) rfl) <| jE <| jB <| jM <| jU (.inl rfl) rfl (jN (v := str u_3) rfl) (List.nil_sublist _) ?_
  exact ⟨u_3, (by simp only [if_true, e_1, SB]; (repeat (first | rw [if_pos (by omega)] | rw [if_neg (by omega)])); all_goals (first | rfl | simp only [SB, e_1])), (by first | omega | (simp only [LE]; omega)), rfl, rfl⟩

theorem N_linksKey (id : Int) (hid : -9223372036854775808 ≤ id ∧ id ≤ 9223372036854775807) :
    Ct Tryz.prog 167 [.int .i64 id] ([]) (fun _ => True) (fun v A' => ∃ r0, (fun i => keyNum ([105, 47] : Str) i ([47, 108] : Str)) id = r0 ∧ r0.length ≤ 30 ∧ v = str r0 ∧ A' = []) := by
  refine Ct.intro Tryz.func167 rfl Tryz.ntmps167 (lb rfl) fun w0 hpre => ?_
  refine jD <| jF <| jA (jG (v := str []) rfl) <| jE <| jB <| jD <| jF <| jA (jC (v := iv id) rfl) ?_
  refine jH rfl (jI [] Tryz.call170 rfl (N_keyNum [105, 47] id [47, 108] (show List.length ([105, 47] : Str) ≤ 2 by decide) (by omega) (show List.length ([47, 108] : Str) ≤ 2 by decide) (by omega)) rfl (fun _ _ => trivial)) ?_
  rintro _ _ ⟨_, ⟨u_3, e_1, f_4, rfl, rfl⟩, rfl⟩
  refine jA (jG (v := str u_3) rfl) <| jE <| jB <| jM <| jU (.inl rfl) rfl (jN (v := str u_3) rfl) (List.nil_sublist _) ?_
  exact ⟨u_3, (by simp only [if_true, e_1, SB]; (repeat (first | rw [if_pos (by omega)] | rw [if_neg (by omega)])); all_goals (first | rfl | simp only [SB, e_1])), (by first | omega | (simp only [LE]; omega)), rfl, rfl⟩

theorem N_sizeKey (id : Int) (hid : -9223372036854775808 ≤ id ∧ id ≤ 9223372036854775807) :
    Ct Tryz.prog 201 [.int .i64 id] ([]) (fun _ => True) (fun v A' => ∃ r0, (fun i => keyNum ([105, 47] : Str) i ([47, 115] : Str)) id = r0 ∧ r0.length ≤ 30 ∧ v = str r0 ∧ A' = []) := by
  refine Ct.intro Tryz.func201 rfl Tryz.ntmps201 (lb rfl) fun w0 hpre => ?_
  refine jD <| jF <| jA (jG (v := str []) rfl) <| jE <| jB <| jD <| jF <| jA (jC (v := iv id) rfl) ?_
  refine jH rfl (jI [] Tryz.call170 rfl (N_keyNum [105, 47] id [47, 115] (show List.length ([105, 47] : Str) ≤ 2 by decide) (by omega) (show List.length ([47, 115] : Str) ≤ 2 by decide) (by omega)) rfl (fun _ _ => trivial)) ?_
  rintro _ _ ⟨_, ⟨u_3, e_1, f_4, rfl, rfl⟩, rfl⟩
  refine jA (jG (v := str u_3) rfl) <| jE <| jB <| jM <| jU (.inl rfl) rfl (jN (v := str u_3) rfl) (List.nil_sublist _) ?_
  exact ⟨u_3, (by simp only [if_true, e_1, SB]; (repeat (first | rw [if_pos (by omega)] | rw [if_neg (by omega)])); all_goals (first | rfl | simp only [SB, e_1])), (by first | omega | (simp only [LE]; omega)), rfl, rfl⟩

theorem N_pagesKey (id : Int) (hid : -9223372036854775808 ≤ id ∧ id ≤ 9223372036854775807) :
    Ct Tryz.prog 179 [.int .i64 id] ([]) (fun _ => True) (fun v A' => ∃ r0, (fun i => keyNum ([109, 47] : Str) i ([47] : Str)) id = r0 ∧ r0.length ≤ 30 ∧ v = str r0 ∧ A' = []) := by
  refine Ct.intro Tryz.func179 rfl Tryz.ntmps179 (lb rfl) fun w0 hpre => ?_
  refine jD <| jF <| jA (jG (v := str []) rfl) <| jE <| jB <| jD <| jF <| jA (jC (v := iv id) rfl) ?_
  refine jH rfl (jI [] Tryz.call170 rfl (N_keyNum [109, 47] id [47] (show List.length ([109, 47] : Str) ≤ 2 by decide) (by omega) (show List.length ([47] : Str) ≤ 1 by decide) (by omega)) rfl (fun _ _ => trivial)) ?_
  rintro _ _ ⟨_, ⟨u_3, e_1, f_4, rfl, rfl⟩, rfl⟩
  refine jA (jG (v := str u_3) rfl) <| jE <| jB <| jM <| jU (.inl rfl) rfl (jN (v := str u_3) rfl) (List.nil_sublist _) ?_
  exact ⟨u_3, (by simp only [if_true, e_1, SB]; (repeat (first | rw [if_pos (by omega)] | rw [if_neg (by omega)])); all_goals (first | rfl | simp only [SB, e_1])), (by first | omega | (simp only [LE]; omega)), rfl, rfl⟩

theorem N_blockKey (id : Int) (k : Int) (hid : -9223372036854775808 ≤ id ∧ id ≤ 9223372036854775807) (hk : -9223372036854775808 ≤ k ∧ k ≤ 9223372036854775807) :
    Ct Tryz.prog 203 [.int .i64 id, .int .i64 k] ([]) (fun _ => True) (fun v A' => ∃ r0, (fun i k => keyNum (keyNum ([105, 47] : Str) i ([47, 98, 47] : Str)) k []) id k = r0 ∧ r0.length ≤ 60 ∧ v = str r0 ∧ A' = []) := by
  refine Ct.intro Tryz.func203 rfl Tryz.ntmps203 (lb rfl) fun w0 hpre => ?_
  refine jD <| jF <| jA (jG (v := str []) rfl) <| jE <| jB <| jD <| jF <| jA (jC (v := iv id) rfl) ?_
  refine jH rfl (jI [] Tryz.call170 rfl (N_keyNum [105, 47] id [47, 98, 47] (show List.length ([105, 47] : Str) ≤ 2 by decide) (by omega) (show List.length ([47, 98, 47] : Str) ≤ 3 by decide) (by omega)) rfl (fun _ _ => trivial)) ?_
  rintro _ _ ⟨_, ⟨u_3, e_1, f_4, rfl, rfl⟩, rfl⟩
  refine jA (jC (v := iv k) rfl) ?_
  refine jH rfl (jI [] Tryz.call170 rfl (N_keyNum u_3 k [] (Nat.le_refl _) (by omega) (show List.length ([] : Str) ≤ 0 by decide) (by omega)) rfl (fun _ _ => trivial)) ?_
  rintro _ _ ⟨_, ⟨u_7, e_5, f_8, rfl, rfl⟩, rfl⟩
  refine jA (jG (v := str u_7) rfl) <| jE <| jB <| jM <| jU (.inl rfl) rfl (jN (v := str u_7) rfl) (List.nil_sublist _) ?_
  exact ⟨u_7, (by simp only [if_true, e_1, e_5, SB]; (repeat (first | rw [if_pos (by omega)] | rw [if_neg (by omega)])); all_goals (first | rfl | simp only [SB, e_1, e_5])), (by first | omega | (simp only [LE]; omega)), rfl, rfl⟩

theorem N_nameKey (s : Str) (hs : s.length ≤ 1000000000000) :
    Ct Tryz.prog 166 [str s] ([]) (fun _ => True) (fun v A' => ∃ r0, (fun t => ([110, 47] : Str) ++ t) s = r0 ∧ r0.length ≤ s.length + 2 ∧ v = str r0 ∧ A' = []) := by
  refine Ct.intro Tryz.func166 rfl Tryz.ntmps166 (lb rfl) fun w0 hpre => ?_
  refine jD <| jF <| jA (jG (v := str []) rfl) <| jE <| jB <| jD <| jF <| jA (jC (v := str s) rfl) <| jA (kS rfl rfl (by (try simp only [List.length_append, List.length_cons, List.length_nil, List.length_drop, List.length_take]); omega)) <| jA (jG (v := str ([110, 47] ++ s)) rfl) ?_
  refine jE <| jB <| jM <| jU (.inl rfl) rfl (jN (v := str ([110, 47] ++ s)) rfl) (List.nil_sublist _) ?_
  exact ⟨([110, 47] ++ s), (by simp only [if_true, SB]; (repeat (first | rw [if_pos (by omega)] | rw [if_neg (by omega)])); all_goals (first | rfl | simp only [SB])), (by first | omega | (simp only [LE]; omega)), rfl, rfl⟩

theorem N_nameOk (key : Str) (hkey : key.length ≤ 1000000000000) :
    Ct Tryz.prog 162 [str key] ([]) (fun _ => True) (fun v A' => ∃ r0, nameOk key = r0 ∧ v = .bool r0 ∧ A' = []) := by
  refine Ct.intro Tryz.func162 rfl Tryz.ntmps162 (lb rfl) fun w0 hpre => ?_
  refine jD <| jF <| jA (jG (v := .bool false) rfl) <| jE <| jB <| jD <| jD <| jF <| jA (jC (v := str key) rfl) <| jA (kM kf rfl) ?_
  refine jA (jC (v := iv 0) rfl) <| jE <| jB <| jl <| kE (fun k_ e_ L_ => ∃ j : Nat, (j ≤ key.length) ∧ (∀ i, i < j → i < key.length → nameByte (key.getD i 0) = true) ∧ e_ 0 = str key ∧ e_ 6 = iv (key.length : Int) ∧ e_ 7 = nv j ∧ L_ = [] ∧ k_ = key.length - j) _ ⟨0, by omega, (fun i hi => absurd hi (Nat.not_lt_zero i)), rfl, rfl, rfl, rfl, rfl⟩ ?_
  rintro _ e_1 _ ⟨j, hj, hN, he_2, he_3, he_4, rfl, rfl⟩
  refine jD <| jF <| jA (jr he_4 he_3) <| jE <| jB <| jD ?_
  by_cases h_5 : ((j : Nat) : Int) < (key.length : Int)
  · refine jQ (cB (dT h_5)) <| jW <| jB <| jD <| jl <| jD <| jF <| jA (jC (v := nv j) he_4) <| jA (jG (v := nv j) rfl) <| jE ?_
    refine jB <| jD <| jF <| jA (jC (v := str key) he_2) <| jA (jC (v := nv j) rfl) <| jA (kY (i := j) (c := key.getD j 0) kf rfl rfl (getD_some (by omega))) ?_
    have hu_6 := UInt8.toNat_lt (key.getD j 0)
    refine jA (jG (v := .int .u8 ((key.getD j 0).toNat : Int)) rfl) <| jE <| jB <| jD <| jF <| jA (jC (v := .int .u8 ((key.getD j 0).toNat : Int)) rfl) <| jA (kT rfl rfl) <| jA (jC (v := .bool (decide (97 ≤ ((key.getD j 0).toNat : Int)))) rfl) ?_
    by_cases h_7 : 97 ≤ ((key.getD j 0).toNat : Int)
    · refine jX rfl rfl rfl (cB (dT h_7)) (jZ (jd (jC (v := .int .u8 ((key.getD j 0).toNat : Int)) rfl))) ?_
      rintro _ _ ⟨rfl, rfl⟩
      refine jX rfl rfl rfl (cB (dT h_7)) (jZ (jd (PO.leq rfl rfl))) ?_
      rintro _ _ ⟨rfl, rfl⟩
      refine jA (jw (v := .bool (decide (((key.getD j 0).toNat : Int) ≤ 122))) (cB (dT h_7)) rfl) <| jA (kF rfl) <| jA (jC (v := .bool (!(decide (((key.getD j 0).toNat : Int) ≤ 122)))) rfl) ?_
      by_cases h_8 : ((key.getD j 0).toNat : Int) ≤ 122
      · refine jO (b := false) rfl rfl rfl (cB (cN (dT h_8))) <| jO (b := false) rfl rfl rfl (cB (cN (dT h_8))) <| jO (b := false) rfl rfl rfl (cB (cN (dT h_8))) <| JL.guardOffU rfl rfl rfl rfl <| JL.guardOffU rfl rfl rfl rfl <| jO (b := false) rfl rfl rfl (cB (cN (dT h_8))) <| jO (b := false) rfl rfl rfl (cB (cN (dT h_8))) <| jA (js (v := .bool false) (cB (cN (dT h_8))) rfl) <| jA (jC (v := .bool false) rfl) <| jO (b := false) rfl rfl rfl (cB rfl) ?_
        refine jO (b := false) rfl rfl rfl (cB rfl) <| jA (js (v := .bool false) (cB rfl) rfl) <| jA (jC (v := .bool false) rfl) <| jO (b := false) rfl rfl rfl (cB rfl) <| jO (b := false) rfl rfl rfl (cB rfl) <| jA (js (v := .bool false) (cB rfl) rfl) <| jE <| jB <| jR (cB rfl) <| jW ?_
        refine jk <| jB <| jF <| jA (ji (c := ((j + 1 : Nat) : Int)) he_4 rfl (wr (by omega))) <| jA (jC (v := iv ((j + 1 : Nat) : Int)) rfl) <| jE ?_
        refine ju (key.length - (j + 1)) (by omega) ⟨j + 1, by omega, (fun i hi hl => if h : i = j then h ▸ (by simp only [nameByte, Bool.and_eq_true, Bool.and_eq_false_iff, Bool.or_eq_true, Bool.or_eq_false_iff, decide_eq_true_eq, decide_eq_false_iff_not, Bool.not_eq_true', Bool.not_eq_false']; omega : nameByte (key.getD j 0) = true) else hN i (by omega) hl), he_2, he_3, rfl, rfl, rfl⟩
      refine jX rfl rfl rfl (cB (cN (dF h_8))) (jZ (jd (jC (v := .int .u8 ((key.getD j 0).toNat : Int)) rfl))) ?_
      rintro _ _ ⟨rfl, rfl⟩
      refine jX rfl rfl rfl (cB (cN (dF h_8))) (jZ (jd (kT rfl rfl))) ?_
      rintro _ _ ⟨rfl, rfl⟩
      refine jX rfl rfl rfl (cB (cN (dF h_8))) (jZ (jd (jC (v := .bool (decide (48 ≤ ((key.getD j 0).toNat : Int)))) rfl))) ?_
      rintro _ _ ⟨rfl, rfl⟩
      by_cases h_9 : 48 ≤ ((key.getD j 0).toNat : Int)
      · refine jX rfl rfl rfl (cB (dT h_9)) (jZ (jd (jC (v := .int .u8 ((key.getD j 0).toNat : Int)) rfl))) ?_
        rintro _ _ ⟨rfl, rfl⟩
        refine jX rfl rfl rfl (cB (dT h_9)) (jZ (jd (PO.leq rfl rfl))) ?_
        rintro _ _ ⟨rfl, rfl⟩
        refine jX rfl rfl rfl (cB (cN (dF h_8))) (jZ (jd (jw (v := .bool (decide (((key.getD j 0).toNat : Int) ≤ 57))) (cB (dT h_9)) rfl))) ?_
        rintro _ _ ⟨rfl, rfl⟩
        refine jX rfl rfl rfl (cB (cN (dF h_8))) (jZ (jd (kF rfl))) ?_
        rintro _ _ ⟨rfl, rfl⟩
        refine jA (jw (v := .bool (!(decide (((key.getD j 0).toNat : Int) ≤ 57)))) (cB (cN (dF h_8))) rfl) <| jA (jC (v := .bool (!(decide (((key.getD j 0).toNat : Int) ≤ 57)))) rfl) ?_
        by_cases h_10 : ((key.getD j 0).toNat : Int) ≤ 57
        · refine jO (b := false) rfl rfl rfl (cB (cN (dT h_10))) <| jO (b := false) rfl rfl rfl (cB (cN (dT h_10))) <| jA (js (v := .bool false) (cB (cN (dT h_10))) rfl) <| jA (jC (v := .bool false) rfl) <| jO (b := false) rfl rfl rfl (cB rfl) <| jO (b := false) rfl rfl rfl (cB rfl) <| jA (js (v := .bool false) (cB rfl) rfl) <| jE <| jB <| jR (cB rfl) ?_
          refine jW <| jk <| jB <| jF <| jA (ji (c := ((j + 1 : Nat) : Int)) he_4 rfl (wr (by omega))) <| jA (jC (v := iv ((j + 1 : Nat) : Int)) rfl) <| jE ?_
          refine ju (key.length - (j + 1)) (by omega) ⟨j + 1, by omega, (fun i hi hl => if h : i = j then h ▸ (by simp only [nameByte, Bool.and_eq_true, Bool.and_eq_false_iff, Bool.or_eq_true, Bool.or_eq_false_iff, decide_eq_true_eq, decide_eq_false_iff_not, Bool.not_eq_true', Bool.not_eq_false']; omega : nameByte (key.getD j 0) = true) else hN i (by omega) hl), he_2, he_3, rfl, rfl, rfl⟩
        refine jX rfl rfl rfl (cB (cN (dF h_10))) (jZ (jd (jC (v := .int .u8 ((key.getD j 0).toNat : Int)) rfl))) ?_
        rintro _ _ ⟨rfl, rfl⟩
        refine jX rfl rfl rfl (cB (cN (dF h_10))) (jZ (jd (kO rfl rfl))) ?_
        rintro _ _ ⟨rfl, rfl⟩
        refine jA (jw (v := .bool (!(decide (((key.getD j 0).toNat : Int) = 46)))) (cB (cN (dF h_10))) rfl) <| jA (jC (v := .bool (!(decide (((key.getD j 0).toNat : Int) = 46)))) rfl) ?_
        by_cases h_11 : ((key.getD j 0).toNat : Int) = 46
        · refine jO (b := false) rfl rfl rfl (cB (cN (dT h_11))) <| jO (b := false) rfl rfl rfl (cB (cN (dT h_11))) <| jA (js (v := .bool false) (cB (cN (dT h_11))) rfl) <| jE <| jB <| jR (cB rfl) <| jW <| jk <| jB <| jF ?_
          refine jA (ji (c := ((j + 1 : Nat) : Int)) he_4 rfl (wr (by omega))) <| jA (jC (v := iv ((j + 1 : Nat) : Int)) rfl) <| jE ?_
          refine ju (key.length - (j + 1)) (by omega) ⟨j + 1, by omega, (fun i hi hl => if h : i = j then h ▸ (by simp only [nameByte, Bool.and_eq_true, Bool.and_eq_false_iff, Bool.or_eq_true, Bool.or_eq_false_iff, decide_eq_true_eq, decide_eq_false_iff_not, Bool.not_eq_true', Bool.not_eq_false']; omega : nameByte (key.getD j 0) = true) else hN i (by omega) hl), he_2, he_3, rfl, rfl, rfl⟩
        refine jX rfl rfl rfl (cB (cN (dF h_11))) (jZ (jd (jC (v := .int .u8 ((key.getD j 0).toNat : Int)) rfl))) ?_
        rintro _ _ ⟨rfl, rfl⟩
        refine jX rfl rfl rfl (cB (cN (dF h_11))) (jZ (jd (kO rfl rfl))) ?_
        rintro _ _ ⟨rfl, rfl⟩
        refine jA (jw (v := .bool (!(decide (((key.getD j 0).toNat : Int) = 45)))) (cB (cN (dF h_11))) rfl) <| jE <| jB ?_
        by_cases h_12 : ((key.getD j 0).toNat : Int) = 45
        · refine jR (cB (cN (dT h_12))) <| jW <| jk <| jB <| jF <| jA (ji (c := ((j + 1 : Nat) : Int)) he_4 rfl (wr (by omega))) <| jA (jC (v := iv ((j + 1 : Nat) : Int)) rfl) <| jE ?_
          refine ju (key.length - (j + 1)) (by omega) ⟨j + 1, by omega, (fun i hi hl => if h : i = j then h ▸ (by simp only [nameByte, Bool.and_eq_true, Bool.and_eq_false_iff, Bool.or_eq_true, Bool.or_eq_false_iff, decide_eq_true_eq, decide_eq_false_iff_not, Bool.not_eq_true', Bool.not_eq_false']; omega : nameByte (key.getD j 0) = true) else hN i (by omega) hl), he_2, he_3, rfl, rfl, rfl⟩
        refine jQ (cB (cN (dF h_12))) <| jD <| jF <| jA (jG (v := .bool false) rfl) <| jE <| jB <| jM <| kA <| jb <| jb ?_
        refine kA <| jb <| jU (.inl rfl) rfl (jN (v := .bool false) rfl) (List.nil_sublist _) ?_
        refine ⟨_, ?_, rfl, rfl⟩
        rw [nameOk_bad (j := j) (by omega) (by simp only [nameByte, Bool.and_eq_true, Bool.and_eq_false_iff, Bool.or_eq_true, Bool.or_eq_false_iff, decide_eq_true_eq, decide_eq_false_iff_not, Bool.not_eq_true', Bool.not_eq_false']; omega)]
      refine jO (b := false) rfl rfl rfl (cB (dF h_9)) <| jO (b := false) rfl rfl rfl (cB (dF h_9)) <| jX rfl rfl rfl (cB (cN (dF h_8))) (jZ (jd (js (v := .bool false) (cB (dF h_9)) rfl))) ?_
      rintro _ _ ⟨rfl, rfl⟩
      refine jX rfl rfl rfl (cB (cN (dF h_8))) (jZ (jd (kF rfl))) ?_
      rintro _ _ ⟨rfl, rfl⟩
      refine jA (jw (v := .bool true) (cB (cN (dF h_8))) rfl) <| jA (jC (v := .bool true) rfl) <| jX rfl rfl rfl (cB rfl) (jZ (jd (jC (v := .int .u8 ((key.getD j 0).toNat : Int)) rfl))) ?_
      rintro _ _ ⟨rfl, rfl⟩
      refine jX rfl rfl rfl (cB rfl) (jZ (jd (kO rfl rfl))) ?_
      rintro _ _ ⟨rfl, rfl⟩
      refine jA (jw (v := .bool (!(decide (((key.getD j 0).toNat : Int) = 46)))) (cB rfl) rfl) <| jA (jC (v := .bool (!(decide (((key.getD j 0).toNat : Int) = 46)))) rfl) ?_
      by_cases h_13 : ((key.getD j 0).toNat : Int) = 46
      · refine jO (b := false) rfl rfl rfl (cB (cN (dT h_13))) <| jO (b := false) rfl rfl rfl (cB (cN (dT h_13))) <| jA (js (v := .bool false) (cB (cN (dT h_13))) rfl) <| jE <| jB <| jR (cB rfl) <| jW <| jk <| jB <| jF ?_
        refine jA (ji (c := ((j + 1 : Nat) : Int)) he_4 rfl (wr (by omega))) <| jA (jC (v := iv ((j + 1 : Nat) : Int)) rfl) <| jE ?_
        refine ju (key.length - (j + 1)) (by omega) ⟨j + 1, by omega, (fun i hi hl => if h : i = j then h ▸ (by simp only [nameByte, Bool.and_eq_true, Bool.and_eq_false_iff, Bool.or_eq_true, Bool.or_eq_false_iff, decide_eq_true_eq, decide_eq_false_iff_not, Bool.not_eq_true', Bool.not_eq_false']; omega : nameByte (key.getD j 0) = true) else hN i (by omega) hl), he_2, he_3, rfl, rfl, rfl⟩
      refine jX rfl rfl rfl (cB (cN (dF h_13))) (jZ (jd (jC (v := .int .u8 ((key.getD j 0).toNat : Int)) rfl))) ?_
      rintro _ _ ⟨rfl, rfl⟩
      refine jX rfl rfl rfl (cB (cN (dF h_13))) (jZ (jd (kO rfl rfl))) ?_
      rintro _ _ ⟨rfl, rfl⟩
      refine jA (jw (v := .bool (!(decide (((key.getD j 0).toNat : Int) = 45)))) (cB (cN (dF h_13))) rfl) <| jE <| jB ?_
      by_cases h_14 : ((key.getD j 0).toNat : Int) = 45
      · refine jR (cB (cN (dT h_14))) <| jW <| jk <| jB <| jF <| jA (ji (c := ((j + 1 : Nat) : Int)) he_4 rfl (wr (by omega))) <| jA (jC (v := iv ((j + 1 : Nat) : Int)) rfl) <| jE ?_
        refine ju (key.length - (j + 1)) (by omega) ⟨j + 1, by omega, (fun i hi hl => if h : i = j then h ▸ (by simp only [nameByte, Bool.and_eq_true, Bool.and_eq_false_iff, Bool.or_eq_true, Bool.or_eq_false_iff, decide_eq_true_eq, decide_eq_false_iff_not, Bool.not_eq_true', Bool.not_eq_false']; omega : nameByte (key.getD j 0) = true) else hN i (by omega) hl), he_2, he_3, rfl, rfl, rfl⟩
      refine jQ (cB (cN (dF h_14))) <| jD <| jF <| jA (jG (v := .bool false) rfl) <| jE <| jB <| jM <| kA <| jb <| jb ?_
      refine kA <| jb <| jU (.inl rfl) rfl (jN (v := .bool false) rfl) (List.nil_sublist _) ?_
      refine ⟨_, ?_, rfl, rfl⟩
      rw [nameOk_bad (j := j) (by omega) (by simp only [nameByte, Bool.and_eq_true, Bool.and_eq_false_iff, Bool.or_eq_true, Bool.or_eq_false_iff, decide_eq_true_eq, decide_eq_false_iff_not, Bool.not_eq_true', Bool.not_eq_false']; omega)]
    refine jO (b := false) rfl rfl rfl (cB (dF h_7)) <| jO (b := false) rfl rfl rfl (cB (dF h_7)) <| jA (js (v := .bool false) (cB (dF h_7)) rfl) <| jA (kF rfl) <| jA (jC (v := .bool true) rfl) <| jX rfl rfl rfl (cB rfl) (jZ (jd (jC (v := .int .u8 ((key.getD j 0).toNat : Int)) rfl))) ?_
    rintro _ _ ⟨rfl, rfl⟩
    refine jX rfl rfl rfl (cB rfl) (jZ (jd (kT rfl rfl))) ?_
    rintro _ _ ⟨rfl, rfl⟩
    refine jX rfl rfl rfl (cB rfl) (jZ (jd (jC (v := .bool (decide (48 ≤ ((key.getD j 0).toNat : Int)))) rfl))) ?_
    rintro _ _ ⟨rfl, rfl⟩
    by_cases h_15 : 48 ≤ ((key.getD j 0).toNat : Int)
    · refine jX rfl rfl rfl (cB (dT h_15)) (jZ (jd (jC (v := .int .u8 ((key.getD j 0).toNat : Int)) rfl))) ?_
      rintro _ _ ⟨rfl, rfl⟩
      refine jX rfl rfl rfl (cB (dT h_15)) (jZ (jd (PO.leq rfl rfl))) ?_
      rintro _ _ ⟨rfl, rfl⟩
      refine jX rfl rfl rfl (cB rfl) (jZ (jd (jw (v := .bool (decide (((key.getD j 0).toNat : Int) ≤ 57))) (cB (dT h_15)) rfl))) ?_
      rintro _ _ ⟨rfl, rfl⟩
      refine jX rfl rfl rfl (cB rfl) (jZ (jd (kF rfl))) ?_
      rintro _ _ ⟨rfl, rfl⟩
      refine jA (jw (v := .bool (!(decide (((key.getD j 0).toNat : Int) ≤ 57)))) (cB rfl) rfl) <| jA (jC (v := .bool (!(decide (((key.getD j 0).toNat : Int) ≤ 57)))) rfl) ?_
      by_cases h_16 : ((key.getD j 0).toNat : Int) ≤ 57
      · refine jO (b := false) rfl rfl rfl (cB (cN (dT h_16))) <| jO (b := false) rfl rfl rfl (cB (cN (dT h_16))) <| jA (js (v := .bool false) (cB (cN (dT h_16))) rfl) <| jA (jC (v := .bool false) rfl) <| jO (b := false) rfl rfl rfl (cB rfl) <| jO (b := false) rfl rfl rfl (cB rfl) <| jA (js (v := .bool false) (cB rfl) rfl) <| jE <| jB <| jR (cB rfl) ?_
        refine jW <| jk <| jB <| jF <| jA (ji (c := ((j + 1 : Nat) : Int)) he_4 rfl (wr (by omega))) <| jA (jC (v := iv ((j + 1 : Nat) : Int)) rfl) <| jE ?_
        refine ju (key.length - (j + 1)) (by omega) ⟨j + 1, by omega, (fun i hi hl => if h : i = j then h ▸ (by simp only [nameByte, Bool.and_eq_true, Bool.and_eq_false_iff, Bool.or_eq_true, Bool.or_eq_false_iff, decide_eq_true_eq, decide_eq_false_iff_not, Bool.not_eq_true', Bool.not_eq_false']; omega : nameByte (key.getD j 0) = true) else hN i (by omega) hl), he_2, he_3, rfl, rfl, rfl⟩
      refine jX rfl rfl rfl (cB (cN (dF h_16))) (jZ (jd (jC (v := .int .u8 ((key.getD j 0).toNat : Int)) rfl))) ?_
      rintro _ _ ⟨rfl, rfl⟩
      refine jX rfl rfl rfl (cB (cN (dF h_16))) (jZ (jd (kO rfl rfl))) ?_
      rintro _ _ ⟨rfl, rfl⟩
      refine jA (jw (v := .bool (!(decide (((key.getD j 0).toNat : Int) = 46)))) (cB (cN (dF h_16))) rfl) <| jA (jC (v := .bool (!(decide (((key.getD j 0).toNat : Int) = 46)))) rfl) ?_
      by_cases h_17 : ((key.getD j 0).toNat : Int) = 46
      · refine jO (b := false) rfl rfl rfl (cB (cN (dT h_17))) <| jO (b := false) rfl rfl rfl (cB (cN (dT h_17))) <| jA (js (v := .bool false) (cB (cN (dT h_17))) rfl) <| jE <| jB <| jR (cB rfl) <| jW <| jk <| jB <| jF ?_
        refine jA (ji (c := ((j + 1 : Nat) : Int)) he_4 rfl (wr (by omega))) <| jA (jC (v := iv ((j + 1 : Nat) : Int)) rfl) <| jE ?_
        refine ju (key.length - (j + 1)) (by omega) ⟨j + 1, by omega, (fun i hi hl => if h : i = j then h ▸ (by simp only [nameByte, Bool.and_eq_true, Bool.and_eq_false_iff, Bool.or_eq_true, Bool.or_eq_false_iff, decide_eq_true_eq, decide_eq_false_iff_not, Bool.not_eq_true', Bool.not_eq_false']; omega : nameByte (key.getD j 0) = true) else hN i (by omega) hl), he_2, he_3, rfl, rfl, rfl⟩
      refine jX rfl rfl rfl (cB (cN (dF h_17))) (jZ (jd (jC (v := .int .u8 ((key.getD j 0).toNat : Int)) rfl))) ?_
      rintro _ _ ⟨rfl, rfl⟩
      refine jX rfl rfl rfl (cB (cN (dF h_17))) (jZ (jd (kO rfl rfl))) ?_
      rintro _ _ ⟨rfl, rfl⟩
      refine jA (jw (v := .bool (!(decide (((key.getD j 0).toNat : Int) = 45)))) (cB (cN (dF h_17))) rfl) <| jE <| jB ?_
      by_cases h_18 : ((key.getD j 0).toNat : Int) = 45
      · refine jR (cB (cN (dT h_18))) <| jW <| jk <| jB <| jF <| jA (ji (c := ((j + 1 : Nat) : Int)) he_4 rfl (wr (by omega))) <| jA (jC (v := iv ((j + 1 : Nat) : Int)) rfl) <| jE ?_
        refine ju (key.length - (j + 1)) (by omega) ⟨j + 1, by omega, (fun i hi hl => if h : i = j then h ▸ (by simp only [nameByte, Bool.and_eq_true, Bool.and_eq_false_iff, Bool.or_eq_true, Bool.or_eq_false_iff, decide_eq_true_eq, decide_eq_false_iff_not, Bool.not_eq_true', Bool.not_eq_false']; omega : nameByte (key.getD j 0) = true) else hN i (by omega) hl), he_2, he_3, rfl, rfl, rfl⟩
      refine jQ (cB (cN (dF h_18))) <| jD <| jF <| jA (jG (v := .bool false) rfl) <| jE <| jB <| jM <| kA <| jb <| jb ?_
      refine kA <| jb <| jU (.inl rfl) rfl (jN (v := .bool false) rfl) (List.nil_sublist _) ?_
      refine ⟨_, ?_, rfl, rfl⟩
      rw [nameOk_bad (j := j) (by omega) (by simp only [nameByte, Bool.and_eq_true, Bool.and_eq_false_iff, Bool.or_eq_true, Bool.or_eq_false_iff, decide_eq_true_eq, decide_eq_false_iff_not, Bool.not_eq_true', Bool.not_eq_false']; omega)]
    refine jO (b := false) rfl rfl rfl (cB (dF h_15)) <| jO (b := false) rfl rfl rfl (cB (dF h_15)) <| jX rfl rfl rfl (cB rfl) (jZ (jd (js (v := .bool false) (cB (dF h_15)) rfl))) ?_
    rintro _ _ ⟨rfl, rfl⟩
    refine jX rfl rfl rfl (cB rfl) (jZ (jd (kF rfl))) ?_
    rintro _ _ ⟨rfl, rfl⟩
    refine jA (jw (v := .bool true) (cB rfl) rfl) <| jA (jC (v := .bool true) rfl) <| jX rfl rfl rfl (cB rfl) (jZ (jd (jC (v := .int .u8 ((key.getD j 0).toNat : Int)) rfl))) ?_
    rintro _ _ ⟨rfl, rfl⟩
    refine jX rfl rfl rfl (cB rfl) (jZ (jd (kO rfl rfl))) ?_
    rintro _ _ ⟨rfl, rfl⟩
    refine jA (jw (v := .bool (!(decide (((key.getD j 0).toNat : Int) = 46)))) (cB rfl) rfl) <| jA (jC (v := .bool (!(decide (((key.getD j 0).toNat : Int) = 46)))) rfl) ?_
    by_cases h_19 : ((key.getD j 0).toNat : Int) = 46
    · refine jO (b := false) rfl rfl rfl (cB (cN (dT h_19))) <| jO (b := false) rfl rfl rfl (cB (cN (dT h_19))) <| jA (js (v := .bool false) (cB (cN (dT h_19))) rfl) <| jE <| jB <| jR (cB rfl) <| jW <| jk <| jB <| jF ?_
      refine jA (ji (c := ((j + 1 : Nat) : Int)) he_4 rfl (wr (by omega))) <| jA (jC (v := iv ((j + 1 : Nat) : Int)) rfl) <| jE ?_
      refine ju (key.length - (j + 1)) (by omega) ⟨j + 1, by omega, (fun i hi hl => if h : i = j then h ▸ (by simp only [nameByte, Bool.and_eq_true, Bool.and_eq_false_iff, Bool.or_eq_true, Bool.or_eq_false_iff, decide_eq_true_eq, decide_eq_false_iff_not, Bool.not_eq_true', Bool.not_eq_false']; omega : nameByte (key.getD j 0) = true) else hN i (by omega) hl), he_2, he_3, rfl, rfl, rfl⟩
    refine jX rfl rfl rfl (cB (cN (dF h_19))) (jZ (jd (jC (v := .int .u8 ((key.getD j 0).toNat : Int)) rfl))) ?_
    rintro _ _ ⟨rfl, rfl⟩
    refine jX rfl rfl rfl (cB (cN (dF h_19))) (jZ (jd (kO rfl rfl))) ?_
    rintro _ _ ⟨rfl, rfl⟩
    refine jA (jw (v := .bool (!(decide (((key.getD j 0).toNat : Int) = 45)))) (cB (cN (dF h_19))) rfl) <| jE <| jB ?_
    by_cases h_20 : ((key.getD j 0).toNat : Int) = 45
    · refine jR (cB (cN (dT h_20))) <| jW <| jk <| jB <| jF <| jA (ji (c := ((j + 1 : Nat) : Int)) he_4 rfl (wr (by omega))) <| jA (jC (v := iv ((j + 1 : Nat) : Int)) rfl) <| jE ?_
      refine ju (key.length - (j + 1)) (by omega) ⟨j + 1, by omega, (fun i hi hl => if h : i = j then h ▸ (by simp only [nameByte, Bool.and_eq_true, Bool.and_eq_false_iff, Bool.or_eq_true, Bool.or_eq_false_iff, decide_eq_true_eq, decide_eq_false_iff_not, Bool.not_eq_true', Bool.not_eq_false']; omega : nameByte (key.getD j 0) = true) else hN i (by omega) hl), he_2, he_3, rfl, rfl, rfl⟩
    refine jQ (cB (cN (dF h_20))) <| jD <| jF <| jA (jG (v := .bool false) rfl) <| jE <| jB <| jM <| kA <| jb <| jb ?_
    refine kA <| jb <| jU (.inl rfl) rfl (jN (v := .bool false) rfl) (List.nil_sublist _) ?_
    refine ⟨_, ?_, rfl, rfl⟩
    rw [nameOk_bad (j := j) (by omega) (by simp only [nameByte, Bool.and_eq_true, Bool.and_eq_false_iff, Bool.or_eq_true, Bool.or_eq_false_iff, decide_eq_true_eq, decide_eq_false_iff_not, Bool.not_eq_true', Bool.not_eq_false']; omega)]
  refine jR (cB (dF h_5)) <| kB <| jm <| jm <| kC <| jB <| jD <| jF <| jA (jC (v := str key) he_2) <| jA (kM kf rfl) ?_
  refine jH rfl (jI [] Tryz.call35 rfl (C_within (key.length : Int) 1 12) rfl (fun _ _ => trivial)) ?_
  rintro _ _ ⟨_, ⟨rfl, rfl⟩, rfl⟩
  refine jA (jG (v := .bool (decide (1 ≤ (key.length : Int)) && decide ((key.length : Int) ≤ 12))) rfl) <| jE <| jB <| jM <| jU (.inl rfl) rfl (jN (v := .bool (decide (1 ≤ (key.length : Int)) && decide ((key.length : Int) ≤ 12))) rfl) (List.nil_sublist _) ?_
  refine ⟨_, ?_, rfl, rfl⟩
  rw [nameOk_good (j := j) (by omega) hN]
  congr 1 <;> exact decide_eq_decide.2 (by omega)

end Go.Proofs.YtghfijncihbojaaGreatDoor

set_option linter.unusedSimpArgs false
set_option linter.unusedVariables false
set_option linter.unnecessarySimpa false
namespace Go.Proofs.YtghfijncihbojaaGreatDoor
open Go Go.RowKit

def underL (p : Str) : List Cell → List Str → List Str
  | [], out => out
  | c :: s, out => if prefixB c.1 p = true then underL p s (out ++ [c.1]) else underL p s out
theorem underL_app (p : Str) : ∀ (s : List Cell) (out : List Str), underL p s out = out ++ keysUnder s p
  | [], out => by simp [underL, keysUnder]
  | c :: s, out => by
    unfold underL
    cases h : prefixB c.1 p with
    | true => rw [if_pos rfl, underL_app p s]; simp [keysUnder, h]
    | false => rw [if_neg (by simp), underL_app p s]; simp [keysUnder, h]
theorem underL_nil (p : Str) (s : List Cell) : underL p s [] = keysUnder s p := by rw [underL_app]; rfl
theorem isKid_short {k : Str} (h : ¬ (5 : Int) ≤ (k.length : Int)) : MS.isKid k = false := by
  unfold MS.isKid
  rw [decide_eq_false (by omega)]; rfl
theorem isKid_yes {k : Str} (h : (5 : Int) ≤ (k.length : Int)) (h2 : k.drop (k.length - 2) = [47, 112]) : MS.isKid k = true := by
  unfold MS.isKid
  rw [decide_eq_true (by omega), decide_eq_true h2]; rfl
theorem isKid_no {k : Str} (h2 : ¬ k.drop (k.length - 2) = [47, 112]) : MS.isKid k = false := by
  unfold MS.isKid
  rw [decide_eq_false h2, Bool.and_false]
theorem cutSuf_kid {k u : Str} {b : Bool} (h : cutSuf k [47, 112] = (u, b)) (h5 : (5 : Int) ≤ (k.length : Int)) : MS.isKid k = b := by
  unfold cutSuf suffixB at h
  simp only [List.length_cons, List.length_nil] at h
  rw [decide_eq_true (by omega), Bool.true_and] at h
  by_cases h2 : k.drop (k.length - (0 + 1 + 1)) = [47, 112]
  · rw [isKid_yes h5 h2]
    simp [h2] at h
    exact h.2.symm
  · rw [isKid_no h2]
    simp [h2] at h
    exact h.2.symm
theorem cutSuf_kidT {k u : Str} (h : cutSuf k [47, 112] = (u, true)) (h5 : (5 : Int) ≤ (k.length : Int)) : k.take (k.length - 2) = u ∧ 3 ≤ u.length := by
  unfold cutSuf at h
  split at h
  · simp only [Prod.mk.injEq, and_true] at h
    refine ⟨h, ?_⟩
    rw [← h, List.length_take]
    simp only [List.length_cons, List.length_nil]
    omega
  · simp at h
end Go.Proofs.YtghfijncihbojaaGreatDoor

set_option linter.unusedSimpArgs false
set_option linter.unusedVariables false
set_option linter.unnecessarySimpa false
namespace Go.Proofs.YtghfijncihbojaaGreatDoor
open Go Go.RowKit
attribute [local irreducible] JL JC JQ JO LO PO JA JX Ct

theorem N_ikeysUnder (sa : Option Addr) (sc : Nat) (s : List Cell) (p : Str) (hs : s.length ≤ 1000000000) (hp : p.length ≤ 1000000000) :
    Ct Tryz.prog 200 [.slice sa s.length sc, str p] ([]) (fun w => Sees w (.slice sa s.length sc) 2 s.length (s.flatMap encC)) (fun v A' => ∃ r0a r0c r0, keysUnder s p = r0 ∧ r0.length ≤ s.length ∧ v = .slice r0a r0.length r0c ∧ A' = [rS r0a r0c r0]) := by
  refine Ct.intro Tryz.func200 rfl Tryz.ntmps200 (lb rfl) fun w0 hpre => ?_
  have hs_sa : Sees w0 _ _ _ _ := hpre
  refine jD <| jF <| jA (jG (v := .slice none 0 0) rfl) <| jE <| jB <| jD <| jF <| jA (jG (v := .slice none 0 0) rfl) <| jE <| jB ?_
  refine jD <| jD <| jF <| jA (jC (v := .slice sa s.length sc) rfl) <| jA (jy ki rfl) <| jA (jC (v := iv 0) rfl) <| jE <| jB <| jl <| JC.nilRow 9 1 ?_
  refine kE (fun k_ e_ L_ => ∃ j : Nat, ∃ out_a : Option Addr, ∃ out_c : Nat, ∃ out_ : List Str, (j ≤ s.length) ∧ (out_.length ≤ j) ∧ (underL p (s.drop j) out_ = underL p s ([] : List Str)) ∧ e_ 1 = str p ∧ e_ 4 = .slice none 0 0 ∧ e_ 5 = .slice out_a out_.length out_c ∧ e_ 8 = .slice sa s.length sc ∧ e_ 9 = nv s.length ∧ e_ 10 = nv j ∧ L_ = [rS out_a out_c out_] ∧ k_ = s.length - j) _ ⟨0, none, 0, ([] : List Str), by omega, (by first | omega | (simp only [LE]; omega)), rfl, rfl, rfl, rfl, rfl, rfl, rfl, rfl, rfl⟩ ?_
  rintro _ e_1 _ ⟨j, out_a, out_c, out_, hj, ho, hR, he_2, he_3, he_4, he_5, he_6, he_7, rfl, rfl⟩
  refine jD <| jF <| jA (jr he_7 he_6) <| jE <| jB <| jD ?_
  by_cases h_8 : ((j : Nat) : Int) < ((s.length : Nat) : Int)
  · have hlt : j < s.length := by omega
    refine jQ (cB (dT h_8)) <| jW <| jB <| jD <| jl <| jD <| jF ?_
    obtain ⟨hr_9, hr_9b, -⟩ := sees_some hs_sa (by omega)
    refine jA (kD (i := j) ki kp hr_9 hr_9b he_5 he_7 (by omega)) <| jT (LO.loadSK (vs := [str ((s.getD j c0).1), str ((s.getD j c0).2)]) hs_sa nM rfl gR kp (atC (by omega)) rfl (by decide)) ?_
    refine jH rfl (jh (z := .agg #[str [], str []]) (cs := [str [], str []]) gJ rfl) ?_
    rintro _ _ ⟨b_10, rfl, rfl⟩
    refine jH rfl (ja 0 (vs := [str ((s.getD j c0).1), str ((s.getD j c0).2)]) (cs' := [str ((s.getD j c0).1), str ((s.getD j c0).2)]) rfl rfl rfl rfl kp rfl rfl (lb rfl) rfl) ?_
    rintro _ _ rfl
    refine jE <| jB <| jD <| jF <| jA (jY fo130_0 rfl) <| jT (jf 0 (v := str ((s.getD j c0).1)) rfl rfl kg rfl) <| jA (jC (v := str p) he_2) ?_
    refine jH rfl (jI [] Tryz.call219 rfl (N_hasPrefix ((s.getD j c0).1) p) rfl (fun _ _ => trivial)) ?_
    rintro _ _ ⟨_, ⟨b_13, e_11, rfl, rfl⟩, rfl⟩
    refine jE <| jB ?_
    rcases Bool.eq_false_or_eq_true (b_13) with h_14 | h_14
    · refine jQ (cB h_14) <| jF <| jA (jC (v := .slice out_a out_.length out_c) he_4) <| jA (jY fo130_0 rfl) <| jT (jf 0 (v := str ((s.getD j c0).1)) rfl rfl kg rfl) ?_
      refine jH rfl (kH (ps := [(0, str ((s.getD j c0).1))]) (cur := #[str ((s.getD j c0).1)]) kd kh gA rfl (by kernel_rfl) (by decide) (by decide)) ?_
      rintro _ _ ⟨a_15, rfl, rfl⟩
      refine jH rfl (kG 2 (q := 1) (news := ([(s.getD j c0).1] : List Str).map str) (n' := (out_ ++ ([(s.getD j c0).1] : List Str)).length) (cs' := (out_ ++ ([(s.getD j c0).1] : List Str)).map str) rfl kd kd kt rfl (by' := 16) rfl rfl rfl rfl rfl (fun w hw => Src.sees (hw.see (i := 0) rfl) (oneS _)) (by (try simp only [LE]); omega) (by (try simp only [LE]); omega) (by simp only [List.length_append, List.length_take, List.length_drop, List.length_cons, List.length_nil] <;> first | rfl | omega) (by simp only [List.map_append])) ?_
      rintro _ _ ⟨a_16, c_17, rfl, rfl⟩
      refine jA (jG (v := .slice a_16 ((out_ ++ ([(s.getD j c0).1] : List Str)).length) c_17) rfl) <| jE <| jk <| jB <| jF <| jA (ji (c := ((j + 1 : Nat) : Int)) he_7 rfl (wr (by omega))) <| jA (jC (v := iv ((j + 1 : Nat) : Int)) rfl) <| jE <| jt [2] (A := [rS a_16 c_17 (out_ ++ ([(s.getD j c0).1] : List Str))]) rfl ?_
      refine ju (s.length - (j + 1)) (by omega) ⟨j + 1, a_16, c_17, (out_ ++ ([(s.getD j c0).1] : List Str)), by omega, (by first | omega | (simp only [LE]; omega)), (by rw [drop_at (getD_some (d := c0) hlt)] at hR; simp only [underL, h_8, e_11, h_14, SB] at hR; (repeat (first | rw [if_pos (by omega)] at hR | rw [if_neg (by omega)] at hR)); exact hR), he_2, he_3, rfl, he_5, he_6, rfl, rfl, rfl⟩
    refine jR (cB h_14) <| jW <| jk <| jB <| jF <| jA (ji (c := ((j + 1 : Nat) : Int)) he_7 rfl (wr (by omega))) <| jA (jC (v := iv ((j + 1 : Nat) : Int)) rfl) <| jE <| jt [1] (A := [rS out_a out_c out_]) rfl ?_
    refine ju (s.length - (j + 1)) (by omega) ⟨j + 1, out_a, out_c, out_, by omega, (by first | omega | (simp only [LE]; omega)), (by rw [drop_at (getD_some (d := c0) hlt)] at hR; simp only [underL, h_8, e_11, h_14, SB] at hR; (repeat (first | rw [if_pos (by omega)] at hR | rw [if_neg (by omega)] at hR)); exact hR), he_2, he_3, he_4, he_5, he_6, rfl, rfl, rfl⟩
  rw [List.drop_of_length_le (by omega)] at hR
  simp only [underL] at hR
  have hE := hR.symm
  refine jR (cB (dF h_8)) <| kB <| jm <| jm <| kC <| jB <| jD <| jF <| jA (jC (v := .slice out_a out_.length out_c) he_4) <| jA (jG (v := .slice out_a out_.length out_c) rfl) ?_
  refine jE <| jB <| jM <| jU (.inl rfl) rfl (jN (v := .slice out_a out_.length out_c) rfl) (List.Sublist.refl _) ?_
  exact ⟨out_a, out_c, out_, (by rw [← underL_nil]; exact hE), (by first | omega | (simp only [LE]; omega)), rfl, rfl⟩

theorem N_under (p : Nat) (x : MA) (m : MS) {S T : Nat} (hk : m.ok S T) (hS : S ≤ 900000000) (hT : T ≤ 900000000) (p_ : Str) (hp_ : p_.length ≤ 100000000) :
    Ct Tryz.prog 171 [.pointer (some ⟨p, 0, none⟩), str p_] (mb p x m :: mr x m) (fun _ => True) (fun v A' => ∃ x' m' r0a r0c r0, MS.under m p_ = (m', r0) ∧ m'.ok (S) (T + 1) ∧ okL S p_.length r0 ∧ v = .slice r0a r0.length r0c ∧ A' = mb p x' m' :: mr x' m' ++ [rS r0a r0c r0]) := by
  obtain ⟨hk0, hk1, hk2, hk3⟩ := id hk
  refine Ct.intro Tryz.func171 rfl Tryz.ntmps171 (lb rfl) fun w0 hpre => ?_
  refine jD <| jF <| jA (jG (v := .slice none 0 0) rfl) <| jE <| jB <| jD <| jF <| jA (jC (v := pv p) rfl) <| jA (jC (v := pv p) rfl) <| jA (ka rfl) ?_
  refine jA (jY fo58_1 rfl) <| jA (jY fo30_0 rfl) <| jT (jf 0 (v := .slice x.a1 m.r.length x.c1) rfl rfl ku rfl) <| jA (jC (v := str p_) rfl) <| jA (kS rfl rfl (by (try simp only [List.length_append, List.length_cons, List.length_nil, List.length_drop, List.length_take]); omega)) ?_
  refine jH rfl (jI [2] Tryz.call66 rfl (C_addSpan x.a1 x.c1 m.r (p_ ++ [42]) (by omega)) rfl (fun _ _ => trivial)) ?_
  rintro _ _ ⟨_, ⟨a_1, c_2, rfl, rfl⟩, rfl⟩
  refine jA (ka rfl) <| jA (jY fo58_1 rfl) <| jA (jY fo30_0 rfl) ?_
  refine jH rfl (ja 1 (vs := [.slice a_1 ((addSpan m.r (p_ ++ [42])).length) c_2]) (cs' := [.slice x.a0 m.s.length x.c0, .slice a_1 ((addSpan m.r (p_ ++ [42])).length) c_2, .slice x.a2 m.w.length x.c2]) rfl rfl rfl rfl gM rfl rfl (lb rfl) rfl) ?_
  rintro _ _ rfl
  refine jE <| jB <| jD <| jF <| jA (jC (v := pv p) rfl) <| jA (ka rfl) <| jA (jY fo58_0 rfl) <| jT (jf 1 (v := .slice x.a0 m.s.length x.c0) rfl rfl gL rfl) <| jA (jC (v := str p_) rfl) ?_
  refine jH rfl (jI [] Tryz.call200 rfl (N_ikeysUnder x.a0 x.c0 m.s p_ (by have hl_ := hk.1; omega) (by omega)) rfl (fun w hw => hw.see (i := 2) rfl)) ?_
  rintro _ _ ⟨_, ⟨l_5a, l_5c, l_5, e_3, f_6, rfl, rfl⟩, rfl⟩
  refine jA (jG (v := .slice l_5a l_5.length l_5c) rfl) <| jE <| jB <| jM <| kK (pick_perm [2, 2, 1, 1, 0] (A := [bk p 58 [.slice x.a0 m.s.length x.c0, .slice a_1 ((addSpan m.r (p_ ++ [42])).length) c_2, .slice x.a2 m.w.length x.c2], rC x.a0 x.c0 m.s, rS a_1 c_2 (addSpan m.r (p_ ++ [42])), rS x.a2 x.c2 m.w, rS l_5a l_5c l_5]) (F := []) rfl).symm <| jU (.inl rfl) rfl (jN (v := .slice l_5a l_5.length l_5c) rfl) (tS 5 _) ?_
  subst e_3
  exact ⟨⟨x.a0, x.c0, a_1, c_2, x.a2, x.c2⟩, (m.under p_).1, l_5a, l_5c, _, rfl, hk.under p_, keysUnder_ok hk p_, rfl, rfl⟩

theorem N_wipe (p : Nat) (x : MA) (m : MS) {S T : Nat} (hk : m.ok S T) (hS : S ≤ 400000000) (hT : T ≤ 400000000) (p_ : Str) (hp_ : p_.length ≤ 100000000) :
    Ct Tryz.prog 169 [.pointer (some ⟨p, 0, none⟩), str p_] (mb p x m :: mr x m) (fun _ => True) (fun v A' => ∃ x' m', MS.wipe' m p_ = m' ∧ m'.ok (S) (T + S + 1) ∧ v = .tuple #[] ∧ A' = mb p x' m' :: mr x' m') := by
  refine Ct.intro Tryz.func169 rfl Tryz.ntmps169 (lb rfl) fun w0 hpre => ?_
  refine jD <| jF <| jA (jC (v := pv p) rfl) <| jA (jC (v := str p_) rfl) ?_
  refine jH rfl (jI [0, 0, 0, 0] Tryz.call171 rfl (N_under p x m hk (by omega) (by omega) p_ (by omega)) rfl (fun _ _ => trivial)) ?_
  rintro _ _ ⟨_, ⟨x_3, m_4, l_5a, l_5c, l_5, e_1, k_2, f_6, rfl, rfl⟩, rfl⟩
  refine jA (jy kd rfl) <| jA (jC (v := iv 0) rfl) <| jE <| jB <| jl ?_
  have hll := f_6.1
  refine kE (fun k_ e_ L_ => ∃ j : Nat, ∃ x : MA, ∃ mm : MS, (j ≤ l_5.length) ∧ (mm.ok (S) (T + 1 + j)) ∧ (MS.wipeL (l_5.drop j) mm = MS.wipeL l_5 m_4) ∧ e_ 0 = pv p ∧ e_ 8 = .slice l_5a l_5.length l_5c ∧ e_ 9 = nv l_5.length ∧ e_ 10 = nv j ∧ L_ = [mb p x mm, rC x.a0 x.c0 mm.s, rS x.a1 x.c1 mm.r, rS x.a2 x.c2 mm.w, rS l_5a l_5c l_5] ∧ k_ = l_5.length - j) _ ⟨0, x_3, m_4, by omega, (k_2.mono (by omega) (by omega)), rfl, rfl, rfl, rfl, rfl, rfl, rfl⟩ ?_
  rintro _ e_7 _ ⟨j, x, mm, hj, hkmm, hR, he_8, he_9, he_10, he_11, rfl, rfl⟩
  refine jD <| jF <| jA (jr he_11 he_10) <| jE <| jB <| jD ?_
  by_cases h_12 : ((j : Nat) : Int) < ((l_5.length : Nat) : Int)
  · have hlt : j < l_5.length := by omega
    have hbj := f_6.2 j hlt
    try simp only [List.length_cons, List.length_nil] at hbj
    refine jQ (cB (dT h_12)) <| jW <| jB <| jD <| jl <| jD <| jF ?_
    refine kW fun hst => ?_
    obtain ⟨hr_13, hr_13b, -⟩ := row_some 4 rfl (by omega) hst
    refine jA (kD (i := j) kd kh hr_13 hr_13b he_9 he_11 (by omega)) <| jT (kX 4 (v := str (l_5.getD j [])) rfl rfl kg (atS (by omega))) <| jA (jG (v := str (l_5.getD j [])) rfl) <| jE <| jB <| jF <| jA (jC (v := pv p) he_8) <| jA (jC (v := str (l_5.getD j [])) rfl) ?_
    refine jH rfl (jI [0, 0, 0, 0] Tryz.call168 rfl (N_layNil p x mm hkmm (by omega) (by omega) (l_5.getD j []) (by omega)) rfl (fun _ _ => trivial)) ?_
    rintro _ _ ⟨_, ⟨x_16, m_17, e_14, k_15, rfl, rfl⟩, rfl⟩
    refine jE <| jk <| jB <| jF <| jA (ji (c := ((j + 1 : Nat) : Int)) he_11 rfl (wr (by omega))) <| jA (jC (v := iv ((j + 1 : Nat) : Int)) rfl) <| jE <| jt [0, 0, 0, 0, 0] (A := [mb p x_16 m_17, rC x_16.a0 x_16.c0 m_17.s, rS x_16.a1 x_16.c1 m_17.r, rS x_16.a2 x_16.c2 m_17.w, rS l_5a l_5c l_5]) rfl ?_
    refine ju (l_5.length - (j + 1)) (by omega) ⟨j + 1, x_16, m_17, by omega, (k_15.mono (by omega) (by omega)), (by rw [drop_at (getD_some (d := []) hlt)] at hR; simp only [MS.wipeL, e_1, h_12, e_14, SB] at hR; (repeat (first | rw [if_pos (by omega)] at hR | rw [if_neg (by omega)] at hR)); exact hR), he_8, he_9, he_10, rfl, rfl, rfl⟩
  rw [List.drop_of_length_le (by omega)] at hR
  simp only [MS.wipeL] at hR
  have hE := hR.symm
  refine jR (cB (dF h_12)) <| kB <| jm <| jm <| kC <| Done.none (.inr rfl) rfl (tS 4 _) ?_
  exact ⟨x, mm, (by simp only [MS.wipe', e_1, h_12, hE, SB]; (repeat (first | rw [if_pos (by omega)] | rw [if_neg (by omega)])); all_goals (first | rfl | simp only [SB, e_1, h_12, hE])), (hkmm.mono (by omega) (by omega)), rfl, rfl⟩

theorem N_makePipe (p : Nat) (x : MA) (m : MS) {S T : Nat} (hk : m.ok S T) (hS : S ≤ 300000000) (hT : T ≤ 300000000)  :
    Ct Tryz.prog 105 [.pointer (some ⟨p, 0, none⟩)] (mb p x m :: mr x m) (fun _ => True) (fun v A' => ∃ x' m' r0 r1, MS.makePipe m = (m', r0, r1) ∧ m'.ok (S + 2) (T + 3) ∧ (0 ≤ r0 ∧ r0 ≤ 999) ∧ (0 ≤ r1 ∧ r1 ≤ 9) ∧ v = .tuple #[.int .i64 r0, .int .i64 r1] ∧ A' = mb p x' m' :: mr x' m') := by
  refine Ct.intro Tryz.func105 rfl Tryz.ntmps105 (lb rfl) fun w0 hpre => ?_
  refine jD <| jF <| jA (jG (v := iv 0) rfl) <| jA (jG (v := iv 0) rfl) <| jE <| jB <| jD <| jD <| jF <| jA (jC (v := pv p) rfl) ?_
  refine jH rfl (jI [0, 0, 0, 0] Tryz.call160 rfl (N_num p x m hk (by omega) (by omega) [99, 47, 112, 105, 112, 101]) rfl (fun _ _ => trivial)) ?_
  rintro _ _ ⟨_, ⟨x_3, m_4, n_5, e_1, k_2, f_6, rfl, rfl⟩, rfl⟩
  refine jA (kT rfl rfl) <| jE <| jB ?_
  by_cases h_7 : 8 ≤ n_5
  · refine jQ (cB (dT h_7)) <| jD <| jF <| jA (jG (v := iv 0) rfl) <| jA (jG (v := iv 3) rfl) <| jE <| jB <| jM <| jb <| jn (.inl rfl) rfl (jN (v := iv 0) rfl) (jN (v := iv 3) rfl) (List.Sublist.refl _) ?_
    exact ⟨x_3, m_4, 0, 3, (by simp only [MS.makePipe, e_1, h_7, SB]; (repeat (first | rw [if_pos (by omega)] | rw [if_neg (by omega)])); all_goals (first | rfl | simp only [SB, e_1, h_7])), (k_2.mono (by omega) (by omega)), (by first | omega | (simp only [LE]; omega)), (by first | omega | (simp only [LE]; omega)), rfl, rfl⟩
  refine jR (cB (dF h_7)) <| jW <| jB <| jD <| jF <| jA (jC (v := pv p) rfl) ?_
  refine jH rfl (jI [0, 0, 0, 0] Tryz.call164 rfl (N_bump p x_3 m_4 k_2 (by omega) (by omega) [99, 47, 112, 105, 112, 101] (by decide)) rfl (fun _ _ => trivial)) ?_
  rintro _ _ ⟨_, ⟨x_10, m_11, n_12, e_8, k_9, f_13, rfl, rfl⟩, rfl⟩
  refine jA (jG (v := iv n_12) rfl) <| jE <| jB <| jD <| jF <| jA (jC (v := pv p) rfl) <| jA (jC (v := iv n_12) rfl) ?_
  refine jH rfl (jI [] Tryz.call175 rfl (N_pipeKey n_12 [47, 111] (by omega) (show List.length ([47, 111] : Str) ≤ 2 by decide) (by omega)) rfl (fun _ _ => trivial)) ?_
  rintro _ _ ⟨_, ⟨u_16, e_14, f_17, rfl, rfl⟩, rfl⟩
  refine jH rfl (jI [0, 0, 0, 0] Tryz.call165 rfl (N_setNum p x_10 m_11 k_9 (by omega) (by omega) u_16 1 (by omega) (by omega)) rfl (fun _ _ => trivial)) ?_
  rintro _ _ ⟨_, ⟨x_20, m_21, e_18, k_19, rfl, rfl⟩, rfl⟩
  refine jE <| jB <| jD <| jF <| jA (jC (v := iv n_12) rfl) <| jA (jG (v := iv n_12) rfl) <| jA (jG (v := iv 0) rfl) <| jE <| jB <| jM ?_
  refine jn (.inl rfl) rfl (jN (v := iv n_12) rfl) (jN (v := iv 0) rfl) (List.Sublist.refl _) ?_
  exact ⟨x_20, m_21, n_12, 0, (by simp only [MS.makePipe, e_1, h_7, e_8, e_14, e_18, SB]; (repeat (first | rw [if_pos (by omega)] | rw [if_neg (by omega)])); all_goals (first | rfl | simp only [SB, e_1, h_7, e_8, e_14, e_18])), (k_19.mono (by omega) (by omega)), (by first | omega | (simp only [LE]; omega)), (by first | omega | (simp only [LE]; omega)), rfl, rfl⟩

theorem N_isPipe (p : Nat) (x : MA) (m : MS) {S T : Nat} (hk : m.ok S T) (hS : S ≤ 700000000) (hT : T ≤ 700000000) (id : Int) (hid : -9223372036854775808 ≤ id ∧ id ≤ 9223372036854775807) :
    Ct Tryz.prog 176 [.pointer (some ⟨p, 0, none⟩), .int .i64 id] (mb p x m :: mr x m) (fun _ => True) (fun v A' => ∃ x' m' r0, MS.isPipe m id = (m', r0) ∧ m'.ok (S) (T + 1) ∧ v = .bool r0 ∧ A' = mb p x' m' :: mr x' m') := by
  refine Ct.intro Tryz.func176 rfl Tryz.ntmps176 (lb rfl) fun w0 hpre => ?_
  refine jD <| jF <| jA (jG (v := .bool false) rfl) <| jE <| jB <| jD <| jF <| jA (jC (v := pv p) rfl) <| jA (jC (v := iv id) rfl) ?_
  refine jH rfl (jI [] Tryz.call175 rfl (N_pipeKey id [47, 111] (by omega) (show List.length ([47, 111] : Str) ≤ 2 by decide) (by omega)) rfl (fun _ _ => trivial)) ?_
  rintro _ _ ⟨_, ⟨u_3, e_1, f_4, rfl, rfl⟩, rfl⟩
  refine jH rfl (jI [0, 0, 0, 0] Tryz.call160 rfl (N_num p x m hk (by omega) (by omega) u_3) rfl (fun _ _ => trivial)) ?_
  rintro _ _ ⟨_, ⟨x_7, m_8, n_9, e_5, k_6, f_10, rfl, rfl⟩, rfl⟩
  refine jA (jx rfl rfl) <| jA (jG (v := .bool (decide (n_9 = 1))) rfl) <| jE <| jB <| jM <| jU (.inl rfl) rfl (jN (v := .bool (decide (n_9 = 1))) rfl) (List.Sublist.refl _) ?_
  exact ⟨x_7, m_8, (decide (n_9 = 1)), (by simp only [MS.isPipe, e_1, e_5, SB]; (repeat (first | rw [if_pos (by omega)] | rw [if_neg (by omega)])); all_goals (first | rfl | simp only [SB, e_1, e_5])), (k_6.mono (by omega) (by omega)), rfl, rfl⟩

theorem N_state (p : Nat) (x : MA) (m : MS) {S T : Nat} (hk : m.ok S T) (hS : S ≤ 700000000) (hT : T ≤ 700000000) (id : Int) (hid : -9223372036854775808 ≤ id ∧ id ≤ 9223372036854775807) :
    Ct Tryz.prog 97 [.pointer (some ⟨p, 0, none⟩), .int .i64 id] (mb p x m :: mr x m) (fun _ => True) (fun v A' => ∃ x' m' r0, MS.state m id = (m', r0) ∧ m'.ok (S) (T + 1) ∧ (0 ≤ r0 ∧ r0 ≤ 999) ∧ v = .int .i64 r0 ∧ A' = mb p x' m' :: mr x' m') := by
  refine Ct.intro Tryz.func97 rfl Tryz.ntmps97 (lb rfl) fun w0 hpre => ?_
  refine jD <| jF <| jA (jG (v := iv 0) rfl) <| jE <| jB <| jD <| jF <| jA (jC (v := pv p) rfl) <| jA (jC (v := iv id) rfl) ?_
  refine jH rfl (jI [] Tryz.call161 rfl (N_procKey id [47, 115] (by omega) (show List.length ([47, 115] : Str) ≤ 2 by decide) (by omega)) rfl (fun _ _ => trivial)) ?_
  rintro _ _ ⟨_, ⟨u_3, e_1, f_4, rfl, rfl⟩, rfl⟩
  refine jH rfl (jI [0, 0, 0, 0] Tryz.call160 rfl (N_num p x m hk (by omega) (by omega) u_3) rfl (fun _ _ => trivial)) ?_
  rintro _ _ ⟨_, ⟨x_7, m_8, n_9, e_5, k_6, f_10, rfl, rfl⟩, rfl⟩
  refine jA (jG (v := iv n_9) rfl) <| jE <| jB <| jM <| jU (.inl rfl) rfl (jN (v := iv n_9) rfl) (List.Sublist.refl _) ?_
  exact ⟨x_7, m_8, n_9, (by simp only [MS.state, e_1, e_5, SB]; (repeat (first | rw [if_pos (by omega)] | rw [if_neg (by omega)])); all_goals (first | rfl | simp only [SB, e_1, e_5])), (k_6.mono (by omega) (by omega)), (by first | omega | (simp only [LE]; omega)), rfl, rfl⟩

theorem N_spawn (p : Nat) (x : MA) (m : MS) {S T : Nat} (hk : m.ok S T) (hS : S ≤ 300000000) (hT : T ≤ 300000000) (parent : Int) (hparent : -9223372036854775808 ≤ parent ∧ parent ≤ 9223372036854775807) :
    Ct Tryz.prog 108 [.pointer (some ⟨p, 0, none⟩), .int .i64 parent] (mb p x m :: mr x m) (fun _ => True) (fun v A' => ∃ x' m' r0 r1, MS.spawn m parent = (m', r0, r1) ∧ m'.ok (S + 3) (T + 4) ∧ (0 ≤ r0 ∧ r0 ≤ 999) ∧ (0 ≤ r1 ∧ r1 ≤ 9) ∧ v = .tuple #[.int .i64 r0, .int .i64 r1] ∧ A' = mb p x' m' :: mr x' m') := by
  refine Ct.intro Tryz.func108 rfl Tryz.ntmps108 (lb rfl) fun w0 hpre => ?_
  refine jD <| jF <| jA (jG (v := iv 0) rfl) <| jA (jG (v := iv 0) rfl) <| jE <| jB <| jD <| jD <| jF <| jA (jC (v := pv p) rfl) ?_
  refine jH rfl (jI [0, 0, 0, 0] Tryz.call160 rfl (N_num p x m hk (by omega) (by omega) [99, 47, 112, 114, 111, 99]) rfl (fun _ _ => trivial)) ?_
  rintro _ _ ⟨_, ⟨x_3, m_4, n_5, e_1, k_2, f_6, rfl, rfl⟩, rfl⟩
  refine jA (kT rfl rfl) <| jE <| jB ?_
  by_cases h_7 : 12 ≤ n_5
  · refine jQ (cB (dT h_7)) <| jD <| jF <| jA (jG (v := iv 0) rfl) <| jA (jG (v := iv 3) rfl) <| jE <| jB <| jM <| jb <| jn (.inl rfl) rfl (jN (v := iv 0) rfl) (jN (v := iv 3) rfl) (List.Sublist.refl _) ?_
    exact ⟨x_3, m_4, 0, 3, (by simp only [MS.spawn, e_1, h_7, SB]; (repeat (first | rw [if_pos (by omega)] | rw [if_neg (by omega)])); all_goals (first | rfl | simp only [SB, e_1, h_7])), (k_2.mono (by omega) (by omega)), (by first | omega | (simp only [LE]; omega)), (by first | omega | (simp only [LE]; omega)), rfl, rfl⟩
  refine jR (cB (dF h_7)) <| jW <| jB <| jD <| jF <| jA (jC (v := pv p) rfl) ?_
  refine jH rfl (jI [0, 0, 0, 0] Tryz.call164 rfl (N_bump p x_3 m_4 k_2 (by omega) (by omega) [99, 47, 112, 114, 111, 99] (by decide)) rfl (fun _ _ => trivial)) ?_
  rintro _ _ ⟨_, ⟨x_10, m_11, n_12, e_8, k_9, f_13, rfl, rfl⟩, rfl⟩
  refine jA (jG (v := iv n_12) rfl) <| jE <| jB <| jD <| jF <| jA (jC (v := pv p) rfl) <| jA (jC (v := iv n_12) rfl) ?_
  refine jH rfl (jI [] Tryz.call161 rfl (N_procKey n_12 [47, 115] (by omega) (show List.length ([47, 115] : Str) ≤ 2 by decide) (by omega)) rfl (fun _ _ => trivial)) ?_
  rintro _ _ ⟨_, ⟨u_16, e_14, f_17, rfl, rfl⟩, rfl⟩
  refine jH rfl (jI [0, 0, 0, 0] Tryz.call165 rfl (N_setNum p x_10 m_11 k_9 (by omega) (by omega) u_16 1 (by omega) (by omega)) rfl (fun _ _ => trivial)) ?_
  rintro _ _ ⟨_, ⟨x_20, m_21, e_18, k_19, rfl, rfl⟩, rfl⟩
  refine jE <| jB <| jD <| jF <| jA (jC (v := pv p) rfl) <| jA (jC (v := iv n_12) rfl) ?_
  refine jH rfl (jI [] Tryz.call161 rfl (N_procKey n_12 [47, 112] (by omega) (show List.length ([47, 112] : Str) ≤ 2 by decide) (by omega)) rfl (fun _ _ => trivial)) ?_
  rintro _ _ ⟨_, ⟨u_24, e_22, f_25, rfl, rfl⟩, rfl⟩
  refine jA (jC (v := iv parent) rfl) ?_
  refine jH rfl (jI [0, 0, 0, 0] Tryz.call165 rfl (N_setNum p x_20 m_21 k_19 (by omega) (by omega) u_24 parent (by omega) (by omega)) rfl (fun _ _ => trivial)) ?_
  rintro _ _ ⟨_, ⟨x_28, m_29, e_26, k_27, rfl, rfl⟩, rfl⟩
  refine jE <| jB <| jD <| jF <| jA (jC (v := iv n_12) rfl) <| jA (jG (v := iv n_12) rfl) <| jA (jG (v := iv 0) rfl) <| jE <| jB <| jM ?_
  refine jn (.inl rfl) rfl (jN (v := iv n_12) rfl) (jN (v := iv 0) rfl) (List.Sublist.refl _) ?_
  exact ⟨x_28, m_29, n_12, 0, (by simp only [MS.spawn, e_1, h_7, e_8, e_14, e_18, e_22, e_26, SB]; (repeat (first | rw [if_pos (by omega)] | rw [if_neg (by omega)])); all_goals (first | rfl | simp only [SB, e_1, h_7, e_8, e_14, e_18, e_22, e_26])), (k_27.mono (by omega) (by omega)), (by first | omega | (simp only [LE]; omega)), (by first | omega | (simp only [LE]; omega)), rfl, rfl⟩

theorem M_spawn (x : MA) (m : MS) {S T : Nat} (hk : m.ok S T) (hS : S ≤ 300000000) (hT : T ≤ 300000000) (parent : Int) (hparent : -9223372036854775808 ≤ parent ∧ parent ≤ 9223372036854775807) :
    Ct Tryz.prog 33 [mv x m, .int .i64 parent] (mr x m) (fun _ => True) (fun v A' => ∃ x' m' r0 r1, MS.spawn m parent = (m', r0, r1) ∧ m'.ok (S + 3) (T + 4) ∧ (0 ≤ r0 ∧ r0 ≤ 999) ∧ (0 ≤ r1 ∧ r1 ≤ 9) ∧ v = .tuple #[mv x' m', .int .i64 r0, .int .i64 r1] ∧ A' = mr x' m') := by
  refine Ct.intro Tryz.func33 rfl Tryz.ntmps33 (lb rfl) fun w0 hpre => ?_
  refine jD <| jF ?_
  refine jH rfl (jv (cs := (mc x m)) rfl rfl) ?_
  rintro _ _ ⟨b_1, rfl, rfl⟩
  refine jH rfl (jh (z := zM) (cs := zC) kj rfl) ?_
  rintro _ _ ⟨b_2, rfl, rfl⟩
  refine jA (jG (v := iv 0) rfl) <| jA (jG (v := iv 0) rfl) <| jE <| jB <| jD <| jF <| jT (jV 1 x m rfl rfl) ?_
  refine jH rfl (jI [2, 2, 2] Tryz.call67 rfl (N_sNumAt x m hk (by omega) (by omega) [99, 47, 112, 114, 111, 99]) rfl (fun _ _ => trivial)) ?_
  rintro _ _ ⟨_, ⟨x_5, m_6, n_7, e_3, k_4, f_8, rfl, rfl⟩, rfl⟩
  refine jA (jC (v := .tuple #[mv x_5 m_6, iv n_7]) rfl) <| jA (jS (v := mv x_5 m_6) rfl rfl) <| jA (jS (v := iv n_7) rfl rfl) ?_
  refine jH rfl (jc 4 x_5 m_6 rfl rfl rfl rfl) ?_
  rintro _ _ rfl
  refine jA (jG (v := iv n_7) rfl) <| jE <| jB <| jD <| jD <| jF <| jA (jC (v := iv n_7) rfl) <| jA (kT rfl rfl) <| jE <| jB ?_
  by_cases h_9 : 12 ≤ n_7
  · refine jQ (cB (dT h_9)) <| jD <| jF <| jT (jV 4 x_5 m_6 rfl rfl) ?_
    refine jH rfl (jc 3 x_5 m_6 rfl rfl rfl rfl) ?_
    rintro _ _ rfl
    refine jA (jG (v := iv 0) rfl) <| jA (jG (v := iv 3) rfl) <| jE <| jB <| jM <| jb <| kZ (.inl rfl) rfl (jg (jV 3 x_5 m_6 rfl rfl) ⟨_, rfl⟩) (jN (v := iv 0) rfl) (jN (v := iv 3) rfl) (tS 3 _) ?_
    exact ⟨x_5, m_6, 0, 3, (by simp only [MS.spawn, e_3, h_9, SB]; (repeat (first | rw [if_pos (by omega)] | rw [if_neg (by omega)])); all_goals (first | rfl | simp only [SB, e_3, h_9])), (k_4.mono (by omega) (by omega)), (by first | omega | (simp only [LE]; omega)), (by first | omega | (simp only [LE]; omega)), rfl, rfl⟩
  refine jR (cB (dF h_9)) <| jW <| jB <| jD <| jF <| jT (jV 4 x_5 m_6 rfl rfl) ?_
  refine jH rfl (jI [0, 0, 0] Tryz.call68 rfl (N_sBump x_5 m_6 k_4 (by omega) (by omega) [99, 47, 112, 114, 111, 99] (by decide)) rfl (fun _ _ => trivial)) ?_
  rintro _ _ ⟨_, ⟨x_12, m_13, n_14, e_10, k_11, f_15, rfl, rfl⟩, rfl⟩
  refine jA (jC (v := .tuple #[mv x_12 m_13, iv n_14]) rfl) <| jA (jS (v := mv x_12 m_13) rfl rfl) <| jA (jS (v := iv n_14) rfl rfl) ?_
  refine jH rfl (jc 4 x_12 m_13 rfl rfl rfl rfl) ?_
  rintro _ _ rfl
  refine jA (jG (v := iv n_14) rfl) <| jE <| jB <| jD <| jq [mb b_1 x_12 m_13] 3 mixed (by simp) <| jj 0 rfl (jV 0 x_12 m_13 rfl rfl) <| jJ 1 rfl (jC (v := iv n_14) rfl) <| jK (i := 2) ?_
  refine jP rfl rfl (jI [] Tryz.call70 rfl (N_l09Key n_14 [47, 115] (by omega) (show List.length ([47, 115] : Str) ≤ 2 by decide) (by omega)) rfl (fun _ _ => trivial)) ?_
  rintro _ _ ⟨_, ⟨u_22, e_20, f_23, rfl, rfl⟩, rfl⟩
  refine ⟨(by simp), ?_⟩
  refine jK (i := 3) ?_
  refine jp rfl (jI [0, 0, 0] Tryz.call69 rfl (N_sSetNum x_12 m_13 k_11 (by omega) (by omega) u_22 1 (by omega) (by omega)) rfl (fun _ _ => trivial)) ?_
  rintro _ _ ⟨_, ⟨x_30, m_31, e_28, k_29, rfl, rfl⟩, rfl⟩
  refine jK (i := 4) ?_
  refine jo rfl (jc 4 x_30 m_31 rfl rfl rfl rfl) ?_
  rintro _ _ rfl
  refine jB <| jD <| jq [mb b_1 x_30 m_31] 6 mixed (by simp) <| jj 0 rfl (jV 0 x_30 m_31 rfl rfl) <| jJ 1 rfl (jC (v := iv n_14) rfl) <| jJ 3 rfl (jC (v := iv parent) rfl) <| jJ 5 rfl (jC (v := iv n_14) rfl) <| jK (i := 2) ?_
  refine jP rfl rfl (jI [] Tryz.call70 rfl (N_l09Key n_14 [47, 112] (by omega) (show List.length ([47, 112] : Str) ≤ 2 by decide) (by omega)) rfl (fun _ _ => trivial)) ?_
  rintro _ _ ⟨_, ⟨u_46, e_44, f_47, rfl, rfl⟩, rfl⟩
  refine ⟨(by simp), ?_⟩
  refine jK (i := 4) ?_
  refine jP rfl rfl (jI [0, 0, 0] Tryz.call69 rfl (N_sSetNum x_30 m_31 k_29 (by omega) (by omega) u_46 parent (by omega) (by omega)) rfl (fun _ _ => trivial)) ?_
  rintro _ _ ⟨_, ⟨x_54, m_55, e_52, k_53, rfl, rfl⟩, rfl⟩
  refine ⟨(by simp), ?_⟩
  refine jK (i := 6) ?_
  refine jp rfl (jc 3 x_54 m_55 rfl rfl rfl rfl) ?_
  rintro _ _ rfl
  refine jJ 7 rfl (jG (v := iv n_14) rfl) <| jJ 8 rfl (jG (v := iv 0) rfl) <| kI (by kernel_rfl) <| jB <| jM <| kZ (.inl rfl) rfl (jg (jV 3 x_54 m_55 rfl rfl) ⟨_, rfl⟩) (jN (v := iv n_14) rfl) (jN (v := iv 0) rfl) (tS 3 _) ?_
  exact ⟨x_54, m_55, n_14, 0, (by simp only [MS.spawn, e_3, h_9, e_10, e_20, e_28, e_44, e_52, SB]; (repeat (first | rw [if_pos (by omega)] | rw [if_neg (by omega)])); all_goals (first | rfl | simp only [SB, e_3, h_9, e_10, e_20, e_28, e_44, e_52])), (k_53.mono (by omega) (by omega)), (by first | omega | (simp only [LE]; omega)), (by first | omega | (simp only [LE]; omega)), rfl, rfl⟩

theorem N_end (p : Nat) (x : MA) (m : MS) {S T : Nat} (hk : m.ok S T) (hS : S ≤ 300000000) (hT : T ≤ 300000000) (id : Int) (n : Int) (hid : -9223372036854775808 ≤ id ∧ id ≤ 9223372036854775807) (hn : -9223372036854775808 ≤ n ∧ n ≤ 9223372036854775807) :
    Ct Tryz.prog 110 [.pointer (some ⟨p, 0, none⟩), .int .i64 id, .int .i64 n] (mb p x m :: mr x m) (fun _ => True) (fun v A' => ∃ x' m' r0, MS.endProc m id n = (m', r0) ∧ m'.ok (S + 2) (T + 3) ∧ (0 ≤ r0 ∧ r0 ≤ 9) ∧ v = .int .i64 r0 ∧ A' = mb p x' m' :: mr x' m') := by
  refine Ct.intro Tryz.func110 rfl Tryz.ntmps110 (lb rfl) fun w0 hpre => ?_
  refine jD <| jF <| jA (jG (v := iv 0) rfl) <| jE <| jB <| jD <| jl <| jD <| jF <| jA (jC (v := pv p) rfl) ?_
  refine jA (jC (v := iv id) rfl) ?_
  refine jH rfl (jI [0, 0, 0, 0] Tryz.call97 rfl (N_state p x m hk (by omega) (by omega) id (by omega)) rfl (fun _ _ => trivial)) ?_
  rintro _ _ ⟨_, ⟨x_3, m_4, n_5, e_1, k_2, f_6, rfl, rfl⟩, rfl⟩
  refine jA (kO rfl rfl) <| jA (jG (v := .bool (!(decide (n_5 = 1)))) rfl) <| jE <| jB ?_
  by_cases h_7 : n_5 = 1
  · refine jR (cB (cN (dT h_7))) <| jD <| jF <| jA (jC (v := iv n) rfl) ?_
    refine jH rfl (jI [] Tryz.call35 rfl (C_within n 0 100) rfl (fun _ _ => trivial)) ?_
    rintro _ _ ⟨_, ⟨rfl, rfl⟩, rfl⟩
    refine jA (kF rfl) <| jA (jG (v := .bool (!(decide (0 ≤ n) && decide (n ≤ 100)))) rfl) <| jE <| jB ?_
    rcases Bool.eq_false_or_eq_true (decide (0 ≤ n) && decide (n ≤ 100)) with h_8 | h_8
    · have h_8d := h_8
      simp only [Bool.and_eq_true, Bool.and_eq_false_iff, decide_eq_true_eq, decide_eq_false_iff_not] at h_8d
      refine jR (cB (cN h_8)) <| jW <| jk <| jB <| jD <| jF <| jA (jC (v := pv p) rfl) <| jA (jC (v := iv id) rfl) ?_
      refine jH rfl (jI [] Tryz.call161 rfl (N_procKey id [47, 115] (by omega) (show List.length ([47, 115] : Str) ≤ 2 by decide) (by omega)) rfl (fun _ _ => trivial)) ?_
      rintro _ _ ⟨_, ⟨u_11, e_9, f_12, rfl, rfl⟩, rfl⟩
      refine jH rfl (jI [0, 0, 0, 0] Tryz.call165 rfl (N_setNum p x_3 m_4 k_2 (by omega) (by omega) u_11 2 (by omega) (by omega)) rfl (fun _ _ => trivial)) ?_
      rintro _ _ ⟨_, ⟨x_15, m_16, e_13, k_14, rfl, rfl⟩, rfl⟩
      refine jE <| jB <| jD <| jF <| jA (jC (v := pv p) rfl) <| jA (jC (v := iv id) rfl) ?_
      refine jH rfl (jI [] Tryz.call161 rfl (N_procKey id [47, 120] (by omega) (show List.length ([47, 120] : Str) ≤ 2 by decide) (by omega)) rfl (fun _ _ => trivial)) ?_
      rintro _ _ ⟨_, ⟨u_19, e_17, f_20, rfl, rfl⟩, rfl⟩
      refine jA (jC (v := iv n) rfl) <| jA (ji (c := n + 1) rfl rfl (wr (by omega))) ?_
      refine jH rfl (jI [0, 0, 0, 0] Tryz.call165 rfl (N_setNum p x_15 m_16 k_14 (by omega) (by omega) u_19 (n + 1) (by omega) (by omega)) rfl (fun _ _ => trivial)) ?_
      rintro _ _ ⟨_, ⟨x_23, m_24, e_21, k_22, rfl, rfl⟩, rfl⟩
      refine jE <| jB <| jD <| jF <| jA (jG (v := iv 0) rfl) <| jE <| jB <| jM <| jU (.inl rfl) rfl (jN (v := iv 0) rfl) (List.Sublist.refl _) ?_
      exact ⟨x_23, m_24, 0, (by simp only [MS.endProc, e_1, h_7, h_8, e_9, e_13, e_17, e_21, SB]; (repeat (first | rw [if_pos (by omega)] | rw [if_neg (by omega)])); all_goals (first | rfl | simp only [SB, e_1, h_7, h_8, e_9, e_13, e_17, e_21])), (k_22.mono (by omega) (by omega)), (by first | omega | (simp only [LE]; omega)), rfl, rfl⟩
    have h_8d := h_8
    simp only [Bool.and_eq_true, Bool.and_eq_false_iff, decide_eq_true_eq, decide_eq_false_iff_not] at h_8d
    refine jQ (cB (cN h_8)) <| jD <| jF <| jA (jG (v := iv 4) rfl) <| jE <| jB <| jM <| kA <| jb <| jU (.inl rfl) rfl (jN (v := iv 4) rfl) (List.Sublist.refl _) ?_
    exact ⟨x_3, m_4, 4, (by simp only [MS.endProc, e_1, h_7, h_8, SB]; (repeat (first | rw [if_pos (by omega)] | rw [if_neg (by omega)])); all_goals (first | rfl | simp only [SB, e_1, h_7, h_8])), (k_2.mono (by omega) (by omega)), (by first | omega | (simp only [LE]; omega)), rfl, rfl⟩
  refine jQ (cB (cN (dF h_7))) <| jD <| jF <| jA (jG (v := iv 2) rfl) <| jE <| jB <| jM <| kA <| jb <| jU (.inl rfl) rfl (jN (v := iv 2) rfl) (List.Sublist.refl _) ?_
  exact ⟨x_3, m_4, 2, (by simp only [MS.endProc, e_1, h_7, SB]; (repeat (first | rw [if_pos (by omega)] | rw [if_neg (by omega)])); all_goals (first | rfl | simp only [SB, e_1, h_7])), (k_2.mono (by omega) (by omega)), (by first | omega | (simp only [LE]; omega)), rfl, rfl⟩

theorem N_reap (p : Nat) (x : MA) (m : MS) {S T : Nat} (hk : m.ok S T) (hS : S ≤ 300000000) (hT : T ≤ 300000000) (parent : Int) (id : Int) (hparent : -9223372036854775808 ≤ parent ∧ parent ≤ 9223372036854775807) (hid : -9223372036854775808 ≤ id ∧ id ≤ 9223372036854775807) :
    Ct Tryz.prog 112 [.pointer (some ⟨p, 0, none⟩), .int .i64 parent, .int .i64 id] (mb p x m :: mr x m) (fun _ => True) (fun v A' => ∃ x' m' r0 r1, MS.reap m parent id = (m', r0, r1) ∧ m'.ok (S) (T + S + 5) ∧ (-1 ≤ r0 ∧ r0 ≤ 999) ∧ (0 ≤ r1 ∧ r1 ≤ 9) ∧ v = .tuple #[.int .i64 r0, .int .i64 r1] ∧ A' = mb p x' m' :: mr x' m') := by
  refine Ct.intro Tryz.func112 rfl Tryz.ntmps112 (lb rfl) fun w0 hpre => ?_
  refine jD <| jF <| jA (jG (v := iv 0) rfl) <| jA (jG (v := iv 0) rfl) <| jE <| jB <| jD <| jF <| jA (jC (v := pv p) rfl) <| jA (jC (v := iv id) rfl) ?_
  refine jH rfl (jI [] Tryz.call161 rfl (N_procKey id [47, 112] (by omega) (show List.length ([47, 112] : Str) ≤ 2 by decide) (by omega)) rfl (fun _ _ => trivial)) ?_
  rintro _ _ ⟨_, ⟨u_3, e_1, f_4, rfl, rfl⟩, rfl⟩
  refine jH rfl (jI [0, 0, 0, 0] Tryz.call160 rfl (N_num p x m hk (by omega) (by omega) u_3) rfl (fun _ _ => trivial)) ?_
  rintro _ _ ⟨_, ⟨x_7, m_8, n_9, e_5, k_6, f_10, rfl, rfl⟩, rfl⟩
  refine jA (jG (v := iv n_9) rfl) <| jE <| jB <| jD <| jD <| jF <| jA (jC (v := iv n_9) rfl) <| jA (jx rfl rfl) <| jA (jC (v := .bool (decide (n_9 = 0))) rfl) ?_
  by_cases h_11 : n_9 = 0
  · refine jO (b := true) rfl rfl rfl (cB (dT h_11)) <| jO (b := true) rfl rfl rfl (cB (dT h_11)) <| jO (b := true) rfl rfl rfl (cB (dT h_11)) <| jA (jw (v := .bool true) (cB (dT h_11)) rfl) <| jE <| jB <| jQ (cB rfl) <| jD <| jF <| jA (jG (v := iv 0) rfl) ?_
    refine jA (jG (v := iv 2) rfl) <| jE <| jB <| jM <| jb <| jn (.inl rfl) rfl (jN (v := iv 0) rfl) (jN (v := iv 2) rfl) (List.Sublist.refl _) ?_
    exact ⟨x_7, m_8, 0, 2, (by simp only [MS.reap, e_1, e_5, h_11, SB]; (repeat (first | rw [if_pos (by omega)] | rw [if_neg (by omega)])); all_goals (first | rfl | simp only [SB, e_1, e_5, h_11])), (k_6.mono (by omega) (by omega)), (by first | omega | (simp only [LE]; omega)), (by first | omega | (simp only [LE]; omega)), rfl, rfl⟩
  refine jX rfl rfl rfl (cB (dF h_11)) (jZ (jd (jC (v := iv n_9) rfl))) ?_
  rintro _ _ ⟨rfl, rfl⟩
  refine jX rfl rfl rfl (cB (dF h_11)) (jZ (jd (jC (v := iv parent) rfl))) ?_
  rintro _ _ ⟨rfl, rfl⟩
  refine jX rfl rfl rfl (cB (dF h_11)) (jZ (jd (kO rfl rfl))) ?_
  rintro _ _ ⟨rfl, rfl⟩
  refine jA (js (v := .bool (!(decide (n_9 = parent)))) (cB (dF h_11)) rfl) <| jE <| jB ?_
  by_cases h_12 : n_9 = parent
  · refine jR (cB (cN (dT h_12))) <| jW <| jB <| jD <| jD <| jF <| jA (jC (v := pv p) rfl) <| jA (jC (v := iv id) rfl) ?_
    refine jH rfl (jI [0, 0, 0, 0] Tryz.call97 rfl (N_state p x_7 m_8 k_6 (by omega) (by omega) id (by omega)) rfl (fun _ _ => trivial)) ?_
    rintro _ _ ⟨_, ⟨x_15, m_16, n_17, e_13, k_14, f_18, rfl, rfl⟩, rfl⟩
    refine jE <| jB <| jl <| jD <| jF <| jA (jx rfl rfl) <| jA (jG (v := .bool (decide (n_17 = 1))) rfl) <| jE <| jB ?_
    by_cases h_19 : n_17 = 1
    · refine jQ (cB (dT h_19)) <| jD <| jF <| jA (jG (v := iv 0) rfl) <| jA (jG (v := iv 5) rfl) <| jE <| jB <| jM <| kA <| jb ?_
      refine jn (.inl rfl) rfl (jN (v := iv 0) rfl) (jN (v := iv 5) rfl) (List.Sublist.refl _) ?_
      exact ⟨x_15, m_16, 0, 5, (by simp only [MS.reap, e_1, e_5, h_11, h_12, e_13, h_19, SB]; (repeat (first | rw [if_pos (by omega)] | rw [if_neg (by omega)])); all_goals (first | rfl | simp only [SB, e_1, e_5, h_11, h_12, e_13, h_19])), (k_14.mono (by omega) (by omega)), (by first | omega | (simp only [LE]; omega)), (by first | omega | (simp only [LE]; omega)), rfl, rfl⟩
    refine jR (cB (dF h_19)) <| jD <| jF <| jA (jx rfl rfl) <| jA (jG (v := .bool (decide (n_17 = 2))) rfl) <| jE <| jB ?_
    by_cases h_20 : n_17 = 2
    · refine jQ (cB (dT h_20)) <| jD <| jF <| jA (jC (v := pv p) rfl) <| jA (jC (v := iv id) rfl) ?_
      refine jH rfl (jI [] Tryz.call161 rfl (N_procKey id [47, 120] (by omega) (show List.length ([47, 120] : Str) ≤ 2 by decide) (by omega)) rfl (fun _ _ => trivial)) ?_
      rintro _ _ ⟨_, ⟨u_23, e_21, f_24, rfl, rfl⟩, rfl⟩
      refine jH rfl (jI [0, 0, 0, 0] Tryz.call160 rfl (N_num p x_15 m_16 k_14 (by omega) (by omega) u_23) rfl (fun _ _ => trivial)) ?_
      rintro _ _ ⟨_, ⟨x_27, m_28, n_29, e_25, k_26, f_30, rfl, rfl⟩, rfl⟩
      refine jA (kQ (c := n_29 - 1) rfl rfl (wr (by omega))) <| jA (jG (v := iv (n_29 - 1)) rfl) <| jE <| jB <| jD <| jF <| jA (jC (v := pv p) rfl) <| jA (jC (v := iv id) rfl) ?_
      refine jH rfl (jI [] Tryz.call161 rfl (N_procKey id [47] (by omega) (show List.length ([47] : Str) ≤ 1 by decide) (by omega)) rfl (fun _ _ => trivial)) ?_
      rintro _ _ ⟨_, ⟨u_33, e_31, f_34, rfl, rfl⟩, rfl⟩
      refine jH rfl (jI [0, 0, 0, 0] Tryz.call169 rfl (N_wipe p x_27 m_28 k_26 (by omega) (by omega) u_33 (by omega)) rfl (fun _ _ => trivial)) ?_
      rintro _ _ ⟨_, ⟨x_37, m_38, e_35, k_36, rfl, rfl⟩, rfl⟩
      refine jE <| jB <| jD <| jF <| jA (jC (v := iv (n_29 - 1)) rfl) <| jA (jG (v := iv (n_29 - 1)) rfl) <| jA (jG (v := iv 0) rfl) <| jE <| jB <| jM ?_
      refine kA <| jb <| jn (.inl rfl) rfl (jN (v := iv (n_29 - 1)) rfl) (jN (v := iv 0) rfl) (List.Sublist.refl _) ?_
      exact ⟨x_37, m_38, (n_29 - 1), 0, (by simp only [MS.reap, e_1, e_5, h_11, h_12, e_13, h_19, h_20, e_21, e_25, e_31, e_35, SB]; (repeat (first | rw [if_pos (by omega)] | rw [if_neg (by omega)])); all_goals (first | rfl | simp only [SB, e_1, e_5, h_11, h_12, e_13, h_19, h_20, e_21, e_25, e_31, e_35])), (k_36.mono (by omega) (by omega)), (by first | omega | (simp only [LE]; omega)), (by first | omega | (simp only [LE]; omega)), rfl, rfl⟩
    refine jR (cB (dF h_20)) <| jW <| jk <| jB <| jD <| jF <| jA (jG (v := iv 0) rfl) <| jA (jG (v := iv 2) rfl) <| jE <| jB ?_
    refine jM <| jn (.inl rfl) rfl (jN (v := iv 0) rfl) (jN (v := iv 2) rfl) (List.Sublist.refl _) ?_
    exact ⟨x_15, m_16, 0, 2, (by simp only [MS.reap, e_1, e_5, h_11, h_12, e_13, h_19, h_20, SB]; (repeat (first | rw [if_pos (by omega)] | rw [if_neg (by omega)])); all_goals (first | rfl | simp only [SB, e_1, e_5, h_11, h_12, e_13, h_19, h_20])), (k_14.mono (by omega) (by omega)), (by first | omega | (simp only [LE]; omega)), (by first | omega | (simp only [LE]; omega)), rfl, rfl⟩
  refine jQ (cB (cN (dF h_12))) <| jD <| jF <| jA (jG (v := iv 0) rfl) <| jA (jG (v := iv 2) rfl) <| jE <| jB <| jM <| jb <| jn (.inl rfl) rfl (jN (v := iv 0) rfl) (jN (v := iv 2) rfl) (List.Sublist.refl _) ?_
  exact ⟨x_7, m_8, 0, 2, (by simp only [MS.reap, e_1, e_5, h_11, h_12, SB]; (repeat (first | rw [if_pos (by omega)] | rw [if_neg (by omega)])); all_goals (first | rfl | simp only [SB, e_1, e_5, h_11, h_12])), (k_6.mono (by omega) (by omega)), (by first | omega | (simp only [LE]; omega)), (by first | omega | (simp only [LE]; omega)), rfl, rfl⟩

theorem N_takeSignal (p : Nat) (x : MA) (m : MS) {S T : Nat} (hk : m.ok S T) (hS : S ≤ 300000000) (hT : T ≤ 300000000) (id : Int) (hid : -9223372036854775808 ≤ id ∧ id ≤ 9223372036854775807) :
    Ct Tryz.prog 116 [.pointer (some ⟨p, 0, none⟩), .int .i64 id] (mb p x m :: mr x m) (fun _ => True) (fun v A' => ∃ x' m' r0 r1, MS.takeSignal m id = (m', r0, r1) ∧ m'.ok (S + 1) (T + 5) ∧ (0 ≤ r0 ∧ r0 ≤ 999) ∧ (0 ≤ r1 ∧ r1 ≤ 9) ∧ v = .tuple #[.int .i64 r0, .int .i64 r1] ∧ A' = mb p x' m' :: mr x' m') := by
  refine Ct.intro Tryz.func116 rfl Tryz.ntmps116 (lb rfl) fun w0 hpre => ?_
  refine jD <| jF <| jA (jG (v := iv 0) rfl) <| jA (jG (v := iv 0) rfl) <| jE <| jB <| jD <| jF <| jA (jC (v := pv p) rfl) <| jA (jC (v := iv id) rfl) ?_
  refine jH rfl (jI [] Tryz.call184 rfl (N_signalKey id [47, 104] (by omega) (show List.length ([47, 104] : Str) ≤ 2 by decide) (by omega)) rfl (fun _ _ => trivial)) ?_
  rintro _ _ ⟨_, ⟨u_3, e_1, f_4, rfl, rfl⟩, rfl⟩
  refine jH rfl (jI [0, 0, 0, 0] Tryz.call160 rfl (N_num p x m hk (by omega) (by omega) u_3) rfl (fun _ _ => trivial)) ?_
  rintro _ _ ⟨_, ⟨x_7, m_8, n_9, e_5, k_6, f_10, rfl, rfl⟩, rfl⟩
  refine jA (jG (v := iv n_9) rfl) <| jE <| jB <| jD <| jD <| jF <| jA (jC (v := pv p) rfl) <| jA (jC (v := iv id) rfl) ?_
  refine jH rfl (jI [] Tryz.call184 rfl (N_signalKey id [47, 116] (by omega) (show List.length ([47, 116] : Str) ≤ 2 by decide) (by omega)) rfl (fun _ _ => trivial)) ?_
  rintro _ _ ⟨_, ⟨u_13, e_11, f_14, rfl, rfl⟩, rfl⟩
  refine jH rfl (jI [0, 0, 0, 0] Tryz.call160 rfl (N_num p x_7 m_8 k_6 (by omega) (by omega) u_13) rfl (fun _ _ => trivial)) ?_
  rintro _ _ ⟨_, ⟨x_17, m_18, n_19, e_15, k_16, f_20, rfl, rfl⟩, rfl⟩
  refine jA (jC (v := iv n_9) rfl) <| jA (jx rfl rfl) <| jE <| jB ?_
  by_cases h_21 : n_19 = n_9
  · refine jQ (cB (dT h_21)) <| jD <| jF <| jA (jG (v := iv 0) rfl) <| jA (jG (v := iv 5) rfl) <| jE <| jB <| jM <| jb <| jn (.inl rfl) rfl (jN (v := iv 0) rfl) (jN (v := iv 5) rfl) (List.Sublist.refl _) ?_
    exact ⟨x_17, m_18, 0, 5, (by simp only [MS.takeSignal, e_1, e_5, e_11, e_15, h_21, SB]; (repeat (first | rw [if_pos (by omega)] | rw [if_neg (by omega)])); all_goals (first | rfl | simp only [SB, e_1, e_5, e_11, e_15, h_21])), (k_16.mono (by omega) (by omega)), (by first | omega | (simp only [LE]; omega)), (by first | omega | (simp only [LE]; omega)), rfl, rfl⟩
  refine jR (cB (dF h_21)) <| jW <| jB <| jD <| jF <| jA (jC (v := iv id) rfl) ?_
  refine jH rfl (jI [] Tryz.call184 rfl (N_signalKey id [47, 113, 47] (by omega) (show List.length ([47, 113, 47] : Str) ≤ 3 by decide) (by omega)) rfl (fun _ _ => trivial)) ?_
  rintro _ _ ⟨_, ⟨u_24, e_22, f_25, rfl, rfl⟩, rfl⟩
  refine jA (jC (v := iv n_9) rfl) <| jA (ji (c := n_9 + 1) rfl rfl (wr (by omega))) ?_
  refine jH rfl (jI [] Tryz.call170 rfl (N_keyNum u_24 (n_9 + 1) [] (Nat.le_refl _) (by omega) (show List.length ([] : Str) ≤ 0 by decide) (by omega)) rfl (fun _ _ => trivial)) ?_
  rintro _ _ ⟨_, ⟨u_28, e_26, f_29, rfl, rfl⟩, rfl⟩
  refine jA (jG (v := str u_28) rfl) <| jE <| jB <| jD <| jF <| jA (jC (v := pv p) rfl) <| jA (jC (v := str u_28) rfl) ?_
  refine jH rfl (jI [0, 0, 0, 0] Tryz.call160 rfl (N_num p x_17 m_18 k_16 (by omega) (by omega) u_28) rfl (fun _ _ => trivial)) ?_
  rintro _ _ ⟨_, ⟨x_32, m_33, n_34, e_30, k_31, f_35, rfl, rfl⟩, rfl⟩
  refine jA (jG (v := iv n_34) rfl) <| jE <| jB <| jD <| jF <| jA (jC (v := pv p) rfl) <| jA (jC (v := str u_28) rfl) ?_
  refine jH rfl (jI [0, 0, 0, 0] Tryz.call168 rfl (N_layNil p x_32 m_33 k_31 (by omega) (by omega) u_28 (by omega)) rfl (fun _ _ => trivial)) ?_
  rintro _ _ ⟨_, ⟨x_38, m_39, e_36, k_37, rfl, rfl⟩, rfl⟩
  refine jE <| jB <| jD <| jF <| jA (jC (v := pv p) rfl) <| jA (jC (v := iv id) rfl) ?_
  refine jH rfl (jI [] Tryz.call184 rfl (N_signalKey id [47, 104] (by omega) (show List.length ([47, 104] : Str) ≤ 2 by decide) (by omega)) rfl (fun _ _ => trivial)) ?_
  rintro _ _ ⟨_, ⟨u_42, e_40, f_43, rfl, rfl⟩, rfl⟩
  have hqe_40 := e_1.symm.trans e_40
  subst hqe_40
  refine jA (jC (v := iv n_9) rfl) <| jA (ji (c := n_9 + 1) rfl rfl (wr (by omega))) ?_
  refine jH rfl (jI [0, 0, 0, 0] Tryz.call165 rfl (N_setNum p x_38 m_39 k_37 (by omega) (by omega) u_3 (n_9 + 1) (by omega) (by omega)) rfl (fun _ _ => trivial)) ?_
  rintro _ _ ⟨_, ⟨x_46, m_47, e_44, k_45, rfl, rfl⟩, rfl⟩
  refine jE <| jB <| jD <| jF <| jA (jC (v := iv n_34) rfl) <| jA (jG (v := iv n_34) rfl) <| jA (jG (v := iv 0) rfl) <| jE <| jB <| jM ?_
  refine jn (.inl rfl) rfl (jN (v := iv n_34) rfl) (jN (v := iv 0) rfl) (List.Sublist.refl _) ?_
  exact ⟨x_46, m_47, n_34, 0, (by simp only [MS.takeSignal, e_1, e_5, e_11, e_15, h_21, e_22, e_26, e_30, e_36, e_44, SB]; (repeat (first | rw [if_pos (by omega)] | rw [if_neg (by omega)])); all_goals (first | rfl | simp only [SB, e_1, e_5, e_11, e_15, h_21, e_22, e_26, e_30, e_36, e_44])), (k_45.mono (by omega) (by omega)), (by first | omega | (simp only [LE]; omega)), (by first | omega | (simp only [LE]; omega)), rfl, rfl⟩

theorem N_send (p : Nat) (x : MA) (m : MS) {S T : Nat} (hk : m.ok S T) (hS : S ≤ 300000000) (hT : T ≤ 300000000) (to_ : Int) (n : Int) (hto_ : -9223372036854775808 ≤ to_ ∧ to_ ≤ 9223372036854775807) (hn : -9223372036854775808 ≤ n ∧ n ≤ 9223372036854775807) :
    Ct Tryz.prog 115 [.pointer (some ⟨p, 0, none⟩), .int .i64 to_, .int .i64 n] (mb p x m :: mr x m) (fun _ => True) (fun v A' => ∃ x' m' r0, MS.send m to_ n = (m', r0) ∧ m'.ok (S + 2) (T + 5) ∧ (0 ≤ r0 ∧ r0 ≤ 9) ∧ v = .int .i64 r0 ∧ A' = mb p x' m' :: mr x' m') := by
  refine Ct.intro Tryz.func115 rfl Tryz.ntmps115 (lb rfl) fun w0 hpre => ?_
  refine jD <| jF <| jA (jG (v := iv 0) rfl) <| jE <| jB <| jD <| jD <| jF <| jA (jC (v := pv p) rfl) <| jA (jC (v := iv to_) rfl) ?_
  refine jH rfl (jI [0, 0, 0, 0] Tryz.call97 rfl (N_state p x m hk (by omega) (by omega) to_ (by omega)) rfl (fun _ _ => trivial)) ?_
  rintro _ _ ⟨_, ⟨x_3, m_4, n_5, e_1, k_2, f_6, rfl, rfl⟩, rfl⟩
  refine jA (kO rfl rfl) <| jE <| jB ?_
  by_cases h_7 : n_5 = 1
  · refine jR (cB (cN (dT h_7))) <| jW <| jB <| jD <| jD <| jF <| jA (jC (v := iv n) rfl) ?_
    refine jH rfl (jI [] Tryz.call35 rfl (C_within n 1 31) rfl (fun _ _ => trivial)) ?_
    rintro _ _ ⟨_, ⟨rfl, rfl⟩, rfl⟩
    refine jA (kF rfl) <| jE <| jB ?_
    rcases Bool.eq_false_or_eq_true (decide (1 ≤ n) && decide (n ≤ 31)) with h_8 | h_8
    · have h_8d := h_8
      simp only [Bool.and_eq_true, Bool.and_eq_false_iff, decide_eq_true_eq, decide_eq_false_iff_not] at h_8d
      refine jR (cB (cN h_8)) <| jW <| jB <| jD <| jF <| jA (jC (v := pv p) rfl) <| jA (jC (v := iv to_) rfl) ?_
      refine jH rfl (jI [] Tryz.call184 rfl (N_signalKey to_ [47, 116] (by omega) (show List.length ([47, 116] : Str) ≤ 2 by decide) (by omega)) rfl (fun _ _ => trivial)) ?_
      rintro _ _ ⟨_, ⟨u_11, e_9, f_12, rfl, rfl⟩, rfl⟩
      refine jH rfl (jI [0, 0, 0, 0] Tryz.call160 rfl (N_num p x_3 m_4 k_2 (by omega) (by omega) u_11) rfl (fun _ _ => trivial)) ?_
      rintro _ _ ⟨_, ⟨x_15, m_16, n_17, e_13, k_14, f_18, rfl, rfl⟩, rfl⟩
      refine jA (jG (v := iv n_17) rfl) <| jE <| jB <| jD <| jF <| jA (jC (v := pv p) rfl) <| jA (jC (v := iv to_) rfl) ?_
      refine jH rfl (jI [] Tryz.call184 rfl (N_signalKey to_ [47, 104] (by omega) (show List.length ([47, 104] : Str) ≤ 2 by decide) (by omega)) rfl (fun _ _ => trivial)) ?_
      rintro _ _ ⟨_, ⟨u_21, e_19, f_22, rfl, rfl⟩, rfl⟩
      refine jH rfl (jI [0, 0, 0, 0] Tryz.call160 rfl (N_num p x_15 m_16 k_14 (by omega) (by omega) u_21) rfl (fun _ _ => trivial)) ?_
      rintro _ _ ⟨_, ⟨x_25, m_26, n_27, e_23, k_24, f_28, rfl, rfl⟩, rfl⟩
      refine jA (jG (v := iv n_27) rfl) <| jE <| jB <| jD <| jl <| jD <| jF <| jA (jC (v := iv n_17) rfl) <| jA (jC (v := iv n_27) rfl) <| jA (kQ (c := n_17 - n_27) rfl rfl (wr (by omega))) ?_
      refine jA (kT rfl rfl) <| jA (jG (v := .bool (decide (4 ≤ (n_17 - n_27)))) rfl) <| jE <| jB ?_
      by_cases h_29 : 4 ≤ (n_17 - n_27)
      · refine jQ (cB (dT h_29)) <| jD <| jF <| jA (jG (v := iv 5) rfl) <| jE <| jB <| jM <| kA <| jb <| jU (.inl rfl) rfl (jN (v := iv 5) rfl) (List.Sublist.refl _) ?_
        exact ⟨x_25, m_26, 5, (by simp only [MS.send, e_1, h_7, h_8, e_9, e_13, e_19, e_23, h_29, SB]; (repeat (first | rw [if_pos (by omega)] | rw [if_neg (by omega)])); all_goals (first | rfl | simp only [SB, e_1, h_7, h_8, e_9, e_13, e_19, e_23, h_29])), (k_24.mono (by omega) (by omega)), (by first | omega | (simp only [LE]; omega)), rfl, rfl⟩
      refine jR (cB (dF h_29)) <| jD <| jF <| jA (jC (v := iv n_17) rfl) <| jA (kT rfl rfl) <| jA (jG (v := .bool (decide (999 ≤ n_17))) rfl) <| jE <| jB ?_
      by_cases h_30 : 999 ≤ n_17
      · refine jQ (cB (dT h_30)) <| jD <| jF <| jA (jG (v := iv 3) rfl) <| jE <| jB <| jM <| kA <| jb <| jU (.inl rfl) rfl (jN (v := iv 3) rfl) (List.Sublist.refl _) ?_
        exact ⟨x_25, m_26, 3, (by simp only [MS.send, e_1, h_7, h_8, e_9, e_13, e_19, e_23, h_29, h_30, SB]; (repeat (first | rw [if_pos (by omega)] | rw [if_neg (by omega)])); all_goals (first | rfl | simp only [SB, e_1, h_7, h_8, e_9, e_13, e_19, e_23, h_29, h_30])), (k_24.mono (by omega) (by omega)), (by first | omega | (simp only [LE]; omega)), rfl, rfl⟩
      refine jR (cB (dF h_30)) <| jW <| jk <| jB <| jD <| jF <| jA (jC (v := pv p) rfl) <| jA (jC (v := iv to_) rfl) ?_
      refine jH rfl (jI [] Tryz.call184 rfl (N_signalKey to_ [47, 116] (by omega) (show List.length ([47, 116] : Str) ≤ 2 by decide) (by omega)) rfl (fun _ _ => trivial)) ?_
      rintro _ _ ⟨_, ⟨u_33, e_31, f_34, rfl, rfl⟩, rfl⟩
      have hqe_31 := e_9.symm.trans e_31
      subst hqe_31
      refine jA (jC (v := iv n_17) rfl) <| jA (ji (c := n_17 + 1) rfl rfl (wr (by omega))) ?_
      refine jH rfl (jI [0, 0, 0, 0] Tryz.call165 rfl (N_setNum p x_25 m_26 k_24 (by omega) (by omega) u_11 (n_17 + 1) (by omega) (by omega)) rfl (fun _ _ => trivial)) ?_
      rintro _ _ ⟨_, ⟨x_37, m_38, e_35, k_36, rfl, rfl⟩, rfl⟩
      refine jE <| jB <| jD <| jF <| jA (jC (v := pv p) rfl) <| jA (jC (v := iv to_) rfl) ?_
      refine jH rfl (jI [] Tryz.call184 rfl (N_signalKey to_ [47, 113, 47] (by omega) (show List.length ([47, 113, 47] : Str) ≤ 3 by decide) (by omega)) rfl (fun _ _ => trivial)) ?_
      rintro _ _ ⟨_, ⟨u_41, e_39, f_42, rfl, rfl⟩, rfl⟩
      refine jA (jC (v := iv n_17) rfl) <| jA (ji (c := n_17 + 1) rfl rfl (wr (by omega))) ?_
      refine jH rfl (jI [] Tryz.call170 rfl (N_keyNum u_41 (n_17 + 1) [] (Nat.le_refl _) (by omega) (show List.length ([] : Str) ≤ 0 by decide) (by omega)) rfl (fun _ _ => trivial)) ?_
      rintro _ _ ⟨_, ⟨u_45, e_43, f_46, rfl, rfl⟩, rfl⟩
      refine jA (jC (v := iv n) rfl) ?_
      refine jH rfl (jI [0, 0, 0, 0] Tryz.call165 rfl (N_setNum p x_37 m_38 k_36 (by omega) (by omega) u_45 n (by omega) (by omega)) rfl (fun _ _ => trivial)) ?_
      rintro _ _ ⟨_, ⟨x_49, m_50, e_47, k_48, rfl, rfl⟩, rfl⟩
      refine jE <| jB <| jD <| jF <| jA (jG (v := iv 0) rfl) <| jE <| jB <| jM <| jU (.inl rfl) rfl (jN (v := iv 0) rfl) (List.Sublist.refl _) ?_
      exact ⟨x_49, m_50, 0, (by simp only [MS.send, e_1, h_7, h_8, e_9, e_13, e_19, e_23, h_29, h_30, e_35, e_39, e_43, e_47, SB]; (repeat (first | rw [if_pos (by omega)] | rw [if_neg (by omega)])); all_goals (first | rfl | simp only [SB, e_1, h_7, h_8, e_9, e_13, e_19, e_23, h_29, h_30, e_35, e_39, e_43, e_47])), (k_48.mono (by omega) (by omega)), (by first | omega | (simp only [LE]; omega)), rfl, rfl⟩
    have h_8d := h_8
    simp only [Bool.and_eq_true, Bool.and_eq_false_iff, decide_eq_true_eq, decide_eq_false_iff_not] at h_8d
    refine jQ (cB (cN h_8)) <| jD <| jF <| jA (jG (v := iv 4) rfl) <| jE <| jB <| jM <| jb <| jU (.inl rfl) rfl (jN (v := iv 4) rfl) (List.Sublist.refl _) ?_
    exact ⟨x_3, m_4, 4, (by simp only [MS.send, e_1, h_7, h_8, SB]; (repeat (first | rw [if_pos (by omega)] | rw [if_neg (by omega)])); all_goals (first | rfl | simp only [SB, e_1, h_7, h_8])), (k_2.mono (by omega) (by omega)), (by first | omega | (simp only [LE]; omega)), rfl, rfl⟩
  refine jQ (cB (cN (dF h_7))) <| jD <| jF <| jA (jG (v := iv 2) rfl) <| jE <| jB <| jM <| jb <| jU (.inl rfl) rfl (jN (v := iv 2) rfl) (List.Sublist.refl _) ?_
  exact ⟨x_3, m_4, 2, (by simp only [MS.send, e_1, h_7, SB]; (repeat (first | rw [if_pos (by omega)] | rw [if_neg (by omega)])); all_goals (first | rfl | simp only [SB, e_1, h_7])), (k_2.mono (by omega) (by omega)), (by first | omega | (simp only [LE]; omega)), rfl, rfl⟩

theorem N_setTimer (p : Nat) (x : MA) (m : MS) {S T : Nat} (hk : m.ok S T) (hS : S ≤ 300000000) (hT : T ≤ 300000000) (id : Int) (at_ : Int) (hid : -9223372036854775808 ≤ id ∧ id ≤ 9223372036854775807) (hat_ : -9223372036854775808 ≤ at_ ∧ at_ ≤ 9223372036854775807) :
    Ct Tryz.prog 117 [.pointer (some ⟨p, 0, none⟩), .int .i64 id, .int .i64 at_] (mb p x m :: mr x m) (fun _ => True) (fun v A' => ∃ x' m' r0, MS.setTimer m id at_ = (m', r0) ∧ m'.ok (S + 1) (T + 1) ∧ (0 ≤ r0 ∧ r0 ≤ 9) ∧ v = .int .i64 r0 ∧ A' = mb p x' m' :: mr x' m') := by
  refine Ct.intro Tryz.func117 rfl Tryz.ntmps117 (lb rfl) fun w0 hpre => ?_
  refine jD <| jF <| jA (jG (v := iv 0) rfl) <| jE <| jB <| jD <| jD <| jF <| jA (jC (v := iv at_) rfl) ?_
  refine jH rfl (jI [] Tryz.call35 rfl (C_within at_ 0 999) rfl (fun _ _ => trivial)) ?_
  rintro _ _ ⟨_, ⟨rfl, rfl⟩, rfl⟩
  refine jA (kF rfl) <| jE <| jB ?_
  rcases Bool.eq_false_or_eq_true (decide (0 ≤ at_) && decide (at_ ≤ 999)) with h_1 | h_1
  · have h_1d := h_1
    simp only [Bool.and_eq_true, Bool.and_eq_false_iff, decide_eq_true_eq, decide_eq_false_iff_not] at h_1d
    refine jR (cB (cN h_1)) <| jW <| jB <| jD <| jF <| jA (jC (v := pv p) rfl) <| jA (jC (v := iv id) rfl) ?_
    refine jH rfl (jI [] Tryz.call170 rfl (N_keyNum [116, 47] id [] (show List.length ([116, 47] : Str) ≤ 2 by decide) (by omega) (show List.length ([] : Str) ≤ 0 by decide) (by omega)) rfl (fun _ _ => trivial)) ?_
    rintro _ _ ⟨_, ⟨u_4, e_2, f_5, rfl, rfl⟩, rfl⟩
    refine jA (jC (v := iv at_) rfl) ?_
    refine jH rfl (jI [0, 0, 0, 0] Tryz.call165 rfl (N_setNum p x m hk (by omega) (by omega) u_4 at_ (by omega) (by omega)) rfl (fun _ _ => trivial)) ?_
    rintro _ _ ⟨_, ⟨x_8, m_9, e_6, k_7, rfl, rfl⟩, rfl⟩
    refine jE <| jB <| jD <| jF <| jA (jG (v := iv 0) rfl) <| jE <| jB <| jM <| jU (.inl rfl) rfl (jN (v := iv 0) rfl) (List.Sublist.refl _) ?_
    exact ⟨x_8, m_9, 0, (by simp only [MS.setTimer, h_1, e_2, e_6, SB]; (repeat (first | rw [if_pos (by omega)] | rw [if_neg (by omega)])); all_goals (first | rfl | simp only [SB, h_1, e_2, e_6])), (k_7.mono (by omega) (by omega)), (by first | omega | (simp only [LE]; omega)), rfl, rfl⟩
  have h_1d := h_1
  simp only [Bool.and_eq_true, Bool.and_eq_false_iff, decide_eq_true_eq, decide_eq_false_iff_not] at h_1d
  refine jQ (cB (cN h_1)) <| jD <| jF <| jA (jG (v := iv 4) rfl) <| jE <| jB <| jM <| jb <| jU (.inl rfl) rfl (jN (v := iv 4) rfl) (List.Sublist.refl _) ?_
  exact ⟨x, m, 4, (by simp only [MS.setTimer, h_1, SB]; (repeat (first | rw [if_pos (by omega)] | rw [if_neg (by omega)])); all_goals (first | rfl | simp only [SB, h_1])), (hk.mono (by omega) (by omega)), (by first | omega | (simp only [LE]; omega)), rfl, rfl⟩

theorem N_kids (p : Nat) (x : MA) (m : MS) {S T : Nat} (hk : m.ok S T) (hS : S ≤ 300000000) (hT : T ≤ 300000000) (parent : Int) (hparent : -9223372036854775808 ≤ parent ∧ parent ≤ 9223372036854775807) :
    Ct Tryz.prog 113 [.pointer (some ⟨p, 0, none⟩), .int .i64 parent] (mb p x m :: mr x m) (fun _ => True) (fun v A' => ∃ x' m' r0a r0c r0, MS.kids m parent = (m', r0) ∧ m'.ok (S) (T + S + 1) ∧ r0.length ≤ S ∧ v = .slice r0a r0.length r0c ∧ A' = mb p x' m' :: mr x' m' ++ [rI r0a r0c r0]) := by
  refine Ct.intro Tryz.func113 rfl Tryz.ntmps113 (lb rfl) fun w0 hpre => ?_
  refine jD <| jF <| jA (jG (v := .slice none 0 0) rfl) <| jE <| jB <| jD <| jF <| jA (jG (v := .slice none 0 0) rfl) <| jE <| jB ?_
  refine jD <| jD <| jF <| jA (jC (v := pv p) rfl) ?_
  refine jH rfl (jI [0, 0, 0, 0] Tryz.call171 rfl (N_under p x m hk (by omega) (by omega) [114, 47] (by decide)) rfl (fun _ _ => trivial)) ?_
  rintro _ _ ⟨_, ⟨x_3, m_4, l_5a, l_5c, l_5, e_1, k_2, f_6, rfl, rfl⟩, rfl⟩
  refine jA (jy kd rfl) <| jA (jC (v := iv 0) rfl) <| jE <| jB <| jl ?_
  have hll := f_6.1
  refine JC.nilRow 3 1 <| JC.perm (pick_perm [1, 1, 1, 1, 0, 0] (A := [mb p x_3 m_4, rC x_3.a0 x_3.c0 m_4.s, rS x_3.a1 x_3.c1 m_4.r, rS x_3.a2 x_3.c2 m_4.w, Res.row (.slice none 0 0) 3 1 0 (([] : List Int).map (Value.int .i64)), rS l_5a l_5c l_5]) (F := []) rfl).symm <| kE (fun k_ e_ L_ => ∃ j : Nat, ∃ x : MA, ∃ mm : MS, ∃ out_a : Option Addr, ∃ out_c : Nat, ∃ out_ : List Int, (j ≤ l_5.length) ∧ (mm.ok (S) (T + 1 + j)) ∧ (out_.length ≤ j) ∧ (MS.kidsL parent (l_5.drop j) mm out_ = MS.kidsL parent l_5 m_4 ([] : List Int)) ∧ e_ 0 = pv p ∧ e_ 1 = iv parent ∧ e_ 4 = .slice none 0 0 ∧ e_ 5 = .slice out_a out_.length out_c ∧ e_ 11 = .slice l_5a l_5.length l_5c ∧ e_ 12 = nv l_5.length ∧ e_ 13 = nv j ∧ L_ = [mb p x mm, rC x.a0 x.c0 mm.s, rS x.a1 x.c1 mm.r, rS x.a2 x.c2 mm.w, rI out_a out_c out_, rS l_5a l_5c l_5] ∧ k_ = l_5.length - j) _ ⟨0, x_3, m_4, none, 0, ([] : List Int), by omega, (k_2.mono (by omega) (by omega)), (by first | omega | (simp only [LE]; omega)), rfl, rfl, rfl, rfl, rfl, rfl, rfl, rfl, rfl, rfl⟩ ?_
  rintro _ e_7 _ ⟨j, x, mm, out_a, out_c, out_, hj, hkmm, ho, hR, he_8, he_9, he_10, he_11, he_12, he_13, he_14, rfl, rfl⟩
  refine jD <| jF <| jA (jr he_14 he_13) <| jE <| jB <| jD ?_
  by_cases h_15 : ((j : Nat) : Int) < ((l_5.length : Nat) : Int)
  · have hlt : j < l_5.length := by omega
    have hbj := f_6.2 j hlt
    try simp only [List.length_cons, List.length_nil] at hbj
    refine jQ (cB (dT h_15)) <| jW <| jB <| jD <| jl <| jD <| jF ?_
    refine kW fun hst => ?_
    obtain ⟨hr_16, hr_16b, -⟩ := row_some 5 rfl (by omega) hst
    refine jA (kD (i := j) kd kh hr_16 hr_16b he_12 he_14 (by omega)) <| jT (kX 5 (v := str (l_5.getD j [])) rfl rfl kg (atS (by omega))) <| jA (jG (v := str (l_5.getD j [])) rfl) <| jE <| jB <| jD <| jF <| jA (jC (v := str (l_5.getD j [])) rfl) ?_
    refine jH rfl (jI [] Tryz.call181 rfl (N_cutSuffix (l_5.getD j []) [47, 112] (by omega)) rfl (fun _ _ => trivial)) ?_
    rintro _ _ ⟨_, ⟨u_19, b_21, e_17, f_20, rfl, rfl⟩, rfl⟩
    refine jA (jC (v := .tuple #[str u_19, .bool b_21]) rfl) <| jA (jS (v := str u_19) rfl rfl) <| jA (jS (v := .bool b_21) rfl rfl) <| jA (jG (v := str u_19) rfl) <| jA (jG (v := .bool b_21) rfl) <| jE <| jB <| jD <| jF <| jA (jC (v := str (l_5.getD j [])) rfl) ?_
    refine jA (kM kf rfl) <| jA (kT rfl rfl) <| jA (jC (v := .bool (decide (5 ≤ ((l_5.getD j []).length : Int)))) rfl) ?_
    by_cases h_22 : 5 ≤ ((l_5.getD j []).length : Int)
    · refine jX rfl rfl rfl (cB (dT h_22)) (jZ (jd (jC (v := .bool b_21) rfl))) ?_
      rintro _ _ ⟨rfl, rfl⟩
      refine jA (jw (v := .bool b_21) (cB (dT h_22)) rfl) <| jA (jC (v := .bool b_21) rfl) ?_
      rcases Bool.eq_false_or_eq_true (b_21) with h_23 | h_23
      · have hkid := cutSuf_kid e_17 h_22
        rw [h_23] at hkid
        rw [h_23] at e_17
        obtain ⟨hu, hu3⟩ := cutSuf_kidT e_17 h_22
        refine jX rfl rfl rfl (cB h_23) (jZ (jd (jC (v := pv p) he_8))) ?_
        rintro _ _ ⟨rfl, rfl⟩
        refine jX rfl rfl rfl (cB h_23) (jZ (jd (jC (v := str (l_5.getD j [])) rfl))) ?_
        rintro _ _ ⟨rfl, rfl⟩
        refine jX rfl rfl rfl (cB h_23) (jI [0, 0, 0, 0] Tryz.call160 rfl (N_num p x mm hkmm (by omega) (by omega) (l_5.getD j [])) rfl (fun _ _ => trivial)) ?_
        rintro _ _ ⟨_, ⟨x_26, m_27, n_28, e_24, k_25, f_29, rfl, rfl⟩, rfl⟩
        refine jX rfl rfl rfl (cB h_23) (jZ (jd (jC (v := iv parent) he_9))) ?_
        rintro _ _ ⟨rfl, rfl⟩
        refine jX rfl rfl rfl (cB h_23) (jZ (jd (jx rfl rfl))) ?_
        rintro _ _ ⟨rfl, rfl⟩
        refine jA (jw (v := .bool (decide (n_28 = parent))) (cB h_23) rfl) <| jE <| jB ?_
        by_cases h_30 : n_28 = parent
        · refine jQ (cB (dT h_30)) <| jF <| jA (jC (v := .slice out_a out_.length out_c) he_11) <| jA (jC (v := str u_19) rfl) <| jA (PO.sliceSl (i := 2) kf rfl rfl (by omega)) ?_
          refine jH rfl (jI [] Tryz.call182 rfl (N_numOf (u_19.drop 2) (by first | omega | (simp only [LE]; omega))) rfl (fun _ _ => trivial)) ?_
          rintro _ _ ⟨_, ⟨n_33, e_31, f_34, rfl, rfl⟩, rfl⟩
          refine jH rfl (kH (ps := [(0, iv n_33)]) (cur := #[iv n_33]) kv ko Tryz.zeroValue3 rfl (by kernel_rfl) (by decide) (by decide)) ?_
          rintro _ _ ⟨a_35, rfl, rfl⟩
          refine jH rfl (kG 5 (q := 1) (news := ([n_33] : List Int).map (Value.int .i64)) (n' := (out_ ++ ([n_33] : List Int)).length) (cs' := (out_ ++ ([n_33] : List Int)).map (Value.int .i64)) rfl kv kv Tryz.typeInfo3 rfl (by' := 8) rfl rfl rfl rfl rfl (fun w hw => Src.sees (hw.see (i := 0) rfl) (oneI _)) (by (try simp only [LE]); omega) (by (try simp only [LE]); omega) (by simp only [List.length_append, List.length_take, List.length_drop, List.length_cons, List.length_nil] <;> first | rfl | omega) (by simp only [List.map_append])) ?_
          rintro _ _ ⟨a_36, c_37, rfl, rfl⟩
          refine jA (jG (v := .slice a_36 ((out_ ++ ([n_33] : List Int)).length) c_37) rfl) <| jE <| jk <| jB <| jF <| jA (ji (c := ((j + 1 : Nat) : Int)) he_14 rfl (wr (by omega))) <| jA (jC (v := iv ((j + 1 : Nat) : Int)) rfl) <| jE <| jt [1, 1, 1, 1, 1, 1] (A := [mb p x_26 m_27, rC x_26.a0 x_26.c0 m_27.s, rS x_26.a1 x_26.c1 m_27.r, rS x_26.a2 x_26.c2 m_27.w, rI a_36 c_37 (out_ ++ ([n_33] : List Int)), rS l_5a l_5c l_5]) rfl ?_
          refine ju (l_5.length - (j + 1)) (by omega) ⟨j + 1, x_26, m_27, a_36, c_37, (out_ ++ ([n_33] : List Int)), by omega, (k_25.mono (by omega) (by omega)), (by first | omega | (simp only [LE]; omega)), (by rw [drop_at (getD_some (d := []) hlt)] at hR; simp only [MS.kidsL, e_1, h_15, e_17, h_22, h_23, hkid, hu, e_24, h_30, e_31, SB] at hR; (repeat (first | rw [if_pos (by omega)] at hR | rw [if_neg (by omega)] at hR)); exact hR), he_8, he_9, he_10, rfl, he_12, he_13, rfl, rfl, rfl⟩
        refine jR (cB (dF h_30)) <| jW <| jk <| jB <| jF <| jA (ji (c := ((j + 1 : Nat) : Int)) he_14 rfl (wr (by omega))) <| jA (jC (v := iv ((j + 1 : Nat) : Int)) rfl) <| jE <| jt [0, 0, 0, 0, 0, 0] (A := [mb p x_26 m_27, rC x_26.a0 x_26.c0 m_27.s, rS x_26.a1 x_26.c1 m_27.r, rS x_26.a2 x_26.c2 m_27.w, rI out_a out_c out_, rS l_5a l_5c l_5]) rfl ?_
        refine ju (l_5.length - (j + 1)) (by omega) ⟨j + 1, x_26, m_27, out_a, out_c, out_, by omega, (k_25.mono (by omega) (by omega)), (by first | omega | (simp only [LE]; omega)), (by rw [drop_at (getD_some (d := []) hlt)] at hR; simp only [MS.kidsL, e_1, h_15, e_17, h_22, h_23, hkid, hu, e_24, h_30, SB] at hR; (repeat (first | rw [if_pos (by omega)] at hR | rw [if_neg (by omega)] at hR)); exact hR), he_8, he_9, he_10, he_11, he_12, he_13, rfl, rfl, rfl⟩
      have hkid := cutSuf_kid e_17 h_22
      rw [h_23] at hkid
      refine jO (b := false) rfl rfl rfl (cB h_23) <| jO (b := false) rfl rfl rfl (cB h_23) <| jO (b := false) rfl rfl rfl (cB h_23) <| jO (b := false) rfl rfl rfl (cB h_23) <| jO (b := false) rfl rfl rfl (cB h_23) <| jA (js (v := .bool false) (cB h_23) rfl) <| jE <| jB <| jR (cB rfl) <| jW ?_
      refine jk <| jB <| jF <| jA (ji (c := ((j + 1 : Nat) : Int)) he_14 rfl (wr (by omega))) <| jA (jC (v := iv ((j + 1 : Nat) : Int)) rfl) <| jE <| jt [0, 0, 0, 0, 0, 0] (A := [mb p x mm, rC x.a0 x.c0 mm.s, rS x.a1 x.c1 mm.r, rS x.a2 x.c2 mm.w, rI out_a out_c out_, rS l_5a l_5c l_5]) rfl ?_
      refine ju (l_5.length - (j + 1)) (by omega) ⟨j + 1, x, mm, out_a, out_c, out_, by omega, (hkmm.mono (by omega) (by omega)), (by first | omega | (simp only [LE]; omega)), (by rw [drop_at (getD_some (d := []) hlt)] at hR; simp only [MS.kidsL, e_1, h_15, e_17, h_22, h_23, hkid, SB] at hR; (repeat (first | rw [if_pos (by omega)] at hR | rw [if_neg (by omega)] at hR)); exact hR), he_8, he_9, he_10, he_11, he_12, he_13, rfl, rfl, rfl⟩
    have hkid := isKid_short h_22
    refine jO (b := false) rfl rfl rfl (cB (dF h_22)) <| jA (js (v := .bool false) (cB (dF h_22)) rfl) <| jA (jC (v := .bool false) rfl) <| jO (b := false) rfl rfl rfl (cB rfl) <| jO (b := false) rfl rfl rfl (cB rfl) <| jO (b := false) rfl rfl rfl (cB rfl) <| jO (b := false) rfl rfl rfl (cB rfl) <| jO (b := false) rfl rfl rfl (cB rfl) <| jA (js (v := .bool false) (cB rfl) rfl) <| jE ?_
    refine jB <| jR (cB rfl) <| jW <| jk <| jB <| jF <| jA (ji (c := ((j + 1 : Nat) : Int)) he_14 rfl (wr (by omega))) <| jA (jC (v := iv ((j + 1 : Nat) : Int)) rfl) <| jE <| jt [0, 0, 0, 0, 0, 0] (A := [mb p x mm, rC x.a0 x.c0 mm.s, rS x.a1 x.c1 mm.r, rS x.a2 x.c2 mm.w, rI out_a out_c out_, rS l_5a l_5c l_5]) rfl ?_
    refine ju (l_5.length - (j + 1)) (by omega) ⟨j + 1, x, mm, out_a, out_c, out_, by omega, (hkmm.mono (by omega) (by omega)), (by first | omega | (simp only [LE]; omega)), (by rw [drop_at (getD_some (d := []) hlt)] at hR; simp only [MS.kidsL, e_1, h_15, e_17, h_22, hkid, SB] at hR; (repeat (first | rw [if_pos (by omega)] at hR | rw [if_neg (by omega)] at hR)); exact hR), he_8, he_9, he_10, he_11, he_12, he_13, rfl, rfl, rfl⟩
  rw [List.drop_of_length_le (by omega)] at hR
  simp only [MS.kidsL] at hR
  have hE := hR.symm
  refine jR (cB (dF h_15)) <| kB <| jm <| jm <| kC <| jB <| jD <| jF <| jA (jC (v := .slice out_a out_.length out_c) he_11) <| jA (jG (v := .slice out_a out_.length out_c) rfl) ?_
  refine jE <| jB <| jM <| jU (.inl rfl) rfl (jN (v := .slice out_a out_.length out_c) rfl) (tS 5 _) ?_
  exact ⟨x, mm, out_a, out_c, out_, (by simp only [MS.kids, e_1, h_15, hE, SB]; (repeat (first | rw [if_pos (by omega)] | rw [if_neg (by omega)])); all_goals (first | rfl | simp only [SB, e_1, h_15, hE])), (hkmm.mono (by omega) (by omega)), (by first | omega | (simp only [LE]; omega)), rfl, rfl⟩

end Go.Proofs.YtghfijncihbojaaGreatDoor

set_option linter.unusedSimpArgs false
set_option linter.unusedVariables false
set_option linter.unnecessarySimpa false
namespace Go.Proofs.YtghfijncihbojaaGreatDoor
open Go Go.RowKit

theorem digit_fin : ∀ d : Fin 16, Lib.Hx.digit d.val = hexFig d.val := by decide +kernel
theorem hexVal_fin : ∀ n : Fin 16, hexVal (hexFig n.val) = some n.val := by decide +kernel
theorem byte_fin : ∀ c : Fin 256, (match hexVal (UInt8.ofNat c.val) with | some n => decide (n < 16) && decide (Lib.Hx.v (UInt8.ofNat c.val) = n) && decide (hexFig n = UInt8.ofNat c.val) | none => true) = true := by decide +kernel
theorem hexVal_some {c : UInt8} {n : Nat} (h : hexVal c = some n) : n < 16 ∧ Lib.Hx.v c = n ∧ hexFig n = c := by
  have := byte_fin ⟨c.toNat, UInt8.toNat_lt c⟩
  rw [show UInt8.ofNat (⟨c.toNat, UInt8.toNat_lt c⟩ : Fin 256).val = c from UInt8.ofNat_toNat] at this
  rw [h] at this
  simp only [Bool.and_eq_true, decide_eq_true_eq] at this
  exact ⟨this.1.1, this.1.2, this.2⟩
theorem encode_hexB : ∀ l : Str, Lib.Hx.encode l = hexB l
  | [] => rfl
  | c :: l => by
    have hc := UInt8.toNat_lt c
    rw [Lib.Hx.encode_cons, hexB, encode_hexB l, digit_fin ⟨c.toNat / 16, by omega⟩, digit_fin ⟨c.toNat % 16, by omega⟩]
theorem unhexL_hexB : ∀ r : Str, unhexL (hexB r) = some r
  | [] => rfl
  | c :: r => by
    have hc := UInt8.toNat_lt c
    rw [hexB, unhexL, hexVal_fin ⟨c.toNat / 16, by omega⟩, hexVal_fin ⟨c.toNat % 16, by omega⟩, unhexL_hexB r]
    simp only
    rw [show 16 * (c.toNat / 16) + c.toNat % 16 = c.toNat by omega, UInt8.ofNat_toNat]
theorem unhexL_dec : ∀ (t r : Str), unhexL t = some r → hexB r = t ∧ Lib.Hx.decode t = (r, .ok)
  | [], r, h => by
    simp only [unhexL, Option.some.injEq] at h
    subst h
    exact ⟨rfl, Lib.Hx.decode_nil⟩
  | [_], r, h => by simp [unhexL] at h
  | a :: b :: t, r, h => by
    unfold unhexL at h
    split at h
    · rename_i hh ll rr h1 h2 h3
      simp only [Option.some.injEq] at h
      subst h
      obtain ⟨i1, i2⟩ := unhexL_dec t rr h3
      obtain ⟨a1, a2, a3⟩ := hexVal_some h1
      obtain ⟨b1, b2, b3⟩ := hexVal_some h2
      have hn : (UInt8.ofNat (16 * hh + ll)).toNat = 16 * hh + ll := UInt8.toNat_ofNat_of_lt' (by show _ < 256; omega)
      refine ⟨?_, ?_⟩
      · rw [hexB, hn, i1, show (16 * hh + ll) / 16 = hh by omega, show (16 * hh + ll) % 16 = ll by omega, a3, b3]
      · rw [Lib.Hx.decode_two, a2, b2, if_neg (by omega), if_neg (by omega), i2, Nat.mul_comm]
    · cases h
theorem unhex_yes {t r : Str} (hd : Lib.Hx.decode t = (r, .ok)) (h1 : ¬ (20000 : Int) < (r.length : Int)) (h2 : hexB r = t) : unhex t = (r, true) := by
  have hl := hexB_len r
  unfold unhex
  rw [if_neg (by rw [← h2, hl]; omega), ← h2, unhexL_hexB]
theorem unhex_err {t : Str} (hd : ∀ r, Lib.Hx.decode t ≠ (r, .ok)) : unhex t = ([], false) := by
  unfold unhex
  split
  · rfl
  · cases h : unhexL t with
    | none => rfl
    | some r => exact absurd (unhexL_dec t r h).2 (hd r)
theorem unhex_long {t r : Str} (hd : Lib.Hx.decode t = (r, .ok)) (h1 : (20000 : Int) < (r.length : Int)) : unhex t = ([], false) := by
  unfold unhex
  split
  · rfl
  · rename_i hl
    cases h : unhexL t with
    | none => rfl
    | some r' =>
      have := unhexL_dec t r' h
      rw [hd] at this
      have e : r = r' := (Prod.mk.inj this.2).1
      subst e
      have := unhexL_len t r h
      omega
theorem unhex_ne {t r : Str} (hd : Lib.Hx.decode t = (r, .ok)) (h1 : ¬ hexB r = t) : unhex t = ([], false) := by
  unfold unhex
  split
  · rfl
  · cases h : unhexL t with
    | none => rfl
    | some r' =>
      have := unhexL_dec t r' h
      rw [hd] at this
      have e : r = r' := (Prod.mk.inj this.2).1
      subst e
      exact absurd this.1 h1
/-- What Hex hands back. -/
def hexP (s : Str) : Str × Bool := if 20000 < (s.length : Int) then ([], false) else (hexB s, true)
theorem hexS_P (s : Str) : hexS s = (hexP s).1 := by
  unfold hexS hexP
  by_cases h : 20000 < s.length
  · rw [if_pos h, if_pos (by omega)]
  · rw [if_neg h, if_neg (by omega)]
theorem prefix45 {v : Str} : prefixB v [45] = true ↔ ∃ t, v = 45 :: t := by
  unfold prefixB
  simp only [List.length_cons, List.length_nil, Bool.and_eq_true, decide_eq_true_eq]
  cases v with
  | nil => simp
  | cons c t => simp
theorem hexP_no {s : Str} (h : ¬ (20000 : Int) < (s.length : Int)) : hexP s = (hexB s, true) := by unfold hexP; rw [if_neg h]
theorem hexP_yes {s : Str} (h : (20000 : Int) < (s.length : Int)) : hexP s = ([], false) := by unfold hexP; rw [if_pos h]
theorem messageOf_cutT {v u : Str} (h : cutPre v [45] = (u, true)) : messageOf v = (unhex u).1 := by
  unfold cutPre at h
  split at h
  · rename_i hp
    obtain ⟨t, rfl⟩ := prefix45.1 hp
    simp only [Prod.mk.injEq, and_true] at h
    subst h
    rfl
  · simp at h
theorem messageOf_cutF {v u : Str} (h : cutPre v [45] = (u, false)) : messageOf v = [] := by
  unfold cutPre at h
  split at h
  · simp at h
  · rename_i hp
    cases v with
    | nil => rfl
    | cons c t =>
      unfold messageOf
      simp only
      rw [if_neg]
      intro hc
      subst hc
      exact hp (prefix45.2 ⟨t, rfl⟩)
end Go.Proofs.YtghfijncihbojaaGreatDoor

set_option linter.unusedSimpArgs false
set_option linter.unusedVariables false
set_option linter.unnecessarySimpa false
namespace Go.Proofs.YtghfijncihbojaaGreatDoor
open Go Go.RowKit

@[reducible] def rB (a : Option Addr) (c : Nat) (l : Str) : Res := .row (.slice a l.length c) 5 1 l.length (l.map encB)
theorem setB {l : Str} {i : Nat} {c : UInt8} (h : i < l.length) : (l.map encB).take (i * 1) ++ [.int .u8 (c.toNat : Int)] ++ (l.map encB).drop (i * 1 + 1) = (l.set i c).map encB := by
  have e : ∀ q : Str, q.flatMap (fun s => [encB s]) = q.map encB := fun q => by
    induction q with
    | nil => rfl
    | cons x q ih => rw [List.flatMap_cons, ih]; rfl
  have := flat_set (enc := fun s => [encB s]) (k := 1) (fun _ => rfl) l i c h
  rw [e, e] at this
  exact this
section
variable {P : Program} {ops : Array Oper} {Q : Exit → Act → World → Prop} {n : Nat} {w0 w : World} {D : List Nat} {L : List Res} {e : Env}
variable {d : Option Tmp} {ty : TypeId} {pos : String} {aft : Array Edge} {gd : Option (Nat × Bool)}
/-- A text's bytes, copied into a row of their own. -/
theorem JO.toBytes {src dst : TypeId} {x : Operand} {s : Str} (hs : P.underlying src = some .string) (hd : P.underlying dst = some (.slice TB)) (he : P.underlying TB = some (.int .u8)) (hx : rd n e x = str s) (hm : s.length ≤ maxLen) :
    JO P n w0 D L e ⟨d, .convert src dst x, ty, pos, aft, gd⟩ (fun u L' => ∃ a c, u = .slice a s.length c ∧ L' = .row (.slice a s.length c) TB 1 s.length (s.map encB) :: L) := JO.ofRun fun w hw => by
  have hsz : (ByteArray.mk s.toArray).size = s.length := size_mk s
  have hrun := Lib.run_convert_string_bytes (P := P) w src dst TB ⟨s.toArray⟩ hs hd he
  have hge := grownCap_ge w s.length 0 TB
  have hle := grownCap_le_maxLen w s.length 0 TB hm
  have hcs : (Lib.bytesCells w TB ⟨s.toArray⟩).size = grownCap w s.length 0 TB := by
    unfold Lib.bytesCells
    rw [hsz]
    simp
    omega
  have hcl : (Lib.bytesCells w TB ⟨s.toArray⟩).toList.take s.length = s.map encB := by
    unfold Lib.bytesCells
    simp only [Array.toList_append, Array.toList_map]
    rw [List.take_append_of_le_length (by simp), List.take_of_length_le (by simp)]
  refine ⟨_, .row (.slice (some ⟨w.heap.size, 0, none⟩) s.length (grownCap w s.length 0 TB)) TB 1 s.length (s.map encB) :: L, Lib.bytesWorld w TB ⟨s.toArray⟩, ?_, ⟨_, _, rfl, rfl⟩, ?_⟩
  · simp only [execOp, hx, str, Sem.run_bind, hrun, Result.andThen_ok, hsz]
    rfl
  · refine hw.turn (A := []) (A' := [.row (.slice (some ⟨w.heap.size, 0, none⟩) s.length (grownCap w s.length 0 TB)) TB 1 s.length (s.map encB)]) (F := L) (List.Perm.refl _) rfl rfl rfl (by rw [Lib.bytesWorld_size]; omega)
      (fun k hk _ => Lib.bytesWorld_at_old w _ _ k hk) ?_ (by simp [idsOf, Res.ids, Value.ownBlock]) ?_
    · intro r hr
      simp only [List.mem_singleton] at hr
      subst hr
      refine ⟨by simp, .inr ⟨w.heap.size, _, _, rfl, Nat.zero_le _, ⟨_, Lib.bytesWorld_at_new w TB ⟨s.toArray⟩, .inr ⟨Nat.le_refl _, rfl⟩⟩, hge, hle, by rw [hcs, Nat.mul_one]; exact Nat.le_refl _, by rw [Nat.mul_one]; exact hcl⟩⟩
    · intro i hi
      simp only [idsOf, Res.ids, Value.ownBlock, List.flatMap_cons, List.flatMap_nil, List.append_nil, Option.mem_toList, Option.some.injEq] at hi
      exact .inr (by omega)
end

theorem N_hexEnc (a : Option Addr) (c : Nat) (l : Str) (hl : l.length ≤ 1000000000000) : Ct Tryz.prog 221 [.slice a l.length c] [] (fun w => Sees w (.slice a l.length c) 1 l.length (l.map encB)) (fun v A' => v = str (hexB l) ∧ A' = []) := fun w hA hs => by
  obtain ⟨hlen, hs⟩ := hs
  rcases hs with ⟨hv, h0⟩ | ⟨b, o, cap, hv, h1, h2, h3, h4⟩
  · have hl0 : l = [] := List.length_eq_zero_iff.1 h0
    subst hl0
    simp only [Value.slice.injEq] at hv
    obtain ⟨rfl, _, rfl⟩ := hv
    refine (Tryz.hex_EncodeToString_nil w).mono fun e w' h => ?_
    obtain ⟨rfl, hb⟩ := h
    exact ⟨_, [], rfl, ⟨rfl, rfl⟩, hA.below hb⟩
  · simp only [Value.slice.injEq] at hv
    obtain ⟨rfl, _, rfl⟩ := hv
    refine (Tryz.hex_EncodeToString_bytes b o c l w (fun i hi => ?_) h3 (by omega)).mono fun e w' h => ?_
    · exact h4 i _ (by rw [List.getElem?_map, List.getElem?_eq_getElem hi]; rfl)
    · obtain ⟨rfl, hb⟩ := h
      exact ⟨_, [], rfl, ⟨by rw [encode_hexB]; rfl, rfl⟩, hA.below hb⟩
/-- What DecodeString hands back. -/
def decPost (t : Str) (v : Value) (A' : List Res) : Prop := ∃ a c, ∃ r : Str, ((Lib.Hx.decode t = (r, .ok) ∧ v = .tuple #[.slice a r.length c, .nilIface]) ∨ ((∀ r, Lib.Hx.decode t ≠ (r, .ok)) ∧ ∃ te pe, v = .tuple #[.slice a r.length c, .iface te pe])) ∧ A' = [rB a c r]
theorem N_hexDec (t : Str) (ht : t.length ≤ 1000000000000) : Ct Tryz.prog 231 [str t] [] (fun w => HexOk w) (fun v A' => decPost t v A') := fun w hA hx => by
  obtain ⟨tp, p, hE⟩ := hx.cell
  have hl : (ByteArray.mk t.toArray).data.toList = t := by simp
  refine (Tryz.hex_DecodeString_owns ⟨t.toArray⟩ w _ hE (by rw [size_mk]; omega)).mono fun e w' h => ?_
  rw [hl] at h
  obtain ⟨v, rfl, hown, hb⟩ := h
  generalize hd : Lib.Hx.decode t = q at hown
  obtain ⟨r, o⟩ := q
  simp only at hown
  have hvs : ∃ a c, v = .slice a r.length c := by
    rcases hown.2 with ⟨hv, h0⟩ | ⟨g, cap, cur, hv, _⟩
    · exact ⟨none, 0, by rw [hv, h0]⟩
    · exact ⟨_, _, hv⟩
  obtain ⟨a, c, rfl⟩ := hvs
  have hst : St w (idsOf []) [rB a c r] w' := by
    refine (St.start hA).turn (A := []) (A' := [rB a c r]) (F := []) (List.Perm.refl _) hb.os hb.tape hb.output hb.size (fun k hk _ => hb.block k hk) ?_ ?_ ?_
    · intro x hx'
      simp only [List.mem_singleton] at hx'
      subst hx'
      have h1 := World.ownsR.of hown
      refine ⟨h1.1, ?_⟩
      rcases h1.2 with h | ⟨g, cap, cur, hv, _, rest⟩
      · exact .inl h
      · exact .inr ⟨g, cap, cur, hv, Nat.zero_le _, rest⟩
    · simp only [idsOf, Res.ids, List.flatMap_cons, List.flatMap_nil, List.append_nil]
      cases (Value.slice a r.length c).ownBlock <;> simp
    · intro i hi
      simp only [idsOf, Res.ids, List.flatMap_cons, List.flatMap_nil, List.append_nil, Option.mem_toList] at hi
      exact .inr (World.ownsRow.lt hown i hi).1
  refine ⟨_, _, rfl, ⟨a, c, r, ?_, rfl⟩, hst⟩
  cases o with
  | ok => exact .inl ⟨hd, rfl⟩
  | bad q => exact .inr ⟨fun r' h => by rw [hd] at h; simp at h, _, _, rfl⟩
  | odd => exact .inr ⟨fun r' h => by rw [hd] at h; simp at h, _, _, rfl⟩
end Go.Proofs.YtghfijncihbojaaGreatDoor

set_option linter.unusedSimpArgs false
set_option linter.unusedVariables false
set_option linter.unnecessarySimpa false
namespace Go.Proofs.YtghfijncihbojaaGreatDoor
open Go Go.RowKit
@[reducible] def cb (b : Nat) (a : Option Addr) (c : Nat) (l : Str) (p : Nat) (s : Int) : Res := bk b 98 [.slice a l.length c, .int .i64 ((p : Nat) : Int), .int .i64 s]
/-- The bytes that a cursor goes over can be read, and none of these resources holds them. -/
def seesC (w : World) (a : Option Addr) (c : Nat) (l : Str) (A : List Res) : Prop := Sees w (.slice a l.length c) 1 l.length (l.map encB) ∧ ∀ i, (Value.slice a l.length c).ownBlock = some i → i ∉ idsOf A
theorem atB {l : Str} {i : Nat} (h : i < l.length) : (l.map encB)[i * 1]? = some (.int .u8 (((l.getD i 0).toNat : Nat) : Int)) := by simp [h, encB]
theorem and_bnd (x m : Int) (h0 : 0 ≤ m) (h1 : m < 9223372036854775808) : 0 ≤ bits .and .i64 x m ∧ bits .and .i64 x m ≤ m := by
  have hm : (BitVec.ofInt 64 m).toNat = m.toNat := by
    rw [BitVec.toNat_ofInt]
    congr 1
    omega
  have hle : ((BitVec.ofInt 64 x) &&& (BitVec.ofInt 64 m)).toNat ≤ m.toNat := by
    rw [BitVec.toNat_and, hm]
    exact Nat.and_le_right
  have hw : bits .and .i64 x m = ((((BitVec.ofInt 64 x) &&& (BitVec.ofInt 64 m)).toNat : Nat) : Int) := by
    unfold bits
    show IntKind.i64.wrap ((((BitVec.ofInt 64 x) &&& (BitVec.ofInt 64 m)).toNat : Nat) : Int) = _
    exact wr (by omega)
  rw [hw]
  omega
theorem St.apart {w0 w : World} {D : List Nat} {L A : List Res} {v : Value} {k m : Nat} {vs : List Value} (hw : St w0 D L w) (hs : Sees w0 v k m vs) (hD : ∀ b, v.ownBlock = some b → b ∉ D) (hA : ∀ r ∈ A, r ∈ L) :
    ∀ j, v.ownBlock = some j → j ∉ idsOf A := fun j hj hin => by
  obtain ⟨r, hr, hjr⟩ := mem_idsOf.1 hin
  rcases hs.2 with ⟨rfl, _⟩ | ⟨b, o, cap, hv, h1, h2, h3, h4⟩
  · simp [Value.ownBlock] at hj
  · rcases hw.fresh j (mem_idsOf.2 ⟨r, hA r hr, hjr⟩) with h | h
    · exact hD j hj h
    · subst hv
      simp [Value.ownBlock] at hj
      omega
/-- What PutKey keeps. -/
def okC' (n k : Nat) (s : List Cell) : Prop := s.length ≤ n ∧ ∀ c ∈ s, c.1.length ≤ k ∧ c.2.length ≤ k
theorem okC'.put {n k : Nat} {s : List Cell} (h : okC' n k s) (key val : Str) (h1 : key.length ≤ k) (h2 : val.length ≤ k) : okC' (n + 1) k (putKey s key val) := by
  refine ⟨Nat.le_trans (putKey_len s key val) (by have := h.1; omega), fun c hc => ?_⟩
  rcases putKey_mem (s := s) hc with hc | ⟨rfl, _, _⟩
  · exact h.2 c hc
  · exact ⟨h1, h2⟩
theorem okC'.mono {n n' k : Nat} {s : List Cell} (h : okC' n k s) (hn : n ≤ n') : okC' n' k s := ⟨Nat.le_trans h.1 hn, h.2⟩
attribute [local irreducible] JL JC JQ JO LO PO JA JX Ct

theorem D_byte (qb : Nat) (qa : Option Addr) (qc : Nat) (ql : Str) (qp : Nat) (qs : Int) (hql : ql.length ≤ 1048576) (hqp : qp ≤ ql.length)  :
    Ct Tryz.prog 59 [.pointer (some ⟨qb, 0, none⟩)] [cb qb qa qc ql qp qs] (fun w => seesC w qa qc ql [cb qb qa qc ql qp qs]) (fun v A' => ∃ qp' qs' r0, qp' ≤ ql.length ∧ (r0 ≤ 255) ∧ v = .int .i64 ((r0 : Nat) : Int) ∧ A' = [cb qb qa qc ql qp' qs']) := by
  refine Ct.intro Tryz.func59 rfl Tryz.ntmps59 (lb rfl) fun w0 hpre => ?_
  have hs_qa : Sees w0 _ _ _ _ := hpre.1
  refine jD <| jF <| jA (jG (v := iv 0) rfl) <| jE <| jB <| jD <| jF <| jA (jC (v := .pointer (some ⟨qb, 0, none⟩)) rfl) <| jA (jC (v := .pointer (some ⟨qb, 0, none⟩)) rfl) <| jA (ka rfl) ?_
  refine jA (jY fo98_2 rfl) <| jT (jf 0 (v := iv qs) rfl rfl kl rfl) <| jA (PO.mulW rfl rfl) <| jA (PO.addW rfl rfl) <| jA (ka rfl) <| jA (jY fo98_2 rfl) ?_
  refine jH rfl (ja 0 (vs := [iv (IntKind.i64.wrap ((IntKind.i64.wrap (qs * 6364136223846793005)) + 1442695040888963407))]) (cs' := [.slice qa ql.length qc, nv qp, iv (IntKind.i64.wrap ((IntKind.i64.wrap (qs * 6364136223846793005)) + 1442695040888963407))]) rfl rfl rfl rfl ko rfl rfl (lb rfl) rfl) ?_
  rintro _ _ rfl
  refine jE <| jB <| jD <| jq [cb qb qa qc ql qp (IntKind.i64.wrap ((IntKind.i64.wrap (qs * 6364136223846793005)) + 1442695040888963407))] 12 mixed (by simp) <| jJ 0 rfl (jC (v := .pointer (some ⟨qb, 0, none⟩)) rfl) <| jJ 1 rfl (ka rfl) <| jJ 2 rfl (jY fo98_2 rfl) <| jj 3 rfl (jf 0 (v := iv (IntKind.i64.wrap ((IntKind.i64.wrap (qs * 6364136223846793005)) + 1442695040888963407))) rfl rfl kl rfl) <| jJ 4 rfl (PO.shr rfl rfl (by decide) (by decide)) <| jJ 5 rfl (jC (v := .pointer (some ⟨qb, 0, none⟩)) rfl) ?_
  refine jJ 6 rfl (ka rfl) <| jJ 7 rfl (jY fo98_2 rfl) <| jj 8 rfl (jf 0 (v := iv (IntKind.i64.wrap ((IntKind.i64.wrap (qs * 6364136223846793005)) + 1442695040888963407))) rfl rfl kl rfl) <| jJ 9 rfl (PO.shr rfl rfl (by decide) (by decide)) <| jJ 10 rfl (PO.bits (by simp) rfl rfl) <| jJ 11 rfl (PO.bits (by simp) rfl rfl) <| jJ 12 rfl (jG (v := iv (Go.bits .and .i64 (Go.bits .xor .i64 ((IntKind.i64.wrap ((IntKind.i64.wrap (qs * 6364136223846793005)) + 1442695040888963407)) / 2 ^ (33 : Int).toNat) ((IntKind.i64.wrap ((IntKind.i64.wrap (qs * 6364136223846793005)) + 1442695040888963407)) / 2 ^ (45 : Int).toNat)) 255)) rfl) <| kI (by kernel_rfl) <| jB <| jD ?_
  refine jD <| jq [cb qb qa qc ql qp (IntKind.i64.wrap ((IntKind.i64.wrap (qs * 6364136223846793005)) + 1442695040888963407))] 1000 mixed (by simp) <| jJ 0 rfl (jC (v := .pointer (some ⟨qb, 0, none⟩)) rfl) <| jJ 1 rfl (ka rfl) <| jJ 2 rfl (jY fo98_1 rfl) <| jj 3 rfl (jf 0 (v := nv qp) rfl rfl kl rfl) <| jJ 4 rfl (jC (v := .pointer (some ⟨qb, 0, none⟩)) rfl) <| jJ 5 rfl (ka rfl) <| jJ 6 rfl (jY fo98_0 rfl) <| jj 7 rfl (jf 0 (v := .slice qa ql.length qc) rfl rfl Tryz.isAgg22 rfl) ?_
  refine jJ 8 rfl (jy ks rfl) <| jJ 9 rfl (jr rfl rfl) <| kI (by kernel_rfl) <| jB ?_
  by_cases h_1 : ((qp : Nat) : Int) < ((ql.length : Nat) : Int)
  · have hu8 := UInt8.toNat_lt (ql.getD qp 0)
    refine jQ (cB (dT h_1)) <| jD <| jq [cb qb qa qc ql qp (IntKind.i64.wrap ((IntKind.i64.wrap (qs * 6364136223846793005)) + 1442695040888963407))] 14 mixed (by simp) <| jJ 0 rfl (jC (v := iv (Go.bits .and .i64 (Go.bits .xor .i64 ((IntKind.i64.wrap ((IntKind.i64.wrap (qs * 6364136223846793005)) + 1442695040888963407)) / 2 ^ (33 : Int).toNat) ((IntKind.i64.wrap ((IntKind.i64.wrap (qs * 6364136223846793005)) + 1442695040888963407)) / 2 ^ (45 : Int).toNat)) 255)) rfl) <| jJ 1 rfl (jC (v := .pointer (some ⟨qb, 0, none⟩)) rfl) <| jJ 2 rfl (ka rfl) <| jJ 3 rfl (jY fo98_0 rfl) <| jj 4 rfl (jf 0 (v := .slice qa ql.length qc) rfl rfl Tryz.isAgg22 rfl) <| jJ 5 rfl (jC (v := .pointer (some ⟨qb, 0, none⟩)) rfl) <| jJ 6 rfl (ka rfl) ?_
    refine jJ 7 rfl (jY fo98_1 rfl) <| jj 8 rfl (jf 0 (v := nv qp) rfl rfl kl rfl) ?_
    obtain ⟨hr_2, hr_2b, -⟩ := sees_some hs_qa (by omega)
    refine jJ 9 rfl (kD (i := qp) ks gI hr_2 hr_2b rfl rfl (by omega)) <| jj 10 rfl (kV (v := .int .u8 (((ql.getD qp 0).toNat : Nat) : Int)) hs_qa (hpre.2) rfl Tryz.isAgg5 (atB (by omega))) <| jJ 11 rfl (PO.convI (c := (((ql.getD qp 0).toNat : Nat) : Int)) kx gD rfl (wr (by omega))) <| jJ 12 rfl (PO.addW rfl rfl) <| jJ 13 rfl (PO.bits (by simp) rfl rfl) <| jJ 14 rfl (jG (v := iv (Go.bits .and .i64 (IntKind.i64.wrap ((Go.bits .and .i64 (Go.bits .xor .i64 ((IntKind.i64.wrap ((IntKind.i64.wrap (qs * 6364136223846793005)) + 1442695040888963407)) / 2 ^ (33 : Int).toNat) ((IntKind.i64.wrap ((IntKind.i64.wrap (qs * 6364136223846793005)) + 1442695040888963407)) / 2 ^ (45 : Int).toNat)) 255) + (((ql.getD qp 0).toNat : Nat) : Int))) 255)) rfl) <| kI (by kernel_rfl) <| jB <| jF <| jA (jC (v := .pointer (some ⟨qb, 0, none⟩)) rfl) ?_
    refine jA (jC (v := .pointer (some ⟨qb, 0, none⟩)) rfl) <| jA (ka rfl) <| jA (jY fo98_1 rfl) <| jT (jf 0 (v := nv qp) rfl rfl kl rfl) <| jA (ji (c := ((qp + 1 : Nat) : Int)) rfl rfl (wr (by omega))) <| jA (ka rfl) <| jA (jY fo98_1 rfl) ?_
    refine jH rfl (ja 0 (vs := [iv ((qp + 1 : Nat) : Int)]) (cs' := [.slice qa ql.length qc, iv ((qp + 1 : Nat) : Int), iv (IntKind.i64.wrap ((IntKind.i64.wrap (qs * 6364136223846793005)) + 1442695040888963407))]) rfl rfl rfl rfl ko rfl rfl (lb rfl) rfl) ?_
    rintro _ _ rfl
    refine jE <| jB <| jD <| jF <| jA (jC (v := iv (Go.bits .and .i64 (IntKind.i64.wrap ((Go.bits .and .i64 (Go.bits .xor .i64 ((IntKind.i64.wrap ((IntKind.i64.wrap (qs * 6364136223846793005)) + 1442695040888963407)) / 2 ^ (33 : Int).toNat) ((IntKind.i64.wrap ((IntKind.i64.wrap (qs * 6364136223846793005)) + 1442695040888963407)) / 2 ^ (45 : Int).toNat)) 255) + (((ql.getD qp 0).toNat : Nat) : Int))) 255)) rfl) <| jA (jG (v := iv (Go.bits .and .i64 (IntKind.i64.wrap ((Go.bits .and .i64 (Go.bits .xor .i64 ((IntKind.i64.wrap ((IntKind.i64.wrap (qs * 6364136223846793005)) + 1442695040888963407)) / 2 ^ (33 : Int).toNat) ((IntKind.i64.wrap ((IntKind.i64.wrap (qs * 6364136223846793005)) + 1442695040888963407)) / 2 ^ (45 : Int).toNat)) 255) + (((ql.getD qp 0).toNat : Nat) : Int))) 255)) rfl) <| jE <| jB <| jM <| jU (.inl rfl) rfl (jN (v := iv (Go.bits .and .i64 (IntKind.i64.wrap ((Go.bits .and .i64 (Go.bits .xor .i64 ((IntKind.i64.wrap ((IntKind.i64.wrap (qs * 6364136223846793005)) + 1442695040888963407)) / 2 ^ (33 : Int).toNat) ((IntKind.i64.wrap ((IntKind.i64.wrap (qs * 6364136223846793005)) + 1442695040888963407)) / 2 ^ (45 : Int).toNat)) 255) + (((ql.getD qp 0).toNat : Nat) : Int))) 255)) rfl) (List.Sublist.refl _) ?_
    have hbb := and_bnd (IntKind.i64.wrap ((Go.bits .and .i64 (Go.bits .xor .i64 ((IntKind.i64.wrap ((IntKind.i64.wrap (qs * 6364136223846793005)) + 1442695040888963407)) / 2 ^ (33 : Int).toNat) ((IntKind.i64.wrap ((IntKind.i64.wrap (qs * 6364136223846793005)) + 1442695040888963407)) / 2 ^ (45 : Int).toNat)) 255) + (((ql.getD qp 0).toNat : Nat) : Int))) 255 (by decide) (by decide)
    obtain ⟨r0, hr0⟩ : ∃ r0 : Nat, Go.bits .and .i64 (IntKind.i64.wrap ((Go.bits .and .i64 (Go.bits .xor .i64 ((IntKind.i64.wrap ((IntKind.i64.wrap (qs * 6364136223846793005)) + 1442695040888963407)) / 2 ^ (33 : Int).toNat) ((IntKind.i64.wrap ((IntKind.i64.wrap (qs * 6364136223846793005)) + 1442695040888963407)) / 2 ^ (45 : Int).toNat)) 255) + (((ql.getD qp 0).toNat : Nat) : Int))) 255 = ((r0 : Nat) : Int) := ⟨(Go.bits .and .i64 (IntKind.i64.wrap ((Go.bits .and .i64 (Go.bits .xor .i64 ((IntKind.i64.wrap ((IntKind.i64.wrap (qs * 6364136223846793005)) + 1442695040888963407)) / 2 ^ (33 : Int).toNat) ((IntKind.i64.wrap ((IntKind.i64.wrap (qs * 6364136223846793005)) + 1442695040888963407)) / 2 ^ (45 : Int).toNat)) 255) + (((ql.getD qp 0).toNat : Nat) : Int))) 255).toNat, by omega⟩
    rw [hr0] at hbb
    exact ⟨(qp + 1), (IntKind.i64.wrap ((IntKind.i64.wrap (qs * 6364136223846793005)) + 1442695040888963407)), r0, by omega, by omega, congrArg (Value.int .i64) hr0, rfl⟩
  refine jR (cB (dF h_1)) <| jW <| jB <| jD <| jF <| jA (jC (v := iv (Go.bits .and .i64 (Go.bits .xor .i64 ((IntKind.i64.wrap ((IntKind.i64.wrap (qs * 6364136223846793005)) + 1442695040888963407)) / 2 ^ (33 : Int).toNat) ((IntKind.i64.wrap ((IntKind.i64.wrap (qs * 6364136223846793005)) + 1442695040888963407)) / 2 ^ (45 : Int).toNat)) 255)) rfl) <| jA (jG (v := iv (Go.bits .and .i64 (Go.bits .xor .i64 ((IntKind.i64.wrap ((IntKind.i64.wrap (qs * 6364136223846793005)) + 1442695040888963407)) / 2 ^ (33 : Int).toNat) ((IntKind.i64.wrap ((IntKind.i64.wrap (qs * 6364136223846793005)) + 1442695040888963407)) / 2 ^ (45 : Int).toNat)) 255)) rfl) <| jE <| jB <| jM ?_
  refine jU (.inl rfl) rfl (jN (v := iv (Go.bits .and .i64 (Go.bits .xor .i64 ((IntKind.i64.wrap ((IntKind.i64.wrap (qs * 6364136223846793005)) + 1442695040888963407)) / 2 ^ (33 : Int).toNat) ((IntKind.i64.wrap ((IntKind.i64.wrap (qs * 6364136223846793005)) + 1442695040888963407)) / 2 ^ (45 : Int).toNat)) 255)) rfl) (List.Sublist.refl _) ?_
  have hbb := and_bnd (Go.bits .xor .i64 ((IntKind.i64.wrap ((IntKind.i64.wrap (qs * 6364136223846793005)) + 1442695040888963407)) / 2 ^ (33 : Int).toNat) ((IntKind.i64.wrap ((IntKind.i64.wrap (qs * 6364136223846793005)) + 1442695040888963407)) / 2 ^ (45 : Int).toNat)) 255 (by decide) (by decide)
  obtain ⟨r0, hr0⟩ : ∃ r0 : Nat, Go.bits .and .i64 (Go.bits .xor .i64 ((IntKind.i64.wrap ((IntKind.i64.wrap (qs * 6364136223846793005)) + 1442695040888963407)) / 2 ^ (33 : Int).toNat) ((IntKind.i64.wrap ((IntKind.i64.wrap (qs * 6364136223846793005)) + 1442695040888963407)) / 2 ^ (45 : Int).toNat)) 255 = ((r0 : Nat) : Int) := ⟨(Go.bits .and .i64 (Go.bits .xor .i64 ((IntKind.i64.wrap ((IntKind.i64.wrap (qs * 6364136223846793005)) + 1442695040888963407)) / 2 ^ (33 : Int).toNat) ((IntKind.i64.wrap ((IntKind.i64.wrap (qs * 6364136223846793005)) + 1442695040888963407)) / 2 ^ (45 : Int).toNat)) 255).toNat, by omega⟩
  rw [hr0] at hbb
  exact ⟨qp, (IntKind.i64.wrap ((IntKind.i64.wrap (qs * 6364136223846793005)) + 1442695040888963407)), r0, by omega, by omega, congrArg (Value.int .i64) hr0, rfl⟩

theorem D_below (qb : Nat) (qa : Option Addr) (qc : Nat) (ql : Str) (qp : Nat) (qs : Int) (hql : ql.length ≤ 1048576) (hqp : qp ≤ ql.length) (k : Int) (hk : -9223372036854775808 ≤ k ∧ k ≤ 9223372036854775807) :
    Ct Tryz.prog 28 [.pointer (some ⟨qb, 0, none⟩), .int .i64 k] [cb qb qa qc ql qp qs] (fun w => seesC w qa qc ql [cb qb qa qc ql qp qs]) (fun v A' => ∃ qp' qs' r0, qp' ≤ ql.length ∧ (((r0 : Nat) : Int) < k ∨ r0 = 0) ∧ v = .int .i64 ((r0 : Nat) : Int) ∧ A' = [cb qb qa qc ql qp' qs']) := by
  refine Ct.intro Tryz.func28 rfl Tryz.ntmps28 (lb rfl) fun w0 hpre => ?_
  have hs_qa : Sees w0 _ _ _ _ := hpre.1
  refine jD <| jF <| jA (jG (v := iv 0) rfl) <| jE <| jB <| jD <| jD <| jF <| jA (jC (v := iv k) rfl) <| jA (PO.leq rfl rfl) ?_
  refine jE <| jB ?_
  by_cases h_1 : k ≤ 0
  · refine jQ (cB (dT h_1)) <| jD <| jF <| jA (jG (v := iv 0) rfl) <| jE <| jB <| jM <| jb <| jU (.inl rfl) rfl (jN (v := iv 0) rfl) (List.Sublist.refl _) ?_
    exact ⟨qp, qs, 0, (by omega), (.inr rfl), rfl, rfl⟩
  obtain ⟨kk, hkk⟩ : ∃ kk : Nat, k = ((kk : Nat) : Int) := ⟨k.toNat, by omega⟩
  refine jR (cB (dF h_1)) <| jW <| jB <| jD <| jD <| jF <| jA (jC (v := nv kk) (congrArg (Value.int .i64) hkk)) <| jA (PO.leq rfl rfl) <| jE <| jB ?_
  by_cases h_2 : ((kk : Nat) : Int) ≤ 256
  · refine jQ (cB (dT h_2)) <| jD <| jF <| jA (jC (v := .pointer (some ⟨qb, 0, none⟩)) rfl) ?_
    refine jH rfl (jI [0] Tryz.call59 rfl (D_byte qb qa qc ql qp qs (by omega) (by omega)) rfl (fun w hw => ⟨hw.seeOut_ hs_qa (hpre.2), hw.apart hs_qa (hpre.2) (by simp)⟩)) ?_
    rintro _ _ ⟨_, ⟨qp_3, qs_4, n_6, fq_5, f_7, rfl, rfl⟩, rfl⟩
    refine jA (jC (v := nv kk) (congrArg (Value.int .i64) hkk)) <| jA (PO.remN (c := ((n_6 % kk : Nat) : Int)) rfl rfl (by omega) (by omega) (by omega)) <| jA (jG (v := iv ((n_6 % kk : Nat) : Int)) rfl) <| jE <| jB <| jM <| jb <| jU (.inl rfl) rfl (jN (v := iv ((n_6 % kk : Nat) : Int)) rfl) (List.Sublist.refl _) ?_
    exact ⟨qp_3, qs_4, (n_6 % kk), (by omega), (.inl (by have hm_ := Nat.mod_lt (n_6) (show 0 < kk by omega); omega)), rfl, rfl⟩
  refine jR (cB (dF h_2)) <| jW <| jB <| jD <| jF <| jA (jC (v := .pointer (some ⟨qb, 0, none⟩)) rfl) ?_
  refine jH rfl (jI [0] Tryz.call59 rfl (D_byte qb qa qc ql qp qs (by omega) (by omega)) rfl (fun w hw => ⟨hw.seeOut_ hs_qa (hpre.2), hw.apart hs_qa (hpre.2) (by simp)⟩)) ?_
  rintro _ _ ⟨_, ⟨qp_9, qs_10, n_12, fq_11, f_13, rfl, rfl⟩, rfl⟩
  refine jA (jG (v := nv n_12) rfl) <| jE <| jB <| jD <| jF <| jA (jC (v := .pointer (some ⟨qb, 0, none⟩)) rfl) ?_
  refine jH rfl (jI [0] Tryz.call59 rfl (D_byte qb qa qc ql qp_9 qs_10 (by omega) (by omega)) rfl (fun w hw => ⟨hw.seeOut_ hs_qa (hpre.2), hw.apart hs_qa (hpre.2) (by simp)⟩)) ?_
  rintro _ _ ⟨_, ⟨qp_15, qs_16, n_18, fq_17, f_19, rfl, rfl⟩, rfl⟩
  refine jA (jG (v := nv n_18) rfl) <| jE <| jB <| jD <| jF <| jA (jC (v := .pointer (some ⟨qb, 0, none⟩)) rfl) ?_
  refine jH rfl (jI [0] Tryz.call59 rfl (D_byte qb qa qc ql qp_15 qs_16 (by omega) (by omega)) rfl (fun w hw => ⟨hw.seeOut_ hs_qa (hpre.2), hw.apart hs_qa (hpre.2) (by simp)⟩)) ?_
  rintro _ _ ⟨_, ⟨qp_21, qs_22, n_24, fq_23, f_25, rfl, rfl⟩, rfl⟩
  refine jA (jG (v := nv n_24) rfl) <| jE <| jB <| jD <| jF <| jA (jC (v := .pointer (some ⟨qb, 0, none⟩)) rfl) ?_
  refine jH rfl (jI [0] Tryz.call59 rfl (D_byte qb qa qc ql qp_21 qs_22 (by omega) (by omega)) rfl (fun w hw => ⟨hw.seeOut_ hs_qa (hpre.2), hw.apart hs_qa (hpre.2) (by simp)⟩)) ?_
  rintro _ _ ⟨_, ⟨qp_27, qs_28, n_30, fq_29, f_31, rfl, rfl⟩, rfl⟩
  refine jA (jG (v := nv n_30) rfl) <| jE <| jB <| jD <| jF <| jA (jC (v := nv n_12) rfl) <| jA (PO.mul (c := ((n_12 * 16777216 : Nat) : Int)) rfl rfl (wr (by omega))) <| jA (jC (v := nv n_18) rfl) <| jA (PO.mul (c := ((n_18 * 65536 : Nat) : Int)) rfl rfl (wr (by omega))) <| jA (ji (c := (((n_12 * 16777216) + (n_18 * 65536) : Nat) : Int)) rfl rfl (wr (by omega))) ?_
  refine jA (jC (v := nv n_24) rfl) <| jA (PO.mul (c := ((n_24 * 256 : Nat) : Int)) rfl rfl (wr (by omega))) <| jA (ji (c := ((((n_12 * 16777216) + (n_18 * 65536)) + (n_24 * 256) : Nat) : Int)) rfl rfl (wr (by omega))) <| jA (jC (v := nv n_30) rfl) <| jA (ji (c := (((((n_12 * 16777216) + (n_18 * 65536)) + (n_24 * 256)) + n_30 : Nat) : Int)) rfl rfl (wr (by omega))) <| jA (jC (v := nv kk) (congrArg (Value.int .i64) hkk)) <| jA (PO.remN (c := ((((((n_12 * 16777216) + (n_18 * 65536)) + (n_24 * 256)) + n_30) % kk : Nat) : Int)) rfl rfl (by omega) (by omega) (by omega)) <| jA (jG (v := iv ((((((n_12 * 16777216) + (n_18 * 65536)) + (n_24 * 256)) + n_30) % kk : Nat) : Int)) rfl) <| jE <| jB ?_
  refine jM <| jU (.inl rfl) rfl (jN (v := iv ((((((n_12 * 16777216) + (n_18 * 65536)) + (n_24 * 256)) + n_30) % kk : Nat) : Int)) rfl) (List.Sublist.refl _) ?_
  exact ⟨qp_27, qs_28, (((((n_12 * 16777216) + (n_18 * 65536)) + (n_24 * 256)) + n_30) % kk), (by omega), (.inl (by have hm_ := Nat.mod_lt (((((n_12 * 16777216) + (n_18 * 65536)) + (n_24 * 256)) + n_30)) (show 0 < kk by omega); omega)), rfl, rfl⟩

theorem D_new (pa : Option Addr) (pc : Nat) (p : Str) (hp : p.length ≤ 1048576)  :
    Ct Tryz.prog 27 [.slice pa p.length pc] [] (fun w => Sees w (.slice pa p.length pc) 1 p.length (p.map encB)) (fun v A' => ∃ r0 r0s, True ∧ v = .pointer (some ⟨r0, 0, none⟩) ∧ A' = [cb r0 pa pc p 0 r0s]) := by
  refine Ct.intro Tryz.func27 rfl Tryz.ntmps27 (lb rfl) fun w0 hpre => ?_
  have hs_pa : Sees w0 _ _ _ _ := hpre
  refine jD <| jF <| jA (jG (v := .pointer none) rfl) <| jE <| jB <| jD <| jF <| jA (jC (v := .slice pa p.length pc) rfl) <| jA (jy ks rfl) <| jA (ji (c := ((94701 + p.length : Nat) : Int)) rfl rfl (wr (by omega))) ?_
  refine jA (jG (v := iv ((94701 + p.length : Nat) : Int)) rfl) <| jE <| jB <| jD <| jD <| jF <| jA (jG (v := iv 0) rfl) <| jE <| jB <| jl ?_
  refine kE (fun k_ e_ L_ => ∃ i_ : Nat, ∃ s_ : Int, (i_ ≤ p.length) ∧ (0 ≤ s_ ∧ s_ ≤ 1073741823) ∧ e_ 0 = .slice pa p.length pc ∧ e_ 2 = .pointer none ∧ e_ 3 = iv s_ ∧ e_ 4 = nv i_ ∧ L_ = [] ∧ k_ = 1048577 - i_) _ ⟨0, ((94701 + p.length : Nat) : Int), (by omega), (by omega), rfl, rfl, rfl, rfl, rfl, rfl⟩ ?_
  rintro _ e_1 _ ⟨i_, s_, hi, hs, he_2, he_3, he_4, he_5, rfl, rfl⟩
  refine jD <| jD <| jF <| jA (jC (v := nv i_) he_5) <| jA (jC (v := .slice pa p.length pc) he_2) <| jA (jy ks rfl) <| jA (jr rfl rfl) <| jA (jC (v := .bool (decide (((i_ : Nat) : Int) < ((p.length : Nat) : Int)))) rfl) ?_
  by_cases h_6 : ((i_ : Nat) : Int) < ((p.length : Nat) : Int)
  · have hu8 := UInt8.toNat_lt (p.getD i_ 0)
    refine jX rfl rfl rfl (cB (dT h_6)) (jZ (jd (jC (v := nv i_) he_5))) ?_
    rintro _ _ ⟨rfl, rfl⟩
    refine jX rfl rfl rfl (cB (dT h_6)) (jZ (jd (jr rfl rfl))) ?_
    rintro _ _ ⟨rfl, rfl⟩
    refine jA (jw (v := .bool (decide (((i_ : Nat) : Int) < 4000))) (cB (dT h_6)) rfl) <| jE <| jB ?_
    by_cases h_7 : ((i_ : Nat) : Int) < 4000
    · refine jQ (cB (dT h_7)) <| jW <| jB <| jD <| jl <| jF <| jA (jC (v := iv s_) he_4) <| jA (PO.mul (c := s_ * 131) rfl rfl (wr (by omega))) <| jA (jC (v := .slice pa p.length pc) he_2) <| jA (jC (v := nv i_) he_5) ?_
      obtain ⟨hr_8, hr_8b, -⟩ := sees_some hs_pa (by omega)
      refine jA (kD (i := i_) ks gI hr_8 hr_8b rfl rfl (by omega)) <| jT (kV (v := .int .u8 (((p.getD i_ 0).toNat : Nat) : Int)) hs_pa nM rfl Tryz.isAgg5 (atB (by omega))) <| jA (PO.convI (c := (((p.getD i_ 0).toNat : Nat) : Int)) kx gD rfl (wr (by omega))) <| jA (ji (c := (s_ * 131) + (((p.getD i_ 0).toNat : Nat) : Int)) rfl rfl (wr (by omega))) <| jA (ji (c := ((s_ * 131) + (((p.getD i_ 0).toNat : Nat) : Int)) + 7) rfl rfl (wr (by omega))) <| jA (PO.bits (by simp) rfl rfl) <| jA (jG (v := iv (Go.bits .and .i64 (((s_ * 131) + (((p.getD i_ 0).toNat : Nat) : Int)) + 7) 1073741823)) rfl) <| jE <| jk <| jB ?_
      refine jF <| jA (jC (v := nv i_) he_5) <| jA (ji (c := ((i_ + 1 : Nat) : Int)) rfl rfl (wr (by omega))) <| jA (jG (v := iv ((i_ + 1 : Nat) : Int)) rfl) <| jE <| jt [] (A := []) rfl ?_
      refine ju (1048577 - (i_ + 1)) (by omega) ⟨(i_ + 1), (Go.bits .and .i64 (((s_ * 131) + (((p.getD i_ 0).toNat : Nat) : Int)) + 7) 1073741823), (by omega), (and_bnd _ _ (by decide) (by decide)), he_2, he_3, rfl, rfl, rfl, rfl⟩
    refine jR (cB (dF h_7)) <| kB <| jm <| jm <| kC <| jB <| jD <| jF <| jA (jC (v := .slice pa p.length pc) he_2) <| jA (jC (v := iv s_) he_4) ?_
    refine jA (kN (ps := [(0, .slice pa p.length pc), (2, iv s_)]) (cs := [.slice pa p.length pc, iv 0, iv s_]) rfl (by kernel_rfl)) ?_
    refine jH rfl (jv (cs := [.slice pa p.length pc, iv 0, iv s_]) rfl rfl) ?_
    rintro _ _ ⟨b_9, rfl, rfl⟩
    refine jA (jG (v := .pointer (some ⟨b_9, 0, none⟩)) rfl) <| jE <| jB <| jM <| jU (.inl rfl) rfl (jN (v := .pointer (some ⟨b_9, 0, none⟩)) rfl) (List.Sublist.refl _) ?_
    exact ⟨b_9, s_, trivial, rfl, rfl⟩
  refine jO (b := false) rfl rfl rfl (cB (dF h_6)) <| jO (b := false) rfl rfl rfl (cB (dF h_6)) <| jA (js (v := .bool false) (cB (dF h_6)) rfl) <| jE <| jB <| jR (cB rfl) <| kB <| jm <| jm <| kC ?_
  refine jB <| jD <| jF <| jA (jC (v := .slice pa p.length pc) he_2) <| jA (jC (v := iv s_) he_4) <| jA (kN (ps := [(0, .slice pa p.length pc), (2, iv s_)]) (cs := [.slice pa p.length pc, iv 0, iv s_]) rfl (by kernel_rfl)) ?_
  refine jH rfl (jv (cs := [.slice pa p.length pc, iv 0, iv s_]) rfl rfl) ?_
  rintro _ _ ⟨b_10, rfl, rfl⟩
  refine jA (jG (v := .pointer (some ⟨b_10, 0, none⟩)) rfl) <| jE <| jB <| jM <| jU (.inl rfl) rfl (jN (v := .pointer (some ⟨b_10, 0, none⟩)) rfl) (List.Sublist.refl _) ?_
  exact ⟨b_10, s_, trivial, rfl, rfl⟩

end Go.Proofs.YtghfijncihbojaaGreatDoor

set_option linter.unusedSimpArgs false
set_option linter.unusedVariables false
set_option linter.unnecessarySimpa false
namespace Go.Proofs.YtghfijncihbojaaGreatDoor
open Go Go.RowKit

def MS.empty : MS := ⟨[], [], []⟩
end Go.Proofs.YtghfijncihbojaaGreatDoor

set_option linter.unusedSimpArgs false
set_option linter.unusedVariables false
set_option linter.unnecessarySimpa false
namespace Go.Proofs.YtghfijncihbojaaGreatDoor
open Go Go.RowKit
theorem Ct.toMach {P : Program} {f : FuncId} {args : List Value} {A : List Res} {Pre : World → Prop} {s : List Cell} {n : Nat} (h : Ct P f args A Pre (fun v A' => ∃ a c, v = .agg #[.slice a s.length c, .slice none 0 0, .slice none 0 0] ∧ A' = [rC a c s])) (hO : okC' n 64 s) :
    Ct P f args A Pre (fun v A' => ∃ r0x r0, (fun s => (⟨s, [], []⟩ : MS)) s = r0 ∧ r0.ok n 0 ∧ v = mv r0x r0 ∧ A' = mr r0x r0) := fun w hA hp => by
  refine (h w hA hp).mono fun e w' h => ?_
  obtain ⟨v, A', rfl, ⟨a, c, rfl, rfl⟩, hst⟩ := h
  refine ⟨_, mr ⟨a, c, none, 0, none, 0⟩ ⟨s, [], []⟩, rfl, ⟨⟨a, c, none, 0, none, 0⟩, _, rfl, ⟨hO.1, Nat.le_refl _, Nat.le_refl _, fun c hc => ⟨Nat.le_trans (hO.2 c hc).1 (by decide), Nat.le_trans (hO.2 c hc).2 (by decide)⟩⟩, rfl, rfl⟩, ?_⟩
  exact ((hst.nilRow 9 1).nilRow 9 1).perm (List.perm_append_comm (l₁ := [rS none 0 [], rS none 0 []]) (l₂ := [rC a c s])).symm
attribute [local irreducible] JL JC JQ JO LO PO JA JX Ct

theorem D_machOf0 (sa : Option Addr) (sc : Nat) (s : List Cell) (hs : s.length ≤ 1000000000) :
    Ct Tryz.prog 34 [.slice sa s.length sc] [] (fun w => Sees w (.slice sa s.length sc) 2 s.length (s.flatMap encC)) (fun v A' => ∃ a c, v = .agg #[.slice a s.length c, .slice none 0 0, .slice none 0 0] ∧ A' = [rC a c s]) := by
  refine Ct.intro Tryz.func34 rfl Tryz.ntmps34 (lb rfl) fun w0 hpre => ?_
  have hs_sa : Sees w0 _ _ _ _ := hpre
  refine jD <| jF ?_
  refine jH rfl (jh (z := zM) (cs := zC) kj rfl) ?_
  rintro _ _ ⟨b_1, rfl, rfl⟩
  refine jE <| jB <| jD <| jF ?_
  refine jH rfl (kH (ps := []) (cur := #[]) ki kp gJ rfl (by kernel_rfl) (by decide) (by decide)) ?_
  rintro _ _ ⟨a_2, rfl, rfl⟩
  refine jA (jC (v := .slice sa s.length sc) rfl) ?_
  refine jH rfl (kG 0 (q := s.length) (news := s.flatMap encC) (n' := s.length) (cs' := s.flatMap encC) rfl ki ki gN rfl (by' := 32) rfl rfl rfl rfl rfl (fun w hw => Src.sees (hw.seeOut_ hs_sa nM) (oneC _)) (by (try simp only [LE]); omega) (by (try simp only [LE]); omega) (by (try simp only [List.length_take, List.length_drop]); first | rfl | omega) rfl) ?_
  rintro _ _ ⟨a_3, c_4, rfl, rfl⟩
  refine jA (kN (ps := [(0, .slice a_3 s.length c_4)]) (cs := [.slice a_3 s.length c_4, .slice none 0 0, .slice none 0 0]) rfl (by kernel_rfl)) ?_
  refine jH rfl (ja 1 (vs := [.slice a_3 s.length c_4, .slice none 0 0, .slice none 0 0]) (cs' := [.slice a_3 s.length c_4, .slice none 0 0, .slice none 0 0]) rfl rfl rfl rfl gB rfl rfl (lb rfl) rfl) ?_
  rintro _ _ rfl
  refine jE <| jB <| jM <| jU (.inl rfl) rfl (jg (je 1 (vs := [.slice a_3 s.length c_4, .slice none 0 0, .slice none 0 0]) rfl rfl gK gB rfl rfl) ⟨_, rfl⟩) (tS 1 _) ?_
  exact ⟨a_3, c_4, rfl, rfl⟩

theorem D_machOf (sa : Option Addr) (sc : Nat) (s : List Cell) (hs : s.length ≤ 1000000000) (n : Nat) (hO : okC' n 64 s) :
    Ct Tryz.prog 34 [.slice sa s.length sc] [] (fun w => Sees w (.slice sa s.length sc) 2 s.length (s.flatMap encC)) (fun v A' => ∃ r0x r0, (fun s => (⟨s, [], []⟩ : MS)) s = r0 ∧ r0.ok n 0 ∧ v = mv r0x r0 ∧ A' = mr r0x r0) := (D_machOf0 sa sc s hs).toMach hO

end Go.Proofs.YtghfijncihbojaaGreatDoor
