/-
  Calls on a machine, in place and in the reference (part 14).
-/
import Derived.Test.YthdgcbdfcclgbaaGreatDoorDatD
set_option linter.unusedSimpArgs false
set_option linter.unusedVariables false
set_option linter.unnecessarySimpa false
namespace Go.Proofs.YthdgcbdfcclgbaaGreatDoor
open Go Go.RowKit
attribute [local irreducible] JL JC JQ JO LO PO JA JX Ct

theorem N_begins (s : Str) (p : Str) (hs : s.length ≤ 1000000000000) (hp : p.length ≤ 1000000000000) :
    Ct Tryz.prog 169 [str s, str p] ([]) (fun _ => True) (fun v A' => ∃ r0, prefixB s p = r0 ∧ v = .bool r0 ∧ A' = []) := by
  refine Ct.intro Tryz.func169 rfl Tryz.ntmps169 (lb rfl) fun w0 hpre => ?_
  refine jD <| jF <| jA (jG (v := .bool false) rfl) <| jE <| jB <| jD <| jF <| jA (jC (v := str s) rfl) <| jA (kJ kY rfl) <| jA (jC (v := str p) rfl) ?_
  refine jA (kJ kY rfl) <| jA (kT rfl rfl) <| jA (jC (v := .bool (decide ((p.length : Int) ≤ (s.length : Int)))) rfl) ?_
  by_cases h_1 : (p.length : Int) ≤ (s.length : Int)
  · refine jb rfl rfl rfl (cB (dT h_1)) (ja (jd (jC (v := str s) rfl))) ?_
    rintro _ _ ⟨rfl, rfl⟩
    refine jb rfl rfl rfl (cB (dT h_1)) (ja (jd (jC (v := str p) rfl))) ?_
    rintro _ _ ⟨rfl, rfl⟩
    refine jb rfl rfl rfl (cB (dT h_1)) (ja (jd (kJ kY rfl))) ?_
    rintro _ _ ⟨rfl, rfl⟩
    refine jb rfl rfl rfl (cB (dT h_1)) (ja (jd (PO.sliceSh (j := p.length) kY rfl rfl (by omega)))) ?_
    rintro _ _ ⟨rfl, rfl⟩
    refine jb rfl rfl rfl (cB (dT h_1)) (ja (jd (jC (v := str p) rfl))) ?_
    rintro _ _ ⟨rfl, rfl⟩
    refine jb rfl rfl rfl (cB (dT h_1)) (ja (jd (PO.eqlS rfl rfl))) ?_
    rintro _ _ ⟨rfl, rfl⟩
    refine jA (jx (v := .bool (decide ((s.take p.length) = p))) (cB (dT h_1)) rfl) <| jA (jG (v := .bool (decide ((s.take p.length) = p))) rfl) <| jE <| jB <| jM <| jV (.inl rfl) rfl (jN (v := .bool (decide ((s.take p.length) = p))) rfl) (List.nil_sublist _) ?_
    exact ⟨(decide ((s.take p.length) = p)), (by rw [begins_eq]; first | (simp_all; done) | (simp_all; intros; omega)), rfl, rfl⟩
  refine jY (b := false) rfl rfl rfl (cB (dF h_1)) <| jY (b := false) rfl rfl rfl (cB (dF h_1)) <| jY (b := false) rfl rfl rfl (cB (dF h_1)) <| jY (b := false) rfl rfl rfl (cB (dF h_1)) <| jY (b := false) rfl rfl rfl (cB (dF h_1)) <| jY (b := false) rfl rfl rfl (cB (dF h_1)) <| jA (jw (v := .bool false) (cB (dF h_1)) rfl) <| jA (jG (v := .bool false) rfl) <| jE <| jB ?_
  refine jM <| jV (.inl rfl) rfl (jN (v := .bool false) rfl) (List.nil_sublist _) ?_
  exact ⟨false, (by rw [begins_eq]; first | (simp_all; done) | (simp_all; intros; omega)), rfl, rfl⟩

theorem N_ikeysUnder (sa : Option Addr) (sc : Nat) (s : List Cell) (p : Str) (hs : s.length ≤ 1000000000) (hp : p.length ≤ 1000000000) :
    Ct Tryz.prog 158 [.slice sa s.length sc, str p] ([]) (fun w => Sees w (.slice sa s.length sc) 2 s.length (s.flatMap encC)) (fun v A' => ∃ r0a r0c r0, keysUnder s p = r0 ∧ r0.length ≤ s.length ∧ v = .slice r0a r0.length r0c ∧ A' = [rS r0a r0c r0]) := by
  refine Ct.intro Tryz.func158 rfl Tryz.ntmps158 (lb rfl) fun w0 hpre => ?_
  have hs_sa : Sees w0 _ _ _ _ := hpre
  refine jD <| jF <| jA (jG (v := .slice none 0 0) rfl) <| jE <| jB <| jD <| jF <| jA (jG (v := .slice none 0 0) rfl) <| jE <| jB ?_
  refine jD <| jD <| jF <| jA (jC (v := .slice sa s.length sc) rfl) <| jA (kK kc rfl) <| jA (jC (v := iv 0) rfl) <| jE <| jB <| jm <| JC.nilRow 9 1 ?_
  refine kE (fun k_ e_ L_ => ∃ j : Nat, ∃ out_a : Option Addr, ∃ out_c : Nat, ∃ out_ : List Str, (j ≤ s.length) ∧ (out_.length ≤ j) ∧ (underL p (s.drop j) out_ = underL p s ([] : List Str)) ∧ e_ 1 = str p ∧ e_ 4 = .slice none 0 0 ∧ e_ 5 = .slice out_a out_.length out_c ∧ e_ 8 = .slice sa s.length sc ∧ e_ 9 = nv s.length ∧ e_ 10 = nv j ∧ L_ = [rS out_a out_c out_] ∧ k_ = s.length - j) _ ⟨0, none, 0, ([] : List Str), by omega, (by first | omega | (simp only [LE]; omega)), rfl, rfl, rfl, rfl, rfl, rfl, rfl, rfl, rfl⟩ ?_
  rintro _ e_1 _ ⟨j, out_a, out_c, out_, hj, ho, hR, he_2, he_3, he_4, he_5, he_6, he_7, rfl, rfl⟩
  refine jD <| jF <| jA (js he_7 he_6) <| jE <| jB <| jD ?_
  by_cases h_8 : ((j : Nat) : Int) < ((s.length : Nat) : Int)
  · have hlt : j < s.length := by omega
    refine jR (cB (dT h_8)) <| jU <| jB <| jD <| jm <| jD <| jF ?_
    obtain ⟨hr_9, hr_9b, -⟩ := sees_some hs_sa (by omega)
    refine jA (kH (i := j) kc ke hr_9 hr_9b he_5 he_7 (by omega)) <| jT (LO.loadSK (vs := [str ((s.getD j c0).1), str ((s.getD j c0).2)]) hs_sa nM rfl kz ke (atC (by omega)) rfl (by decide)) ?_
    refine jH rfl (jh (z := .agg #[str [], str []]) (cs := [str [], str []]) kt rfl) ?_
    rintro _ _ ⟨b_10, rfl, rfl⟩
    refine jH rfl (jc 0 (vs := [str ((s.getD j c0).1), str ((s.getD j c0).2)]) (cs' := [str ((s.getD j c0).1), str ((s.getD j c0).2)]) rfl rfl rfl rfl ke rfl rfl (lb rfl) rfl) ?_
    rintro _ _ rfl
    refine jE <| jB <| jD <| jF <| jA (jZ fo80_0 rfl) <| jT (ji 0 (v := str ((s.getD j c0).1)) rfl rfl kZ rfl) <| jA (jC (v := str p) he_2) ?_
    refine jH rfl (jI [] Tryz.call179 rfl (N_hasPrefix ((s.getD j c0).1) p) rfl (fun _ _ => trivial)) ?_
    rintro _ _ ⟨_, ⟨b_13, e_11, rfl, rfl⟩, rfl⟩
    refine jE <| jB ?_
    rcases Bool.eq_false_or_eq_true (b_13) with h_14 | h_14
    · refine jR (cB h_14) <| jF <| jA (jC (v := .slice out_a out_.length out_c) he_4) <| jA (jZ fo80_0 rfl) <| jT (ji 0 (v := str ((s.getD j c0).1)) rfl rfl kZ rfl) ?_
      refine jH rfl (kI (ps := [(0, str ((s.getD j c0).1))]) (cur := #[str ((s.getD j c0).1)]) kW ka km rfl (by kernel_rfl) (by decide) (by decide)) ?_
      rintro _ _ ⟨a_15, rfl, rfl⟩
      refine jH rfl (kF 2 (q := 1) (news := ([(s.getD j c0).1] : List Str).map str) (n' := (out_ ++ ([(s.getD j c0).1] : List Str)).length) (cs' := (out_ ++ ([(s.getD j c0).1] : List Str)).map str) rfl kW kW kj rfl (by' := 16) rfl rfl rfl rfl rfl (fun w hw => Src.sees (hw.see (i := 0) rfl) (oneS _)) (by (try simp only [LE]); omega) (by (try simp only [LE]); omega) (by simp only [List.length_append, List.length_take, List.length_drop, List.length_cons, List.length_nil] <;> first | rfl | omega) (by simp only [List.map_append])) ?_
      rintro _ _ ⟨a_16, c_17, rfl, rfl⟩
      refine jA (jG (v := .slice a_16 ((out_ ++ ([(s.getD j c0).1] : List Str)).length) c_17) rfl) <| jE <| jk <| jB <| jF <| jA (jg (c := ((j + 1 : Nat) : Int)) he_7 rfl (wr (by omega))) <| jA (jC (v := iv ((j + 1 : Nat) : Int)) rfl) <| jE <| jr [2] (A := [rS a_16 c_17 (out_ ++ ([(s.getD j c0).1] : List Str))]) rfl ?_
      refine jt (s.length - (j + 1)) (by omega) ⟨j + 1, a_16, c_17, (out_ ++ ([(s.getD j c0).1] : List Str)), by omega, (by first | omega | (simp only [LE]; omega)), (by rw [drop_at (getD_some (d := c0) hlt)] at hR; simp only [underL, h_8, e_11, h_14, SB] at hR; (repeat (first | rw [if_pos (by omega)] at hR | rw [if_neg (by omega)] at hR)); exact hR), he_2, he_3, rfl, he_5, he_6, rfl, rfl, rfl⟩
    refine jQ (cB h_14) <| jU <| jk <| jB <| jF <| jA (jg (c := ((j + 1 : Nat) : Int)) he_7 rfl (wr (by omega))) <| jA (jC (v := iv ((j + 1 : Nat) : Int)) rfl) <| jE <| jr [1] (A := [rS out_a out_c out_]) rfl ?_
    refine jt (s.length - (j + 1)) (by omega) ⟨j + 1, out_a, out_c, out_, by omega, (by first | omega | (simp only [LE]; omega)), (by rw [drop_at (getD_some (d := c0) hlt)] at hR; simp only [underL, h_8, e_11, h_14, SB] at hR; (repeat (first | rw [if_pos (by omega)] at hR | rw [if_neg (by omega)] at hR)); exact hR), he_2, he_3, he_4, he_5, he_6, rfl, rfl, rfl⟩
  rw [List.drop_of_length_le (by omega)] at hR
  simp only [underL] at hR
  have hE := hR.symm
  refine jQ (cB (dF h_8)) <| kB <| jn <| jn <| kC <| jB <| jD <| jF <| jA (jC (v := .slice out_a out_.length out_c) he_4) <| jA (jG (v := .slice out_a out_.length out_c) rfl) ?_
  refine jE <| jB <| jM <| jV (.inl rfl) rfl (jN (v := .slice out_a out_.length out_c) rfl) (List.Sublist.refl _) ?_
  exact ⟨out_a, out_c, out_, (by rw [← underL_nil]; exact hE), (by first | omega | (simp only [LE]; omega)), rfl, rfl⟩

theorem N_skeysUnder (sa : Option Addr) (sc : Nat) (s : List Cell) (p : Str) (hs : s.length ≤ 1000000000) (hp : p.length ≤ 1000000000) (hlong : ∀ j, j < s.length → (s.getD j c0).1.length ≤ 1000000000) :
    Ct Tryz.prog 153 [.slice sa s.length sc, str p] ([]) (fun w => Sees w (.slice sa s.length sc) 2 s.length (s.flatMap encC)) (fun v A' => ∃ r0a r0c r0, keysUnder s p = r0 ∧ r0.length ≤ s.length ∧ v = .slice r0a r0.length r0c ∧ A' = [rS r0a r0c r0]) := by
  refine Ct.intro Tryz.func153 rfl Tryz.ntmps153 (lb rfl) fun w0 hpre => ?_
  have hs_sa : Sees w0 _ _ _ _ := hpre
  refine jD <| jF <| jA (jG (v := .slice none 0 0) rfl) <| jE <| jB <| jD <| jF ?_
  refine jH rfl (kI (ps := []) (cur := #[]) kW ka km rfl (by kernel_rfl) (by decide) (by decide)) ?_
  rintro _ _ ⟨a_1, rfl, rfl⟩
  refine jA (jG (v := .slice a_1 0 0) rfl) <| jE <| jB <| jD <| jD <| jF <| jA (jG (v := iv 0) rfl) <| jE <| jB <| jm ?_
  refine kE (fun k_ e_ L_ => ∃ j : Nat, ∃ out_a : Option Addr, ∃ out_c : Nat, ∃ out_ : List Str, (j ≤ s.length) ∧ (out_.length ≤ j) ∧ (underL p (s.drop j) out_ = underL p s ([] : List Str)) ∧ e_ 0 = .slice sa s.length sc ∧ e_ 1 = str p ∧ e_ 4 = .slice none 0 0 ∧ e_ 5 = .slice out_a out_.length out_c ∧ e_ 6 = nv j ∧ L_ = [rS out_a out_c out_] ∧ k_ = s.length - j) _ ⟨0, a_1, 0, ([] : List Str), by omega, (by first | omega | (simp only [LE]; omega)), rfl, rfl, rfl, rfl, rfl, rfl, rfl, rfl⟩ ?_
  rintro _ e_2 _ ⟨j, out_a, out_c, out_, hj, ho, hR, he_3, he_4, he_5, he_6, he_7, rfl, rfl⟩
  refine jD <| jD <| jF <| jA (jC (v := nv j) he_7) <| jA (jC (v := .slice sa s.length sc) he_3) <| jA (kK kc rfl) <| jA (js rfl rfl) <| jE <| jB ?_
  by_cases h_8 : ((j : Nat) : Int) < ((s.length : Nat) : Int)
  · have hlt : j < s.length := by omega
    have hlj := hlong j hlt
    refine jR (cB (dT h_8)) <| jU <| jB <| jD <| jm <| jD <| jF <| jA (jC (v := .slice sa s.length sc) he_3) <| jA (jC (v := nv j) he_7) ?_
    obtain ⟨hr_9, hr_9b, -⟩ := sees_some hs_sa (by omega)
    refine jA (kH (i := j) kc ke hr_9 hr_9b rfl rfl (by omega)) <| jA (PO.fieldAddrE fo80_0 hr_9 rfl) <| jT (LO.loadS1 (v := str ((s.getD j c0).1)) hs_sa nM rfl kZ (atC1 (by omega))) <| jA (jC (v := str p) he_4) ?_
    refine jH rfl (jI [] Tryz.call169 rfl (N_begins ((s.getD j c0).1) p (by omega) (by omega)) rfl (fun _ _ => trivial)) ?_
    rintro _ _ ⟨_, ⟨b_12, e_10, rfl, rfl⟩, rfl⟩
    refine jE <| jB ?_
    rcases Bool.eq_false_or_eq_true (b_12) with h_13 | h_13
    · refine jR (cB h_13) <| jF <| jA (jC (v := .slice out_a out_.length out_c) he_6) <| jA (jC (v := .slice sa s.length sc) he_3) <| jA (jC (v := nv j) he_7) <| jA (kH (i := j) kc ke hr_9 hr_9b rfl rfl (by omega)) <| jA (PO.fieldAddrE fo80_0 hr_9 rfl) <| jT (LO.loadS1 (v := str ((s.getD j c0).1)) hs_sa nM rfl kZ (atC1 (by omega))) ?_
      refine jH rfl (kI (ps := [(0, str ((s.getD j c0).1))]) (cur := #[str ((s.getD j c0).1)]) kW ka km rfl (by kernel_rfl) (by decide) (by decide)) ?_
      rintro _ _ ⟨a_14, rfl, rfl⟩
      refine jH rfl (kF 1 (q := 1) (news := ([(s.getD j c0).1] : List Str).map str) (n' := (out_ ++ ([(s.getD j c0).1] : List Str)).length) (cs' := (out_ ++ ([(s.getD j c0).1] : List Str)).map str) rfl kW kW kj rfl (by' := 16) rfl rfl rfl rfl rfl (fun w hw => Src.sees (hw.see (i := 0) rfl) (oneS _)) (by (try simp only [LE]); omega) (by (try simp only [LE]); omega) (by simp only [List.length_append, List.length_take, List.length_drop, List.length_cons, List.length_nil] <;> first | rfl | omega) (by simp only [List.map_append])) ?_
      rintro _ _ ⟨a_15, c_16, rfl, rfl⟩
      refine jA (jG (v := .slice a_15 ((out_ ++ ([(s.getD j c0).1] : List Str)).length) c_16) rfl) <| jE <| jk <| jB <| jF <| jA (jC (v := nv j) he_7) <| jA (jg (c := ((j + 1 : Nat) : Int)) rfl rfl (wr (by omega))) <| jA (jG (v := iv ((j + 1 : Nat) : Int)) rfl) <| jE <| jr [1] (A := [rS a_15 c_16 (out_ ++ ([(s.getD j c0).1] : List Str))]) rfl ?_
      refine jt (s.length - (j + 1)) (by omega) ⟨j + 1, a_15, c_16, (out_ ++ ([(s.getD j c0).1] : List Str)), by omega, (by first | omega | (simp only [LE]; omega)), (by rw [drop_at (getD_some (d := c0) hlt)] at hR; simp only [underL, h_8, e_10, h_13, SB] at hR; (repeat (first | rw [if_pos (by omega)] at hR | rw [if_neg (by omega)] at hR)); exact hR), he_3, he_4, he_5, rfl, rfl, rfl, rfl⟩
    refine jQ (cB h_13) <| jU <| jk <| jB <| jF <| jA (jC (v := nv j) he_7) <| jA (jg (c := ((j + 1 : Nat) : Int)) rfl rfl (wr (by omega))) <| jA (jG (v := iv ((j + 1 : Nat) : Int)) rfl) <| jE <| jr [0] (A := [rS out_a out_c out_]) rfl ?_
    refine jt (s.length - (j + 1)) (by omega) ⟨j + 1, out_a, out_c, out_, by omega, (by first | omega | (simp only [LE]; omega)), (by rw [drop_at (getD_some (d := c0) hlt)] at hR; simp only [underL, h_8, e_10, h_13, SB] at hR; (repeat (first | rw [if_pos (by omega)] at hR | rw [if_neg (by omega)] at hR)); exact hR), he_3, he_4, he_5, he_6, rfl, rfl, rfl⟩
  rw [List.drop_of_length_le (by omega)] at hR
  simp only [underL] at hR
  have hE := hR.symm
  refine jQ (cB (dF h_8)) <| kB <| jn <| jn <| kC <| jB <| jD <| jF <| jA (jC (v := .slice out_a out_.length out_c) he_6) <| jA (jG (v := .slice out_a out_.length out_c) rfl) ?_
  refine jE <| jB <| jM <| jV (.inl rfl) rfl (jN (v := .slice out_a out_.length out_c) rfl) (List.Sublist.refl _) ?_
  exact ⟨out_a, out_c, out_, (by rw [← underL_nil]; exact hE), (by first | omega | (simp only [LE]; omega)), rfl, rfl⟩

theorem N_under (p : Nat) (x : MA) (m : MS) {S T : Nat} (hk : m.ok S T) (hS : S ≤ 900000000) (hT : T ≤ 900000000) (p_ : Str) (hp_ : p_.length ≤ 100000000) :
    Ct Tryz.prog 130 [.pointer (some ⟨p, 0, none⟩), str p_] (mb p x m :: mr x m) (fun _ => True) (fun v A' => ∃ x' m' r0a r0c r0, MS.under m p_ = (m', r0) ∧ m'.ok (S) (T + 1) ∧ okL S p_.length r0 ∧ v = .slice r0a r0.length r0c ∧ A' = mb p x' m' :: mr x' m' ++ [rS r0a r0c r0]) := by
  obtain ⟨hk0, hk1, hk2, hk3⟩ := id hk
  refine Ct.intro Tryz.func130 rfl Tryz.ntmps130 (lb rfl) fun w0 hpre => ?_
  refine jD <| jF <| jA (jG (v := .slice none 0 0) rfl) <| jE <| jB <| jD <| jF <| jA (jC (v := pv p) rfl) <| jA (jC (v := pv p) rfl) <| jA (PO.nilCheck rfl) ?_
  refine jA (jZ fo35_1 rfl) <| jA (jZ fo33_0 rfl) <| jT (ji 0 (v := .slice x.a1 m.r.length x.c1) rfl rfl ko rfl) <| jA (jC (v := str p_) rfl) <| jA (kO rfl rfl (by (try simp only [List.length_append, List.length_cons, List.length_nil, List.length_drop, List.length_take]); omega)) ?_
  refine jH rfl (jI [2] Tryz.call156 rfl (C_addSpan x.a1 x.c1 m.r (p_ ++ [42]) (by omega)) rfl (fun _ _ => trivial)) ?_
  rintro _ _ ⟨_, ⟨a_1, c_2, rfl, rfl⟩, rfl⟩
  refine jA (PO.nilCheck rfl) <| jA (jZ fo35_1 rfl) <| jA (jZ fo33_0 rfl) ?_
  refine jH rfl (jc 1 (vs := [.slice a_1 ((addSpan m.r (p_ ++ [42])).length) c_2]) (cs' := [.slice x.a0 m.s.length x.c0, .slice a_1 ((addSpan m.r (p_ ++ [42])).length) c_2, .slice x.a2 m.w.length x.c2]) rfl rfl rfl rfl Tryz.sizeOf23 rfl rfl (lb rfl) rfl) ?_
  rintro _ _ rfl
  refine jE <| jB <| jD <| jF <| jA (jC (v := pv p) rfl) <| jA (PO.nilCheck rfl) <| jA (jZ fo35_0 rfl) <| jT (ji 1 (v := .slice x.a0 m.s.length x.c0) rfl rfl gA rfl) <| jA (jC (v := str p_) rfl) ?_
  refine jH rfl (jI [] Tryz.call158 rfl (N_ikeysUnder x.a0 x.c0 m.s p_ (by have hl_ := hk.1; omega) (by omega)) rfl (fun w hw => hw.see (i := 2) rfl)) ?_
  rintro _ _ ⟨_, ⟨l_5a, l_5c, l_5, e_3, f_6, rfl, rfl⟩, rfl⟩
  refine jA (jG (v := .slice l_5a l_5.length l_5c) rfl) <| jE <| jB <| jM <| kL (pick_perm [2, 2, 1, 1, 0] (A := [bk p 35 [.slice x.a0 m.s.length x.c0, .slice a_1 ((addSpan m.r (p_ ++ [42])).length) c_2, .slice x.a2 m.w.length x.c2], rC x.a0 x.c0 m.s, rS a_1 c_2 (addSpan m.r (p_ ++ [42])), rS x.a2 x.c2 m.w, rS l_5a l_5c l_5]) (F := []) rfl).symm <| jV (.inl rfl) rfl (jN (v := .slice l_5a l_5.length l_5c) rfl) (tS 5 _) ?_
  subst e_3
  exact ⟨⟨x.a0, x.c0, a_1, c_2, x.a2, x.c2⟩, (m.under p_).1, l_5a, l_5c, _, rfl, hk.under p_, keysUnder_ok hk p_, rfl, rfl⟩

theorem N_sUnder (x : MA) (m : MS) {S T : Nat} (hk : m.ok S T) (hS : S ≤ 900000000) (hT : T ≤ 900000000) (p_ : Str) (hp_ : p_.length ≤ 100000000) :
    Ct Tryz.prog 106 [mv x m, str p_] (mr x m) (fun _ => True) (fun v A' => ∃ x' m' r0a r0c r0, MS.under m p_ = (m', r0) ∧ m'.ok (S) (T + 1) ∧ okL S p_.length r0 ∧ v = .tuple #[mv x' m', .slice r0a r0.length r0c] ∧ A' = mr x' m' ++ [rS r0a r0c r0]) := by
  obtain ⟨hk0, hk1, hk2, hk3⟩ := id hk
  refine Ct.intro Tryz.func106 rfl Tryz.ntmps106 (lb rfl) fun w0 hpre => ?_
  refine jD <| jF ?_
  refine jH rfl (jv (cs := (mc x m)) rfl rfl) ?_
  rintro _ _ ⟨b_1, rfl, rfl⟩
  refine jH rfl (jh (z := zM) (cs := zC) kd rfl) ?_
  rintro _ _ ⟨b_2, rfl, rfl⟩
  refine jA (jG (v := .slice none 0 0) rfl) <| jE <| jB <| jD <| jF <| jA (jZ fo35_1 rfl) <| jA (jZ fo33_0 rfl) <| jT (ji 1 (v := .slice x.a1 m.r.length x.c1) rfl rfl ko rfl) <| jA (jC (v := str p_) rfl) <| jA (kO rfl rfl (by (try simp only [List.length_append, List.length_cons, List.length_nil, List.length_drop, List.length_take]); omega)) ?_
  refine jH rfl (jI [] Tryz.call116 rfl (C_sAddSpan x.a1 x.c1 m.r (p_ ++ [42]) (by omega)) rfl (fun w hw => hw.see (i := 3) rfl)) ?_
  rintro _ _ ⟨_, ⟨a_3, c_4, rfl, rfl⟩, rfl⟩
  refine jA (jZ fo35_1 rfl) <| jA (jZ fo33_0 rfl) ?_
  refine jH rfl (jc 2 (vs := [.slice a_3 ((addSpan m.r (p_ ++ [42])).length) c_4]) (cs' := [.slice x.a0 m.s.length x.c0, .slice a_3 ((addSpan m.r (p_ ++ [42])).length) c_4, .slice x.a2 m.w.length x.c2]) rfl rfl rfl rfl Tryz.sizeOf23 rfl rfl (lb rfl) rfl) ?_
  rintro _ _ rfl
  refine jE <| jB <| jD <| jq [bk b_1 35 [.slice x.a0 m.s.length x.c0, .slice a_3 ((addSpan m.r (p_ ++ [42])).length) c_4, .slice x.a2 m.w.length x.c2]] 6 mixed (by simp) <| jl 0 rfl (jf 0 (vs := [.slice x.a0 m.s.length x.c0, .slice a_3 ((addSpan m.r (p_ ++ [42])).length) c_4, .slice x.a2 m.w.length x.c2]) rfl rfl ku kp rfl rfl) <| jK 1 rfl (jZ fo35_0 rfl) <| jl 2 rfl (ji 0 (v := .slice x.a0 m.s.length x.c0) rfl rfl gA rfl) <| jK 3 rfl (jC (v := str p_) rfl) <| jL (i := 4) ?_
  refine jO rfl rfl (jI [] Tryz.call153 rfl (N_skeysUnder x.a0 x.c0 m.s p_ (by have hl_ := hk.1; omega) (by omega) (fun j hj => Nat.le_trans (hk.2.2.2 _ (getD_mem hj)).1 (by decide))) rfl (fun w hw => hw.see (i := 3) rfl)) ?_
  rintro _ _ ⟨_, ⟨l_11a, l_11c, l_11, e_9, f_12, rfl, rfl⟩, rfl⟩
  refine ⟨(by simp), ?_⟩
  refine jL (i := 5) ?_
  refine jO rfl rfl (jc 2 (vs := [.slice x.a0 m.s.length x.c0, .slice a_3 ((addSpan m.r (p_ ++ [42])).length) c_4, .slice x.a2 m.w.length x.c2]) (cs' := [.slice x.a0 m.s.length x.c0, .slice a_3 ((addSpan m.r (p_ ++ [42])).length) c_4, .slice x.a2 m.w.length x.c2]) rfl rfl rfl rfl kp rfl rfl (lb rfl) rfl) ?_
  rintro _ _ rfl
  refine ⟨(by simp), ?_⟩
  refine jK 6 rfl (jG (v := .slice l_11a l_11.length l_11c) rfl) <| kG (by kernel_rfl) <| jB <| jM <| kL (pick_perm [4, 1, 4, 0] (A := [rC x.a0 x.c0 m.s, rS a_3 c_4 (addSpan m.r (p_ ++ [42])), rS x.a2 x.c2 m.w, rS l_11a l_11c l_11]) (F := [bk b_2 35 [.slice x.a0 m.s.length x.c0, .slice a_3 ((addSpan m.r (p_ ++ [42])).length) c_4, .slice x.a2 m.w.length x.c2], bk b_1 35 [.slice x.a0 m.s.length x.c0, .slice a_3 ((addSpan m.r (p_ ++ [42])).length) c_4, .slice x.a2 m.w.length x.c2], rS x.a1 x.c1 m.r]) rfl).symm <| jj (.inl rfl) rfl (je (jf 4 (vs := [.slice x.a0 m.s.length x.c0, .slice a_3 ((addSpan m.r (p_ ++ [42])).length) c_4, .slice x.a2 m.w.length x.c2]) rfl rfl ku kp rfl rfl) ⟨_, rfl⟩) (jN (v := .slice l_11a l_11.length l_11c) rfl) (tS 4 _) ?_
  subst e_9
  exact ⟨⟨x.a0, x.c0, a_3, c_4, x.a2, x.c2⟩, (m.under p_).1, l_11a, l_11c, _, rfl, hk.under p_, keysUnder_ok hk p_, rfl, rfl⟩

theorem N_wipe (p : Nat) (x : MA) (m : MS) {S T : Nat} (hk : m.ok S T) (hS : S ≤ 400000000) (hT : T ≤ 400000000) (p_ : Str) (hp_ : p_.length ≤ 100000000) :
    Ct Tryz.prog 128 [.pointer (some ⟨p, 0, none⟩), str p_] (mb p x m :: mr x m) (fun _ => True) (fun v A' => ∃ x' m', MS.wipe' m p_ = m' ∧ m'.ok (S) (T + S + 1) ∧ v = .tuple #[] ∧ A' = mb p x' m' :: mr x' m') := by
  refine Ct.intro Tryz.func128 rfl Tryz.ntmps128 (lb rfl) fun w0 hpre => ?_
  refine jD <| jF <| jA (jC (v := pv p) rfl) <| jA (jC (v := str p_) rfl) ?_
  refine jH rfl (jI [0, 0, 0, 0] Tryz.call130 rfl (N_under p x m hk (by omega) (by omega) p_ (by omega)) rfl (fun _ _ => trivial)) ?_
  rintro _ _ ⟨_, ⟨x_3, m_4, l_5a, l_5c, l_5, e_1, k_2, f_6, rfl, rfl⟩, rfl⟩
  refine jA (kK kW rfl) <| jA (jC (v := iv 0) rfl) <| jE <| jB <| jm ?_
  have hll := f_6.1
  refine kE (fun k_ e_ L_ => ∃ j : Nat, ∃ x : MA, ∃ mm : MS, (j ≤ l_5.length) ∧ (mm.ok (S) (T + 1 + j)) ∧ (MS.wipeL (l_5.drop j) mm = MS.wipeL l_5 m_4) ∧ e_ 0 = pv p ∧ e_ 8 = .slice l_5a l_5.length l_5c ∧ e_ 9 = nv l_5.length ∧ e_ 10 = nv j ∧ L_ = [mb p x mm, rC x.a0 x.c0 mm.s, rS x.a1 x.c1 mm.r, rS x.a2 x.c2 mm.w, rS l_5a l_5c l_5] ∧ k_ = l_5.length - j) _ ⟨0, x_3, m_4, by omega, (k_2.mono (by omega) (by omega)), rfl, rfl, rfl, rfl, rfl, rfl, rfl⟩ ?_
  rintro _ e_7 _ ⟨j, x, mm, hj, hkmm, hR, he_8, he_9, he_10, he_11, rfl, rfl⟩
  refine jD <| jF <| jA (js he_11 he_10) <| jE <| jB <| jD ?_
  by_cases h_12 : ((j : Nat) : Int) < ((l_5.length : Nat) : Int)
  · have hlt : j < l_5.length := by omega
    have hbj := f_6.2 j hlt
    try simp only [List.length_cons, List.length_nil] at hbj
    refine jR (cB (dT h_12)) <| jU <| jB <| jD <| jm <| jD <| jF ?_
    refine JL.facts fun hst => ?_
    obtain ⟨hr_13, hr_13b, -⟩ := row_some 4 rfl (by omega) hst
    refine jA (kH (i := j) kW ka hr_13 hr_13b he_9 he_11 (by omega)) <| jT (LO.loadR1 4 (v := str (l_5.getD j [])) rfl rfl kZ (atS (by omega))) <| jA (jG (v := str (l_5.getD j [])) rfl) <| jE <| jB <| jF <| jA (jC (v := pv p) he_8) <| jA (jC (v := str (l_5.getD j [])) rfl) ?_
    refine jH rfl (jI [0, 0, 0, 0] Tryz.call127 rfl (N_layNil p x mm hkmm (by omega) (by omega) (l_5.getD j []) (by omega)) rfl (fun _ _ => trivial)) ?_
    rintro _ _ ⟨_, ⟨x_16, m_17, e_14, k_15, rfl, rfl⟩, rfl⟩
    refine jE <| jk <| jB <| jF <| jA (jg (c := ((j + 1 : Nat) : Int)) he_11 rfl (wr (by omega))) <| jA (jC (v := iv ((j + 1 : Nat) : Int)) rfl) <| jE <| jr [0, 0, 0, 0, 0] (A := [mb p x_16 m_17, rC x_16.a0 x_16.c0 m_17.s, rS x_16.a1 x_16.c1 m_17.r, rS x_16.a2 x_16.c2 m_17.w, rS l_5a l_5c l_5]) rfl ?_
    refine jt (l_5.length - (j + 1)) (by omega) ⟨j + 1, x_16, m_17, by omega, (k_15.mono (by omega) (by omega)), (by rw [drop_at (getD_some (d := []) hlt)] at hR; simp only [MS.wipeL, e_1, h_12, e_14, SB] at hR; (repeat (first | rw [if_pos (by omega)] at hR | rw [if_neg (by omega)] at hR)); exact hR), he_8, he_9, he_10, rfl, rfl, rfl⟩
  rw [List.drop_of_length_le (by omega)] at hR
  simp only [MS.wipeL] at hR
  have hE := hR.symm
  refine jQ (cB (dF h_12)) <| kB <| jn <| jn <| kC <| Done.none (.inr rfl) rfl (tS 4 _) ?_
  exact ⟨x, mm, (by simp only [MS.wipe', e_1, h_12, hE, SB]; (repeat (first | rw [if_pos (by omega)] | rw [if_neg (by omega)])); all_goals (first | rfl | simp only [SB, e_1, h_12, hE])), (hkmm.mono (by omega) (by omega)), rfl, rfl⟩

theorem M_wipe (x : MA) (m : MS) {S T : Nat} (hk : m.ok S T) (hS : S ≤ 400000000) (hT : T ≤ 400000000) (p_ : Str) (hp_ : p_.length ≤ 100000000) :
    Ct Tryz.prog 93 [mv x m, str p_] (mr x m) (fun _ => True) (fun v A' => ∃ x' m', MS.wipe' m p_ = m' ∧ m'.ok (S) (T + S + 1) ∧ v = mv x' m' ∧ A' = mr x' m') := by
  refine Ct.intro Tryz.func93 rfl Tryz.ntmps93 (lb rfl) fun w0 hpre => ?_
  refine jD <| jF ?_
  refine jH rfl (jv (cs := (mc x m)) rfl rfl) ?_
  rintro _ _ ⟨b_1, rfl, rfl⟩
  refine jH rfl (jh (z := zM) (cs := zC) kd rfl) ?_
  rintro _ _ ⟨b_2, rfl, rfl⟩
  refine jE <| jB <| jD <| jF <| jT (jP 1 x m rfl rfl) <| jA (jC (v := str p_) rfl) ?_
  refine jH rfl (jI [2, 2, 2] Tryz.call106 rfl (N_sUnder x m hk (by omega) (by omega) p_ (by omega)) rfl (fun _ _ => trivial)) ?_
  rintro _ _ ⟨_, ⟨x_5, m_6, l_7a, l_7c, l_7, e_3, k_4, f_8, rfl, rfl⟩, rfl⟩
  refine jA (jC (v := .tuple #[mv x_5 m_6, .slice l_7a l_7.length l_7c]) rfl) <| jA (jS (v := mv x_5 m_6) rfl rfl) <| jA (jS (v := .slice l_7a l_7.length l_7c) rfl rfl) ?_
  refine jH rfl (jW 5 x_5 m_6 rfl rfl rfl rfl) ?_
  rintro _ _ rfl
  refine jA (jG (v := .slice l_7a l_7.length l_7c) rfl) <| jE <| jB <| jD <| jD <| jF <| jA (jG (v := iv 0) rfl) <| jE <| jB <| jm ?_
  have hll := f_8.1
  refine JC.perm (pick_perm [5, 0, 0, 0, 0, 0] (A := [mb b_1 x_5 m_6, rC x_5.a0 x_5.c0 m_6.s, rS x_5.a1 x_5.c1 m_6.r, rS x_5.a2 x_5.c2 m_6.w, rS l_7a l_7c l_7, bk b_2 35 zC]) (F := []) rfl).symm <| kE (fun k_ e_ L_ => ∃ j : Nat, ∃ x : MA, ∃ mm : MS, (j ≤ l_7.length) ∧ (mm.ok (S) (T + 1 + j)) ∧ (MS.wipeL (l_7.drop j) mm = MS.wipeL l_7 m_6) ∧ e_ 2 = .pointer (some ⟨b_1, 0, none⟩) ∧ e_ 4 = .pointer (some ⟨b_2, 0, none⟩) ∧ e_ 5 = .slice l_7a l_7.length l_7c ∧ e_ 6 = nv j ∧ L_ = [mb b_1 x mm, rC x.a0 x.c0 mm.s, rS x.a1 x.c1 mm.r, rS x.a2 x.c2 mm.w, rS l_7a l_7c l_7, bk b_2 35 zC] ∧ k_ = l_7.length - j) _ ⟨0, x_5, m_6, by omega, (k_4.mono (by omega) (by omega)), rfl, rfl, rfl, rfl, rfl, rfl, rfl⟩ ?_
  rintro _ e_9 _ ⟨j, x, mm, hj, hkmm, hR, he_10, he_11, he_12, he_13, rfl, rfl⟩
  refine jD <| jD <| jF <| jA (jC (v := nv j) he_13) <| jA (jC (v := .slice l_7a l_7.length l_7c) he_12) <| jA (kK kW rfl) <| jA (js rfl rfl) <| jE <| jB ?_
  by_cases h_14 : ((j : Nat) : Int) < ((l_7.length : Nat) : Int)
  · have hlt : j < l_7.length := by omega
    have hbj := f_8.2 j hlt
    try simp only [List.length_cons, List.length_nil] at hbj
    refine jR (cB (dT h_14)) <| jU <| jB <| jD <| jm <| jq [mb b_1 x mm] 5 mixed (by simp) <| jl 0 rfl (jP 0 x mm rfl he_10) <| jK 1 rfl (jC (v := .slice l_7a l_7.length l_7c) he_12) <| jK 2 rfl (jC (v := nv j) he_13) ?_
    refine JA.facts fun hst => ?_
    obtain ⟨hr_15, hr_15b, -⟩ := row_some 4 rfl (by omega) hst
    refine jK 3 rfl (kH (i := j) kW ka hr_15 hr_15b rfl rfl (by omega)) <| jL (i := 4) ?_
    refine jO rfl rfl (ja (LO.loadR1 4 (v := str (l_7.getD j [])) rfl rfl kZ (atS (by omega)))) ?_
    rintro _ _ ⟨rfl, rfl⟩
    refine ⟨(by simp), ?_⟩
    refine jL (i := 5) ?_
    refine jo rfl (jI [1, 1, 1] Tryz.call92 rfl (N_sLayNil x mm hkmm (by omega) (by omega) (l_7.getD j []) (by omega)) rfl (fun _ _ => trivial)) ?_
    rintro _ _ ⟨_, ⟨x_22, m_23, e_20, k_21, rfl, rfl⟩, rfl⟩
    refine jL (i := 6) ?_
    refine jp rfl (jW 3 x_22 m_23 rfl he_10 rfl rfl) ?_
    rintro _ _ rfl
    refine jk <| jB <| jF <| jA (jC (v := nv j) he_13) <| jA (jg (c := ((j + 1 : Nat) : Int)) rfl rfl (wr (by omega))) <| jA (jG (v := iv ((j + 1 : Nat) : Int)) rfl) <| jE <| jr [3, 0, 0, 0, 0, 0] (A := [mb b_1 x_22 m_23, rC x_22.a0 x_22.c0 m_23.s, rS x_22.a1 x_22.c1 m_23.r, rS x_22.a2 x_22.c2 m_23.w, rS l_7a l_7c l_7, bk b_2 35 zC]) rfl ?_
    refine jt (l_7.length - (j + 1)) (by omega) ⟨j + 1, x_22, m_23, by omega, (k_21.mono (by omega) (by omega)), (by rw [drop_at (getD_some (d := []) hlt)] at hR; simp only [MS.wipeL, e_3, h_14, e_20, SB] at hR; (repeat (first | rw [if_pos (by omega)] at hR | rw [if_neg (by omega)] at hR)); exact hR), he_10, he_11, he_12, rfl, rfl, rfl⟩
  rw [List.drop_of_length_le (by omega)] at hR
  simp only [MS.wipeL] at hR
  have hE := hR.symm
  refine jQ (cB (dF h_14)) <| kB <| jn <| jn <| kC <| jB <| jD <| jF <| jT (jP 0 x mm rfl he_10) ?_
  refine jH rfl (jW 5 x mm rfl he_11 rfl rfl) ?_
  rintro _ _ rfl
  refine jE <| jB <| jM <| kL (pick_perm [1, 1, 1] (A := [rC x.a0 x.c0 mm.s, rS x.a1 x.c1 mm.r, rS x.a2 x.c2 mm.w]) (F := [mb b_1 x mm, rS l_7a l_7c l_7, mb b_2 x mm]) rfl).symm <| jV (.inl rfl) rfl (je (jP 5 x mm rfl he_11) ⟨_, he_11⟩) (tS 3 _) ?_
  exact ⟨x, mm, (by simp only [MS.wipe', e_3, h_14, hE, SB]; (repeat (first | rw [if_pos (by omega)] | rw [if_neg (by omega)])); all_goals (first | rfl | simp only [SB, e_3, h_14, hE])), (hkmm.mono (by omega) (by omega)), rfl, rfl⟩

theorem N_makePipe (p : Nat) (x : MA) (m : MS) {S T : Nat} (hk : m.ok S T) (hS : S ≤ 50000000) (hT : T ≤ 50000000)  :
    Ct Tryz.prog 62 [.pointer (some ⟨p, 0, none⟩)] (mb p x m :: mr x m) (fun _ => True) (fun v A' => ∃ x' m' r0 r1, MS.makePipe m = (m', r0, r1) ∧ m'.ok (S + 2) (T + 3) ∧ (0 ≤ r0 ∧ r0 ≤ 999) ∧ (0 ≤ r1 ∧ r1 ≤ 9) ∧ v = .tuple #[.int .i64 r0, .int .i64 r1] ∧ A' = mb p x' m' :: mr x' m') := by
  refine Ct.intro Tryz.func62 rfl Tryz.ntmps62 (lb rfl) fun w0 hpre => ?_
  refine jD <| jF <| jA (jG (v := iv 0) rfl) <| jA (jG (v := iv 0) rfl) <| jE <| jB <| jD <| jD <| jF <| jA (jC (v := pv p) rfl) ?_
  refine jH rfl (jI [0, 0, 0, 0] Tryz.call118 rfl (N_num p x m hk (by omega) (by omega) [99, 47, 112, 105, 112, 101]) rfl (fun _ _ => trivial)) ?_
  rintro _ _ ⟨_, ⟨x_3, m_4, n_5, e_1, k_2, f_6, rfl, rfl⟩, rfl⟩
  refine jA (kT rfl rfl) <| jE <| jB ?_
  by_cases h_7 : 8 ≤ n_5
  · refine jR (cB (dT h_7)) <| jD <| jF <| jA (jG (v := iv 0) rfl) <| jA (jG (v := iv 3) rfl) <| jE <| jB <| jM <| jX <| jj (.inl rfl) rfl (jN (v := iv 0) rfl) (jN (v := iv 3) rfl) (List.Sublist.refl _) ?_
    exact ⟨x_3, m_4, 0, 3, (by simp only [MS.makePipe, e_1, h_7, SB]; (repeat (first | rw [if_pos (by omega)] | rw [if_neg (by omega)])); all_goals (first | rfl | simp only [SB, e_1, h_7])), (k_2.mono (by omega) (by omega)), (by first | omega | (simp only [LE]; omega)), (by first | omega | (simp only [LE]; omega)), rfl, rfl⟩
  refine jQ (cB (dF h_7)) <| jU <| jB <| jD <| jF <| jA (jC (v := pv p) rfl) ?_
  refine jH rfl (jI [0, 0, 0, 0] Tryz.call123 rfl (N_bump p x_3 m_4 k_2 (by omega) (by omega) [99, 47, 112, 105, 112, 101] (by decide)) rfl (fun _ _ => trivial)) ?_
  rintro _ _ ⟨_, ⟨x_10, m_11, n_12, e_8, k_9, f_13, rfl, rfl⟩, rfl⟩
  refine jA (jG (v := iv n_12) rfl) <| jE <| jB <| jD <| jF <| jA (jC (v := pv p) rfl) <| jA (jC (v := iv n_12) rfl) ?_
  refine jH rfl (jI [] Tryz.call134 rfl (N_pipeKey n_12 [47, 111] (by omega) (show List.length ([47, 111] : Str) ≤ 2 by decide) (by omega)) rfl (fun _ _ => trivial)) ?_
  rintro _ _ ⟨_, ⟨u_16, e_14, f_17, rfl, rfl⟩, rfl⟩
  refine jH rfl (jI [0, 0, 0, 0] Tryz.call124 rfl (N_setNum p x_10 m_11 k_9 (by omega) (by omega) u_16 1 (by omega) (by omega)) rfl (fun _ _ => trivial)) ?_
  rintro _ _ ⟨_, ⟨x_20, m_21, e_18, k_19, rfl, rfl⟩, rfl⟩
  refine jE <| jB <| jD <| jF <| jA (jC (v := iv n_12) rfl) <| jA (jG (v := iv n_12) rfl) <| jA (jG (v := iv 0) rfl) <| jE <| jB <| jM ?_
  refine jj (.inl rfl) rfl (jN (v := iv n_12) rfl) (jN (v := iv 0) rfl) (List.Sublist.refl _) ?_
  exact ⟨x_20, m_21, n_12, 0, (by simp only [MS.makePipe, e_1, h_7, e_8, e_14, e_18, SB]; (repeat (first | rw [if_pos (by omega)] | rw [if_neg (by omega)])); all_goals (first | rfl | simp only [SB, e_1, h_7, e_8, e_14, e_18])), (k_19.mono (by omega) (by omega)), (by first | omega | (simp only [LE]; omega)), (by first | omega | (simp only [LE]; omega)), rfl, rfl⟩

theorem M_makePipe (x : MA) (m : MS) {S T : Nat} (hk : m.ok S T) (hS : S ≤ 50000000) (hT : T ≤ 50000000)  :
    Ct Tryz.prog 38 [mv x m] (mr x m) (fun _ => True) (fun v A' => ∃ x' m' r0 r1, MS.makePipe m = (m', r0, r1) ∧ m'.ok (S + 2) (T + 3) ∧ (0 ≤ r0 ∧ r0 ≤ 999) ∧ (0 ≤ r1 ∧ r1 ≤ 9) ∧ v = .tuple #[mv x' m', .int .i64 r0, .int .i64 r1] ∧ A' = mr x' m') := by
  refine Ct.intro Tryz.func38 rfl Tryz.ntmps38 (lb rfl) fun w0 hpre => ?_
  refine jD <| jF ?_
  refine jH rfl (jv (cs := (mc x m)) rfl rfl) ?_
  rintro _ _ ⟨b_1, rfl, rfl⟩
  refine jH rfl (jh (z := zM) (cs := zC) kd rfl) ?_
  rintro _ _ ⟨b_2, rfl, rfl⟩
  refine jA (jG (v := iv 0) rfl) <| jA (jG (v := iv 0) rfl) <| jE <| jB <| jD <| jF <| jT (jP 1 x m rfl rfl) ?_
  refine jH rfl (jI [2, 2, 2] Tryz.call84 rfl (N_sNumAt x m hk (by omega) (by omega) [99, 47, 112, 105, 112, 101]) rfl (fun _ _ => trivial)) ?_
  rintro _ _ ⟨_, ⟨x_5, m_6, n_7, e_3, k_4, f_8, rfl, rfl⟩, rfl⟩
  refine jA (jC (v := .tuple #[mv x_5 m_6, iv n_7]) rfl) <| jA (jS (v := mv x_5 m_6) rfl rfl) <| jA (jS (v := iv n_7) rfl rfl) ?_
  refine jH rfl (jW 4 x_5 m_6 rfl rfl rfl rfl) ?_
  rintro _ _ rfl
  refine jA (jG (v := iv n_7) rfl) <| jE <| jB <| jD <| jD <| jF <| jA (jC (v := iv n_7) rfl) <| jA (kT rfl rfl) <| jE <| jB ?_
  by_cases h_9 : 8 ≤ n_7
  · refine jR (cB (dT h_9)) <| jD <| jF <| jT (jP 4 x_5 m_6 rfl rfl) ?_
    refine jH rfl (jW 3 x_5 m_6 rfl rfl rfl rfl) ?_
    rintro _ _ rfl
    refine jA (jG (v := iv 0) rfl) <| jA (jG (v := iv 3) rfl) <| jE <| jB <| jM <| jX <| Done.three (.inl rfl) rfl (je (jP 3 x_5 m_6 rfl rfl) ⟨_, rfl⟩) (jN (v := iv 0) rfl) (jN (v := iv 3) rfl) (tS 3 _) ?_
    exact ⟨x_5, m_6, 0, 3, (by simp only [MS.makePipe, e_3, h_9, SB]; (repeat (first | rw [if_pos (by omega)] | rw [if_neg (by omega)])); all_goals (first | rfl | simp only [SB, e_3, h_9])), (k_4.mono (by omega) (by omega)), (by first | omega | (simp only [LE]; omega)), (by first | omega | (simp only [LE]; omega)), rfl, rfl⟩
  refine jQ (cB (dF h_9)) <| jU <| jB <| jD <| jF <| jT (jP 4 x_5 m_6 rfl rfl) ?_
  refine jH rfl (jI [0, 0, 0] Tryz.call89 rfl (N_sBump x_5 m_6 k_4 (by omega) (by omega) [99, 47, 112, 105, 112, 101] (by decide)) rfl (fun _ _ => trivial)) ?_
  rintro _ _ ⟨_, ⟨x_12, m_13, n_14, e_10, k_11, f_15, rfl, rfl⟩, rfl⟩
  refine jA (jC (v := .tuple #[mv x_12 m_13, iv n_14]) rfl) <| jA (jS (v := mv x_12 m_13) rfl rfl) <| jA (jS (v := iv n_14) rfl rfl) ?_
  refine jH rfl (jW 4 x_12 m_13 rfl rfl rfl rfl) ?_
  rintro _ _ rfl
  refine jA (jG (v := iv n_14) rfl) <| jE <| jB <| jD <| jq [mb b_1 x_12 m_13] 5 mixed (by simp) <| jl 0 rfl (jP 0 x_12 m_13 rfl rfl) <| jK 1 rfl (jC (v := iv n_14) rfl) <| jK 4 rfl (jC (v := iv n_14) rfl) <| jL (i := 2) ?_
  refine jO rfl rfl (jI [] Tryz.call98 rfl (N_l08Key n_14 [47, 111] (by omega) (show List.length ([47, 111] : Str) ≤ 2 by decide) (by omega)) rfl (fun _ _ => trivial)) ?_
  rintro _ _ ⟨_, ⟨u_26, e_24, f_27, rfl, rfl⟩, rfl⟩
  refine ⟨(by simp), ?_⟩
  refine jL (i := 3) ?_
  refine jO rfl rfl (jI [0, 0, 0] Tryz.call90 rfl (N_sSetNum x_12 m_13 k_11 (by omega) (by omega) u_26 1 (by omega) (by omega)) rfl (fun _ _ => trivial)) ?_
  rintro _ _ ⟨_, ⟨x_34, m_35, e_32, k_33, rfl, rfl⟩, rfl⟩
  refine ⟨(by simp), ?_⟩
  refine jL (i := 5) ?_
  refine jo rfl (jW 3 x_34 m_35 rfl rfl rfl rfl) ?_
  rintro _ _ rfl
  refine jK 6 rfl (jG (v := iv n_14) rfl) <| jK 7 rfl (jG (v := iv 0) rfl) <| kG (by kernel_rfl) <| jB <| jM <| Done.three (.inl rfl) rfl (je (jP 3 x_34 m_35 rfl rfl) ⟨_, rfl⟩) (jN (v := iv n_14) rfl) (jN (v := iv 0) rfl) (tS 3 _) ?_
  exact ⟨x_34, m_35, n_14, 0, (by simp only [MS.makePipe, e_3, h_9, e_10, e_24, e_32, SB]; (repeat (first | rw [if_pos (by omega)] | rw [if_neg (by omega)])); all_goals (first | rfl | simp only [SB, e_3, h_9, e_10, e_24, e_32])), (k_33.mono (by omega) (by omega)), (by first | omega | (simp only [LE]; omega)), (by first | omega | (simp only [LE]; omega)), rfl, rfl⟩

theorem N_isPipe (p : Nat) (x : MA) (m : MS) {S T : Nat} (hk : m.ok S T) (hS : S ≤ 90000000) (hT : T ≤ 90000000) (id : Int) (hid : -9223372036854775808 ≤ id ∧ id ≤ 9223372036854775807) :
    Ct Tryz.prog 135 [.pointer (some ⟨p, 0, none⟩), .int .i64 id] (mb p x m :: mr x m) (fun _ => True) (fun v A' => ∃ x' m' r0, MS.isPipe m id = (m', r0) ∧ m'.ok (S) (T + 1) ∧ v = .bool r0 ∧ A' = mb p x' m' :: mr x' m') := by
  refine Ct.intro Tryz.func135 rfl Tryz.ntmps135 (lb rfl) fun w0 hpre => ?_
  refine jD <| jF <| jA (jG (v := .bool false) rfl) <| jE <| jB <| jD <| jF <| jA (jC (v := pv p) rfl) <| jA (jC (v := iv id) rfl) ?_
  refine jH rfl (jI [] Tryz.call134 rfl (N_pipeKey id [47, 111] (by omega) (show List.length ([47, 111] : Str) ≤ 2 by decide) (by omega)) rfl (fun _ _ => trivial)) ?_
  rintro _ _ ⟨_, ⟨u_3, e_1, f_4, rfl, rfl⟩, rfl⟩
  refine jH rfl (jI [0, 0, 0, 0] Tryz.call118 rfl (N_num p x m hk (by omega) (by omega) u_3) rfl (fun _ _ => trivial)) ?_
  rintro _ _ ⟨_, ⟨x_7, m_8, n_9, e_5, k_6, f_10, rfl, rfl⟩, rfl⟩
  refine jA (ju rfl rfl) <| jA (jG (v := .bool (decide (n_9 = 1))) rfl) <| jE <| jB <| jM <| jV (.inl rfl) rfl (jN (v := .bool (decide (n_9 = 1))) rfl) (List.Sublist.refl _) ?_
  exact ⟨x_7, m_8, (decide (n_9 = 1)), (by simp only [MS.isPipe, e_1, e_5, SB]; (repeat (first | rw [if_pos (by omega)] | rw [if_neg (by omega)])); all_goals (first | rfl | simp only [SB, e_1, e_5])), (k_6.mono (by omega) (by omega)), rfl, rfl⟩

theorem M_isPipe (x : MA) (m : MS) {S T : Nat} (hk : m.ok S T) (hS : S ≤ 90000000) (hT : T ≤ 90000000) (id : Int) (hid : -9223372036854775808 ≤ id ∧ id ≤ 9223372036854775807) :
    Ct Tryz.prog 99 [mv x m, .int .i64 id] (mr x m) (fun _ => True) (fun v A' => ∃ x' m' r0, MS.isPipe m id = (m', r0) ∧ m'.ok (S) (T + 1) ∧ v = .tuple #[mv x' m', .bool r0] ∧ A' = mr x' m') := by
  refine Ct.intro Tryz.func99 rfl Tryz.ntmps99 (lb rfl) fun w0 hpre => ?_
  refine jD <| jF ?_
  refine jH rfl (jv (cs := (mc x m)) rfl rfl) ?_
  rintro _ _ ⟨b_1, rfl, rfl⟩
  refine jH rfl (jh (z := zM) (cs := zC) kd rfl) ?_
  rintro _ _ ⟨b_2, rfl, rfl⟩
  refine jA (jG (v := .bool false) rfl) <| jE <| jB <| jD <| jq [mb b_1 x m] 7 mixed (by simp) <| jl 0 rfl (jP 0 x m rfl rfl) <| jK 1 rfl (jC (v := iv id) rfl) <| jL (i := 2) ?_
  refine jO rfl rfl (jI [] Tryz.call98 rfl (N_l08Key id [47, 111] (by omega) (show List.length ([47, 111] : Str) ≤ 2 by decide) (by omega)) rfl (fun _ _ => trivial)) ?_
  rintro _ _ ⟨_, ⟨u_9, e_7, f_10, rfl, rfl⟩, rfl⟩
  refine ⟨(by simp), ?_⟩
  refine jL (i := 3) ?_
  refine jO rfl rfl (jI [2, 2, 2] Tryz.call84 rfl (N_sNumAt x m hk (by omega) (by omega) u_9) rfl (fun _ _ => trivial)) ?_
  rintro _ _ ⟨_, ⟨x_19, m_20, n_21, e_17, k_18, f_22, rfl, rfl⟩, rfl⟩
  refine ⟨(by simp), ?_⟩
  refine jK 4 rfl (jC (v := .tuple #[mv x_19 m_20, iv n_21]) rfl) <| jK 5 rfl (jS (v := mv x_19 m_20) rfl rfl) <| jK 6 rfl (jS (v := iv n_21) rfl rfl) <| jL (i := 7) ?_
  refine jo rfl (jW 4 x_19 m_20 rfl rfl rfl rfl) ?_
  rintro _ _ rfl
  refine jK 8 rfl (jG (v := iv n_21) rfl) <| kG (by kernel_rfl) <| jB <| jD <| jF <| jT (jP 4 x_19 m_20 rfl rfl) <| jA (jC (v := iv n_21) rfl) <| jA (ju rfl rfl) ?_
  refine jH rfl (jW 3 x_19 m_20 rfl rfl rfl rfl) ?_
  rintro _ _ rfl
  refine jA (jG (v := .bool (decide (n_21 = 1))) rfl) <| jE <| jB <| jM <| jj (.inl rfl) rfl (je (jP 3 x_19 m_20 rfl rfl) ⟨_, rfl⟩) (jN (v := .bool (decide (n_21 = 1))) rfl) (tS 3 _) ?_
  exact ⟨x_19, m_20, (decide (n_21 = 1)), (by simp only [MS.isPipe, e_7, e_17, SB]; (repeat (first | rw [if_pos (by omega)] | rw [if_neg (by omega)])); all_goals (first | rfl | simp only [SB, e_7, e_17])), (k_18.mono (by omega) (by omega)), rfl, rfl⟩

theorem N_state (p : Nat) (x : MA) (m : MS) {S T : Nat} (hk : m.ok S T) (hS : S ≤ 90000000) (hT : T ≤ 90000000) (id : Int) (hid : -9223372036854775808 ≤ id ∧ id ≤ 9223372036854775807) :
    Ct Tryz.prog 54 [.pointer (some ⟨p, 0, none⟩), .int .i64 id] (mb p x m :: mr x m) (fun _ => True) (fun v A' => ∃ x' m' r0, MS.state m id = (m', r0) ∧ m'.ok (S) (T + 1) ∧ (0 ≤ r0 ∧ r0 ≤ 999) ∧ v = .int .i64 r0 ∧ A' = mb p x' m' :: mr x' m') := by
  refine Ct.intro Tryz.func54 rfl Tryz.ntmps54 (lb rfl) fun w0 hpre => ?_
  refine jD <| jF <| jA (jG (v := iv 0) rfl) <| jE <| jB <| jD <| jF <| jA (jC (v := pv p) rfl) <| jA (jC (v := iv id) rfl) ?_
  refine jH rfl (jI [] Tryz.call119 rfl (N_procKey id [47, 115] (by omega) (show List.length ([47, 115] : Str) ≤ 2 by decide) (by omega)) rfl (fun _ _ => trivial)) ?_
  rintro _ _ ⟨_, ⟨u_3, e_1, f_4, rfl, rfl⟩, rfl⟩
  refine jH rfl (jI [0, 0, 0, 0] Tryz.call118 rfl (N_num p x m hk (by omega) (by omega) u_3) rfl (fun _ _ => trivial)) ?_
  rintro _ _ ⟨_, ⟨x_7, m_8, n_9, e_5, k_6, f_10, rfl, rfl⟩, rfl⟩
  refine jA (jG (v := iv n_9) rfl) <| jE <| jB <| jM <| jV (.inl rfl) rfl (jN (v := iv n_9) rfl) (List.Sublist.refl _) ?_
  exact ⟨x_7, m_8, n_9, (by simp only [MS.state, e_1, e_5, SB]; (repeat (first | rw [if_pos (by omega)] | rw [if_neg (by omega)])); all_goals (first | rfl | simp only [SB, e_1, e_5])), (k_6.mono (by omega) (by omega)), (by first | omega | (simp only [LE]; omega)), rfl, rfl⟩

theorem M_state (x : MA) (m : MS) {S T : Nat} (hk : m.ok S T) (hS : S ≤ 90000000) (hT : T ≤ 90000000) (id : Int) (hid : -9223372036854775808 ≤ id ∧ id ≤ 9223372036854775807) :
    Ct Tryz.prog 30 [mv x m, .int .i64 id] (mr x m) (fun _ => True) (fun v A' => ∃ x' m' r0, MS.state m id = (m', r0) ∧ m'.ok (S) (T + 1) ∧ (0 ≤ r0 ∧ r0 ≤ 999) ∧ v = .tuple #[mv x' m', .int .i64 r0] ∧ A' = mr x' m') := by
  refine Ct.intro Tryz.func30 rfl Tryz.ntmps30 (lb rfl) fun w0 hpre => ?_
  refine jD <| jF ?_
  refine jH rfl (jv (cs := (mc x m)) rfl rfl) ?_
  rintro _ _ ⟨b_1, rfl, rfl⟩
  refine jH rfl (jh (z := zM) (cs := zC) kd rfl) ?_
  rintro _ _ ⟨b_2, rfl, rfl⟩
  refine jA (jG (v := iv 0) rfl) <| jE <| jB <| jD <| jq [mb b_1 x m] 6 mixed (by simp) <| jl 0 rfl (jP 0 x m rfl rfl) <| jK 1 rfl (jC (v := iv id) rfl) <| jL (i := 2) ?_
  refine jO rfl rfl (jI [] Tryz.call85 rfl (N_l09Key id [47, 115] (by omega) (show List.length ([47, 115] : Str) ≤ 2 by decide) (by omega)) rfl (fun _ _ => trivial)) ?_
  rintro _ _ ⟨_, ⟨u_9, e_7, f_10, rfl, rfl⟩, rfl⟩
  refine ⟨(by simp), ?_⟩
  refine jL (i := 3) ?_
  refine jO rfl rfl (jI [2, 2, 2] Tryz.call84 rfl (N_sNumAt x m hk (by omega) (by omega) u_9) rfl (fun _ _ => trivial)) ?_
  rintro _ _ ⟨_, ⟨x_19, m_20, n_21, e_17, k_18, f_22, rfl, rfl⟩, rfl⟩
  refine ⟨(by simp), ?_⟩
  refine jK 4 rfl (jS (v := mv x_19 m_20) rfl rfl) <| jK 5 rfl (jS (v := iv n_21) rfl rfl) <| jL (i := 6) ?_
  refine jo rfl (jW 3 x_19 m_20 rfl rfl rfl rfl) ?_
  rintro _ _ rfl
  refine jK 7 rfl (jG (v := iv n_21) rfl) <| kG (by kernel_rfl) <| jB <| jM <| jj (.inl rfl) rfl (je (jP 3 x_19 m_20 rfl rfl) ⟨_, rfl⟩) (jN (v := iv n_21) rfl) (tS 3 _) ?_
  exact ⟨x_19, m_20, n_21, (by simp only [MS.state, e_7, e_17, SB]; (repeat (first | rw [if_pos (by omega)] | rw [if_neg (by omega)])); all_goals (first | rfl | simp only [SB, e_7, e_17])), (k_18.mono (by omega) (by omega)), (by first | omega | (simp only [LE]; omega)), rfl, rfl⟩

theorem N_spawn (p : Nat) (x : MA) (m : MS) {S T : Nat} (hk : m.ok S T) (hS : S ≤ 50000000) (hT : T ≤ 50000000) (parent : Int) (hparent : -9223372036854775808 ≤ parent ∧ parent ≤ 9223372036854775807) :
    Ct Tryz.prog 65 [.pointer (some ⟨p, 0, none⟩), .int .i64 parent] (mb p x m :: mr x m) (fun _ => True) (fun v A' => ∃ x' m' r0 r1, MS.spawn m parent = (m', r0, r1) ∧ m'.ok (S + 3) (T + 4) ∧ (0 ≤ r0 ∧ r0 ≤ 999) ∧ (0 ≤ r1 ∧ r1 ≤ 9) ∧ v = .tuple #[.int .i64 r0, .int .i64 r1] ∧ A' = mb p x' m' :: mr x' m') := by
  refine Ct.intro Tryz.func65 rfl Tryz.ntmps65 (lb rfl) fun w0 hpre => ?_
  refine jD <| jF <| jA (jG (v := iv 0) rfl) <| jA (jG (v := iv 0) rfl) <| jE <| jB <| jD <| jD <| jF <| jA (jC (v := pv p) rfl) ?_
  refine jH rfl (jI [0, 0, 0, 0] Tryz.call118 rfl (N_num p x m hk (by omega) (by omega) [99, 47, 112, 114, 111, 99]) rfl (fun _ _ => trivial)) ?_
  rintro _ _ ⟨_, ⟨x_3, m_4, n_5, e_1, k_2, f_6, rfl, rfl⟩, rfl⟩
  refine jA (kT rfl rfl) <| jE <| jB ?_
  by_cases h_7 : 12 ≤ n_5
  · refine jR (cB (dT h_7)) <| jD <| jF <| jA (jG (v := iv 0) rfl) <| jA (jG (v := iv 3) rfl) <| jE <| jB <| jM <| jX <| jj (.inl rfl) rfl (jN (v := iv 0) rfl) (jN (v := iv 3) rfl) (List.Sublist.refl _) ?_
    exact ⟨x_3, m_4, 0, 3, (by simp only [MS.spawn, e_1, h_7, SB]; (repeat (first | rw [if_pos (by omega)] | rw [if_neg (by omega)])); all_goals (first | rfl | simp only [SB, e_1, h_7])), (k_2.mono (by omega) (by omega)), (by first | omega | (simp only [LE]; omega)), (by first | omega | (simp only [LE]; omega)), rfl, rfl⟩
  refine jQ (cB (dF h_7)) <| jU <| jB <| jD <| jF <| jA (jC (v := pv p) rfl) ?_
  refine jH rfl (jI [0, 0, 0, 0] Tryz.call123 rfl (N_bump p x_3 m_4 k_2 (by omega) (by omega) [99, 47, 112, 114, 111, 99] (by decide)) rfl (fun _ _ => trivial)) ?_
  rintro _ _ ⟨_, ⟨x_10, m_11, n_12, e_8, k_9, f_13, rfl, rfl⟩, rfl⟩
  refine jA (jG (v := iv n_12) rfl) <| jE <| jB <| jD <| jF <| jA (jC (v := pv p) rfl) <| jA (jC (v := iv n_12) rfl) ?_
  refine jH rfl (jI [] Tryz.call119 rfl (N_procKey n_12 [47, 115] (by omega) (show List.length ([47, 115] : Str) ≤ 2 by decide) (by omega)) rfl (fun _ _ => trivial)) ?_
  rintro _ _ ⟨_, ⟨u_16, e_14, f_17, rfl, rfl⟩, rfl⟩
  refine jH rfl (jI [0, 0, 0, 0] Tryz.call124 rfl (N_setNum p x_10 m_11 k_9 (by omega) (by omega) u_16 1 (by omega) (by omega)) rfl (fun _ _ => trivial)) ?_
  rintro _ _ ⟨_, ⟨x_20, m_21, e_18, k_19, rfl, rfl⟩, rfl⟩
  refine jE <| jB <| jD <| jF <| jA (jC (v := pv p) rfl) <| jA (jC (v := iv n_12) rfl) ?_
  refine jH rfl (jI [] Tryz.call119 rfl (N_procKey n_12 [47, 112] (by omega) (show List.length ([47, 112] : Str) ≤ 2 by decide) (by omega)) rfl (fun _ _ => trivial)) ?_
  rintro _ _ ⟨_, ⟨u_24, e_22, f_25, rfl, rfl⟩, rfl⟩
  refine jA (jC (v := iv parent) rfl) ?_
  refine jH rfl (jI [0, 0, 0, 0] Tryz.call124 rfl (N_setNum p x_20 m_21 k_19 (by omega) (by omega) u_24 parent (by omega) (by omega)) rfl (fun _ _ => trivial)) ?_
  rintro _ _ ⟨_, ⟨x_28, m_29, e_26, k_27, rfl, rfl⟩, rfl⟩
  refine jE <| jB <| jD <| jF <| jA (jC (v := iv n_12) rfl) <| jA (jG (v := iv n_12) rfl) <| jA (jG (v := iv 0) rfl) <| jE <| jB <| jM ?_
  refine jj (.inl rfl) rfl (jN (v := iv n_12) rfl) (jN (v := iv 0) rfl) (List.Sublist.refl _) ?_
  exact ⟨x_28, m_29, n_12, 0, (by simp only [MS.spawn, e_1, h_7, e_8, e_14, e_18, e_22, e_26, SB]; (repeat (first | rw [if_pos (by omega)] | rw [if_neg (by omega)])); all_goals (first | rfl | simp only [SB, e_1, h_7, e_8, e_14, e_18, e_22, e_26])), (k_27.mono (by omega) (by omega)), (by first | omega | (simp only [LE]; omega)), (by first | omega | (simp only [LE]; omega)), rfl, rfl⟩

theorem M_spawn (x : MA) (m : MS) {S T : Nat} (hk : m.ok S T) (hS : S ≤ 50000000) (hT : T ≤ 50000000) (parent : Int) (hparent : -9223372036854775808 ≤ parent ∧ parent ≤ 9223372036854775807) :
    Ct Tryz.prog 109 [mv x m, .int .i64 parent] (mr x m) (fun _ => True) (fun v A' => ∃ x' m' r0 r1, MS.spawn m parent = (m', r0, r1) ∧ m'.ok (S + 3) (T + 4) ∧ (0 ≤ r0 ∧ r0 ≤ 999) ∧ (0 ≤ r1 ∧ r1 ≤ 9) ∧ v = .tuple #[mv x' m', .int .i64 r0, .int .i64 r1] ∧ A' = mr x' m') := by
  refine Ct.intro Tryz.func109 rfl Tryz.ntmps109 (lb rfl) fun w0 hpre => ?_
  refine jD <| jF ?_
  refine jH rfl (jv (cs := (mc x m)) rfl rfl) ?_
  rintro _ _ ⟨b_1, rfl, rfl⟩
  refine jH rfl (jh (z := zM) (cs := zC) kd rfl) ?_
  rintro _ _ ⟨b_2, rfl, rfl⟩
  refine jA (jG (v := iv 0) rfl) <| jA (jG (v := iv 0) rfl) <| jE <| jB <| jD <| jF <| jT (jP 1 x m rfl rfl) ?_
  refine jH rfl (jI [2, 2, 2] Tryz.call84 rfl (N_sNumAt x m hk (by omega) (by omega) [99, 47, 112, 114, 111, 99]) rfl (fun _ _ => trivial)) ?_
  rintro _ _ ⟨_, ⟨x_5, m_6, n_7, e_3, k_4, f_8, rfl, rfl⟩, rfl⟩
  refine jA (jC (v := .tuple #[mv x_5 m_6, iv n_7]) rfl) <| jA (jS (v := mv x_5 m_6) rfl rfl) <| jA (jS (v := iv n_7) rfl rfl) ?_
  refine jH rfl (jW 4 x_5 m_6 rfl rfl rfl rfl) ?_
  rintro _ _ rfl
  refine jA (jG (v := iv n_7) rfl) <| jE <| jB <| jD <| jD <| jF <| jA (jC (v := iv n_7) rfl) <| jA (kT rfl rfl) <| jE <| jB ?_
  by_cases h_9 : 12 ≤ n_7
  · refine jR (cB (dT h_9)) <| jD <| jF <| jT (jP 4 x_5 m_6 rfl rfl) ?_
    refine jH rfl (jW 3 x_5 m_6 rfl rfl rfl rfl) ?_
    rintro _ _ rfl
    refine jA (jG (v := iv 0) rfl) <| jA (jG (v := iv 3) rfl) <| jE <| jB <| jM <| jX <| Done.three (.inl rfl) rfl (je (jP 3 x_5 m_6 rfl rfl) ⟨_, rfl⟩) (jN (v := iv 0) rfl) (jN (v := iv 3) rfl) (tS 3 _) ?_
    exact ⟨x_5, m_6, 0, 3, (by simp only [MS.spawn, e_3, h_9, SB]; (repeat (first | rw [if_pos (by omega)] | rw [if_neg (by omega)])); all_goals (first | rfl | simp only [SB, e_3, h_9])), (k_4.mono (by omega) (by omega)), (by first | omega | (simp only [LE]; omega)), (by first | omega | (simp only [LE]; omega)), rfl, rfl⟩
  refine jQ (cB (dF h_9)) <| jU <| jB <| jD <| jF <| jT (jP 4 x_5 m_6 rfl rfl) ?_
  refine jH rfl (jI [0, 0, 0] Tryz.call89 rfl (N_sBump x_5 m_6 k_4 (by omega) (by omega) [99, 47, 112, 114, 111, 99] (by decide)) rfl (fun _ _ => trivial)) ?_
  rintro _ _ ⟨_, ⟨x_12, m_13, n_14, e_10, k_11, f_15, rfl, rfl⟩, rfl⟩
  refine jA (jC (v := .tuple #[mv x_12 m_13, iv n_14]) rfl) <| jA (jS (v := mv x_12 m_13) rfl rfl) <| jA (jS (v := iv n_14) rfl rfl) ?_
  refine jH rfl (jW 4 x_12 m_13 rfl rfl rfl rfl) ?_
  rintro _ _ rfl
  refine jA (jG (v := iv n_14) rfl) <| jE <| jB <| jD <| jq [mb b_1 x_12 m_13] 3 mixed (by simp) <| jl 0 rfl (jP 0 x_12 m_13 rfl rfl) <| jK 1 rfl (jC (v := iv n_14) rfl) <| jL (i := 2) ?_
  refine jO rfl rfl (jI [] Tryz.call85 rfl (N_l09Key n_14 [47, 115] (by omega) (show List.length ([47, 115] : Str) ≤ 2 by decide) (by omega)) rfl (fun _ _ => trivial)) ?_
  rintro _ _ ⟨_, ⟨u_22, e_20, f_23, rfl, rfl⟩, rfl⟩
  refine ⟨(by simp), ?_⟩
  refine jL (i := 3) ?_
  refine jo rfl (jI [0, 0, 0] Tryz.call90 rfl (N_sSetNum x_12 m_13 k_11 (by omega) (by omega) u_22 1 (by omega) (by omega)) rfl (fun _ _ => trivial)) ?_
  rintro _ _ ⟨_, ⟨x_30, m_31, e_28, k_29, rfl, rfl⟩, rfl⟩
  refine jL (i := 4) ?_
  refine jp rfl (jW 4 x_30 m_31 rfl rfl rfl rfl) ?_
  rintro _ _ rfl
  refine jB <| jD <| jq [mb b_1 x_30 m_31] 6 mixed (by simp) <| jl 0 rfl (jP 0 x_30 m_31 rfl rfl) <| jK 1 rfl (jC (v := iv n_14) rfl) <| jK 3 rfl (jC (v := iv parent) rfl) <| jK 5 rfl (jC (v := iv n_14) rfl) <| jL (i := 2) ?_
  refine jO rfl rfl (jI [] Tryz.call85 rfl (N_l09Key n_14 [47, 112] (by omega) (show List.length ([47, 112] : Str) ≤ 2 by decide) (by omega)) rfl (fun _ _ => trivial)) ?_
  rintro _ _ ⟨_, ⟨u_46, e_44, f_47, rfl, rfl⟩, rfl⟩
  refine ⟨(by simp), ?_⟩
  refine jL (i := 4) ?_
  refine jO rfl rfl (jI [0, 0, 0] Tryz.call90 rfl (N_sSetNum x_30 m_31 k_29 (by omega) (by omega) u_46 parent (by omega) (by omega)) rfl (fun _ _ => trivial)) ?_
  rintro _ _ ⟨_, ⟨x_54, m_55, e_52, k_53, rfl, rfl⟩, rfl⟩
  refine ⟨(by simp), ?_⟩
  refine jL (i := 6) ?_
  refine jo rfl (jW 3 x_54 m_55 rfl rfl rfl rfl) ?_
  rintro _ _ rfl
  refine jK 7 rfl (jG (v := iv n_14) rfl) <| jK 8 rfl (jG (v := iv 0) rfl) <| kG (by kernel_rfl) <| jB <| jM <| Done.three (.inl rfl) rfl (je (jP 3 x_54 m_55 rfl rfl) ⟨_, rfl⟩) (jN (v := iv n_14) rfl) (jN (v := iv 0) rfl) (tS 3 _) ?_
  exact ⟨x_54, m_55, n_14, 0, (by simp only [MS.spawn, e_3, h_9, e_10, e_20, e_28, e_44, e_52, SB]; (repeat (first | rw [if_pos (by omega)] | rw [if_neg (by omega)])); all_goals (first | rfl | simp only [SB, e_3, h_9, e_10, e_20, e_28, e_44, e_52])), (k_53.mono (by omega) (by omega)), (by first | omega | (simp only [LE]; omega)), (by first | omega | (simp only [LE]; omega)), rfl, rfl⟩

theorem N_end (p : Nat) (x : MA) (m : MS) {S T : Nat} (hk : m.ok S T) (hS : S ≤ 50000000) (hT : T ≤ 50000000) (id : Int) (n : Int) (hid : -9223372036854775808 ≤ id ∧ id ≤ 9223372036854775807) (hn : -9223372036854775808 ≤ n ∧ n ≤ 9223372036854775807) :
    Ct Tryz.prog 67 [.pointer (some ⟨p, 0, none⟩), .int .i64 id, .int .i64 n] (mb p x m :: mr x m) (fun _ => True) (fun v A' => ∃ x' m' r0, MS.endProc m id n = (m', r0) ∧ m'.ok (S + 2) (T + 3) ∧ (0 ≤ r0 ∧ r0 ≤ 9) ∧ v = .int .i64 r0 ∧ A' = mb p x' m' :: mr x' m') := by
  refine Ct.intro Tryz.func67 rfl Tryz.ntmps67 (lb rfl) fun w0 hpre => ?_
  refine jD <| jF <| jA (jG (v := iv 0) rfl) <| jE <| jB <| jD <| jm <| jD <| jF <| jA (jC (v := pv p) rfl) ?_
  refine jA (jC (v := iv id) rfl) ?_
  refine jH rfl (jI [0, 0, 0, 0] Tryz.call54 rfl (N_state p x m hk (by omega) (by omega) id (by omega)) rfl (fun _ _ => trivial)) ?_
  rintro _ _ ⟨_, ⟨x_3, m_4, n_5, e_1, k_2, f_6, rfl, rfl⟩, rfl⟩
  refine jA (kQ rfl rfl) <| jA (jG (v := .bool (!(decide (n_5 = 1)))) rfl) <| jE <| jB ?_
  by_cases h_7 : n_5 = 1
  · refine jQ (cB (cN (dT h_7))) <| jD <| jF <| jA (jC (v := iv n) rfl) ?_
    refine jH rfl (jI [] Tryz.call120 rfl (C_within n 0 100) rfl (fun _ _ => trivial)) ?_
    rintro _ _ ⟨_, ⟨rfl, rfl⟩, rfl⟩
    refine jA (kA rfl) <| jA (jG (v := .bool (!(decide (0 ≤ n) && decide (n ≤ 100)))) rfl) <| jE <| jB ?_
    rcases Bool.eq_false_or_eq_true (decide (0 ≤ n) && decide (n ≤ 100)) with h_8 | h_8
    · have h_8d := h_8
      simp only [Bool.and_eq_true, Bool.and_eq_false_iff, decide_eq_true_eq, decide_eq_false_iff_not] at h_8d
      refine jQ (cB (cN h_8)) <| jU <| jk <| jB <| jD <| jF <| jA (jC (v := pv p) rfl) <| jA (jC (v := iv id) rfl) ?_
      refine jH rfl (jI [] Tryz.call119 rfl (N_procKey id [47, 115] (by omega) (show List.length ([47, 115] : Str) ≤ 2 by decide) (by omega)) rfl (fun _ _ => trivial)) ?_
      rintro _ _ ⟨_, ⟨u_11, e_9, f_12, rfl, rfl⟩, rfl⟩
      refine jH rfl (jI [0, 0, 0, 0] Tryz.call124 rfl (N_setNum p x_3 m_4 k_2 (by omega) (by omega) u_11 2 (by omega) (by omega)) rfl (fun _ _ => trivial)) ?_
      rintro _ _ ⟨_, ⟨x_15, m_16, e_13, k_14, rfl, rfl⟩, rfl⟩
      refine jE <| jB <| jD <| jF <| jA (jC (v := pv p) rfl) <| jA (jC (v := iv id) rfl) ?_
      refine jH rfl (jI [] Tryz.call119 rfl (N_procKey id [47, 120] (by omega) (show List.length ([47, 120] : Str) ≤ 2 by decide) (by omega)) rfl (fun _ _ => trivial)) ?_
      rintro _ _ ⟨_, ⟨u_19, e_17, f_20, rfl, rfl⟩, rfl⟩
      refine jA (jC (v := iv n) rfl) <| jA (jg (c := n + 1) rfl rfl (wr (by omega))) ?_
      refine jH rfl (jI [0, 0, 0, 0] Tryz.call124 rfl (N_setNum p x_15 m_16 k_14 (by omega) (by omega) u_19 (n + 1) (by omega) (by omega)) rfl (fun _ _ => trivial)) ?_
      rintro _ _ ⟨_, ⟨x_23, m_24, e_21, k_22, rfl, rfl⟩, rfl⟩
      refine jE <| jB <| jD <| jF <| jA (jG (v := iv 0) rfl) <| jE <| jB <| jM <| jV (.inl rfl) rfl (jN (v := iv 0) rfl) (List.Sublist.refl _) ?_
      exact ⟨x_23, m_24, 0, (by simp only [MS.endProc, e_1, h_7, h_8, e_9, e_13, e_17, e_21, SB]; (repeat (first | rw [if_pos (by omega)] | rw [if_neg (by omega)])); all_goals (first | rfl | simp only [SB, e_1, h_7, h_8, e_9, e_13, e_17, e_21])), (k_22.mono (by omega) (by omega)), (by first | omega | (simp only [LE]; omega)), rfl, rfl⟩
    have h_8d := h_8
    simp only [Bool.and_eq_true, Bool.and_eq_false_iff, decide_eq_true_eq, decide_eq_false_iff_not] at h_8d
    refine jR (cB (cN h_8)) <| jD <| jF <| jA (jG (v := iv 4) rfl) <| jE <| jB <| jM <| jz <| jX <| jV (.inl rfl) rfl (jN (v := iv 4) rfl) (List.Sublist.refl _) ?_
    exact ⟨x_3, m_4, 4, (by simp only [MS.endProc, e_1, h_7, h_8, SB]; (repeat (first | rw [if_pos (by omega)] | rw [if_neg (by omega)])); all_goals (first | rfl | simp only [SB, e_1, h_7, h_8])), (k_2.mono (by omega) (by omega)), (by first | omega | (simp only [LE]; omega)), rfl, rfl⟩
  refine jR (cB (cN (dF h_7))) <| jD <| jF <| jA (jG (v := iv 2) rfl) <| jE <| jB <| jM <| jz <| jX <| jV (.inl rfl) rfl (jN (v := iv 2) rfl) (List.Sublist.refl _) ?_
  exact ⟨x_3, m_4, 2, (by simp only [MS.endProc, e_1, h_7, SB]; (repeat (first | rw [if_pos (by omega)] | rw [if_neg (by omega)])); all_goals (first | rfl | simp only [SB, e_1, h_7])), (k_2.mono (by omega) (by omega)), (by first | omega | (simp only [LE]; omega)), rfl, rfl⟩

theorem M_end (x : MA) (m : MS) {S T : Nat} (hk : m.ok S T) (hS : S ≤ 50000000) (hT : T ≤ 50000000) (id : Int) (n : Int) (hid : -9223372036854775808 ≤ id ∧ id ≤ 9223372036854775807) (hn : -9223372036854775808 ≤ n ∧ n ≤ 9223372036854775807) :
    Ct Tryz.prog 111 [mv x m, .int .i64 id, .int .i64 n] (mr x m) (fun _ => True) (fun v A' => ∃ x' m' r0, MS.endProc m id n = (m', r0) ∧ m'.ok (S + 2) (T + 3) ∧ (0 ≤ r0 ∧ r0 ≤ 9) ∧ v = .tuple #[mv x' m', .int .i64 r0] ∧ A' = mr x' m') := by
  refine Ct.intro Tryz.func111 rfl Tryz.ntmps111 (lb rfl) fun w0 hpre => ?_
  refine jD <| jF ?_
  refine jH rfl (jv (cs := (mc x m)) rfl rfl) ?_
  rintro _ _ ⟨b_1, rfl, rfl⟩
  refine jH rfl (jh (z := zM) (cs := zC) kd rfl) ?_
  rintro _ _ ⟨b_2, rfl, rfl⟩
  refine jA (jG (v := iv 0) rfl) <| jE <| jB <| jD <| jF <| jT (jP 1 x m rfl rfl) <| jA (jC (v := iv id) rfl) ?_
  refine jH rfl (jI [2, 2, 2] Tryz.call30 rfl (M_state x m hk (by omega) (by omega) id (by omega)) rfl (fun _ _ => trivial)) ?_
  rintro _ _ ⟨_, ⟨x_5, m_6, n_7, e_3, k_4, f_8, rfl, rfl⟩, rfl⟩
  refine jA (jC (v := .tuple #[mv x_5 m_6, iv n_7]) rfl) <| jA (jS (v := mv x_5 m_6) rfl rfl) <| jA (jS (v := iv n_7) rfl rfl) ?_
  refine jH rfl (jW 4 x_5 m_6 rfl rfl rfl rfl) ?_
  rintro _ _ rfl
  refine jA (jG (v := iv n_7) rfl) <| jE <| jB <| jD <| jD <| jF <| jA (jC (v := iv n_7) rfl) <| jA (kQ rfl rfl) <| jE <| jB ?_
  by_cases h_9 : n_7 = 1
  · refine jQ (cB (cN (dT h_9))) <| jU <| jB <| jD <| jD <| jF <| jA (jC (v := iv n) rfl) ?_
    refine jH rfl (jI [] Tryz.call86 rfl (C_l01In n 0 100) rfl (fun _ _ => trivial)) ?_
    rintro _ _ ⟨_, ⟨rfl, rfl⟩, rfl⟩
    refine jA (kA rfl) <| jE <| jB ?_
    rcases Bool.eq_false_or_eq_true (decide (0 ≤ n) && decide (n ≤ 100)) with h_10 | h_10
    · have h_10d := h_10
      simp only [Bool.and_eq_true, Bool.and_eq_false_iff, decide_eq_true_eq, decide_eq_false_iff_not] at h_10d
      refine jQ (cB (cN h_10)) <| jU <| jB <| jD <| jq [mb b_1 x_5 m_6] 3 mixed (by simp) <| jl 0 rfl (jP 0 x_5 m_6 rfl rfl) <| jK 1 rfl (jC (v := iv id) rfl) <| jL (i := 2) ?_
      refine jO rfl rfl (jI [] Tryz.call85 rfl (N_l09Key id [47, 115] (by omega) (show List.length ([47, 115] : Str) ≤ 2 by decide) (by omega)) rfl (fun _ _ => trivial)) ?_
      rintro _ _ ⟨_, ⟨u_17, e_15, f_18, rfl, rfl⟩, rfl⟩
      refine ⟨(by simp), ?_⟩
      refine jL (i := 3) ?_
      refine jo rfl (jI [0, 0, 0] Tryz.call90 rfl (N_sSetNum x_5 m_6 k_4 (by omega) (by omega) u_17 2 (by omega) (by omega)) rfl (fun _ _ => trivial)) ?_
      rintro _ _ ⟨_, ⟨x_25, m_26, e_23, k_24, rfl, rfl⟩, rfl⟩
      refine jL (i := 4) ?_
      refine jp rfl (jW 4 x_25 m_26 rfl rfl rfl rfl) ?_
      rintro _ _ rfl
      refine jB <| jD <| jq [mb b_1 x_25 m_26] 5 mixed (by simp) <| jl 0 rfl (jP 0 x_25 m_26 rfl rfl) <| jK 1 rfl (jC (v := iv id) rfl) <| jK 3 rfl (jC (v := iv n) rfl) <| jK 4 rfl (jg (c := n + 1) rfl rfl (wr (by omega))) <| jL (i := 2) ?_
      refine jO rfl rfl (jI [] Tryz.call85 rfl (N_l09Key id [47, 120] (by omega) (show List.length ([47, 120] : Str) ≤ 2 by decide) (by omega)) rfl (fun _ _ => trivial)) ?_
      rintro _ _ ⟨_, ⟨u_41, e_39, f_42, rfl, rfl⟩, rfl⟩
      refine ⟨(by simp), ?_⟩
      refine jL (i := 5) ?_
      refine jo rfl (jI [0, 0, 0] Tryz.call90 rfl (N_sSetNum x_25 m_26 k_24 (by omega) (by omega) u_41 (n + 1) (by omega) (by omega)) rfl (fun _ _ => trivial)) ?_
      rintro _ _ ⟨_, ⟨x_49, m_50, e_47, k_48, rfl, rfl⟩, rfl⟩
      refine jL (i := 6) ?_
      refine jo rfl (jW 3 x_49 m_50 rfl rfl rfl rfl) ?_
      rintro _ _ rfl
      refine jK 7 rfl (jG (v := iv 0) rfl) <| kG (by kernel_rfl) <| jB <| jM <| jj (.inl rfl) rfl (je (jP 3 x_49 m_50 rfl rfl) ⟨_, rfl⟩) (jN (v := iv 0) rfl) (tS 3 _) ?_
      exact ⟨x_49, m_50, 0, (by simp only [MS.endProc, e_3, h_9, h_10, e_15, e_23, e_39, e_47, SB]; (repeat (first | rw [if_pos (by omega)] | rw [if_neg (by omega)])); all_goals (first | rfl | simp only [SB, e_3, h_9, h_10, e_15, e_23, e_39, e_47])), (k_48.mono (by omega) (by omega)), (by first | omega | (simp only [LE]; omega)), rfl, rfl⟩
    have h_10d := h_10
    simp only [Bool.and_eq_true, Bool.and_eq_false_iff, decide_eq_true_eq, decide_eq_false_iff_not] at h_10d
    refine jR (cB (cN h_10)) <| jD <| jF <| jT (jP 4 x_5 m_6 rfl rfl) ?_
    refine jH rfl (jW 3 x_5 m_6 rfl rfl rfl rfl) ?_
    rintro _ _ rfl
    refine jA (jG (v := iv 4) rfl) <| jE <| jB <| jM <| jX <| jj (.inl rfl) rfl (je (jP 3 x_5 m_6 rfl rfl) ⟨_, rfl⟩) (jN (v := iv 4) rfl) (tS 3 _) ?_
    exact ⟨x_5, m_6, 4, (by simp only [MS.endProc, e_3, h_9, h_10, SB]; (repeat (first | rw [if_pos (by omega)] | rw [if_neg (by omega)])); all_goals (first | rfl | simp only [SB, e_3, h_9, h_10])), (k_4.mono (by omega) (by omega)), (by first | omega | (simp only [LE]; omega)), rfl, rfl⟩
  refine jR (cB (cN (dF h_9))) <| jD <| jF <| jT (jP 4 x_5 m_6 rfl rfl) ?_
  refine jH rfl (jW 3 x_5 m_6 rfl rfl rfl rfl) ?_
  rintro _ _ rfl
  refine jA (jG (v := iv 2) rfl) <| jE <| jB <| jM <| jX <| jj (.inl rfl) rfl (je (jP 3 x_5 m_6 rfl rfl) ⟨_, rfl⟩) (jN (v := iv 2) rfl) (tS 3 _) ?_
  exact ⟨x_5, m_6, 2, (by simp only [MS.endProc, e_3, h_9, SB]; (repeat (first | rw [if_pos (by omega)] | rw [if_neg (by omega)])); all_goals (first | rfl | simp only [SB, e_3, h_9])), (k_4.mono (by omega) (by omega)), (by first | omega | (simp only [LE]; omega)), rfl, rfl⟩

theorem N_reap (p : Nat) (x : MA) (m : MS) {S T : Nat} (hk : m.ok S T) (hS : S ≤ 50000000) (hT : T ≤ 50000000) (parent : Int) (id : Int) (hparent : -9223372036854775808 ≤ parent ∧ parent ≤ 9223372036854775807) (hid : -9223372036854775808 ≤ id ∧ id ≤ 9223372036854775807) :
    Ct Tryz.prog 69 [.pointer (some ⟨p, 0, none⟩), .int .i64 parent, .int .i64 id] (mb p x m :: mr x m) (fun _ => True) (fun v A' => ∃ x' m' r0 r1, MS.reap m parent id = (m', r0, r1) ∧ m'.ok (S) (T + S + 5) ∧ (-1 ≤ r0 ∧ r0 ≤ 999) ∧ (0 ≤ r1 ∧ r1 ≤ 9) ∧ v = .tuple #[.int .i64 r0, .int .i64 r1] ∧ A' = mb p x' m' :: mr x' m') := by
  refine Ct.intro Tryz.func69 rfl Tryz.ntmps69 (lb rfl) fun w0 hpre => ?_
  refine jD <| jF <| jA (jG (v := iv 0) rfl) <| jA (jG (v := iv 0) rfl) <| jE <| jB <| jD <| jF <| jA (jC (v := pv p) rfl) <| jA (jC (v := iv id) rfl) ?_
  refine jH rfl (jI [] Tryz.call119 rfl (N_procKey id [47, 112] (by omega) (show List.length ([47, 112] : Str) ≤ 2 by decide) (by omega)) rfl (fun _ _ => trivial)) ?_
  rintro _ _ ⟨_, ⟨u_3, e_1, f_4, rfl, rfl⟩, rfl⟩
  refine jH rfl (jI [0, 0, 0, 0] Tryz.call118 rfl (N_num p x m hk (by omega) (by omega) u_3) rfl (fun _ _ => trivial)) ?_
  rintro _ _ ⟨_, ⟨x_7, m_8, n_9, e_5, k_6, f_10, rfl, rfl⟩, rfl⟩
  refine jA (jG (v := iv n_9) rfl) <| jE <| jB <| jD <| jD <| jF <| jA (jC (v := iv n_9) rfl) <| jA (ju rfl rfl) <| jA (jC (v := .bool (decide (n_9 = 0))) rfl) ?_
  by_cases h_11 : n_9 = 0
  · refine jY (b := true) rfl rfl rfl (cB (dT h_11)) <| jY (b := true) rfl rfl rfl (cB (dT h_11)) <| jY (b := true) rfl rfl rfl (cB (dT h_11)) <| jA (jx (v := .bool true) (cB (dT h_11)) rfl) <| jE <| jB <| jR (cB rfl) <| jD <| jF <| jA (jG (v := iv 0) rfl) ?_
    refine jA (jG (v := iv 2) rfl) <| jE <| jB <| jM <| jX <| jj (.inl rfl) rfl (jN (v := iv 0) rfl) (jN (v := iv 2) rfl) (List.Sublist.refl _) ?_
    exact ⟨x_7, m_8, 0, 2, (by simp only [MS.reap, e_1, e_5, h_11, SB]; (repeat (first | rw [if_pos (by omega)] | rw [if_neg (by omega)])); all_goals (first | rfl | simp only [SB, e_1, e_5, h_11])), (k_6.mono (by omega) (by omega)), (by first | omega | (simp only [LE]; omega)), (by first | omega | (simp only [LE]; omega)), rfl, rfl⟩
  refine jb rfl rfl rfl (cB (dF h_11)) (ja (jd (jC (v := iv n_9) rfl))) ?_
  rintro _ _ ⟨rfl, rfl⟩
  refine jb rfl rfl rfl (cB (dF h_11)) (ja (jd (jC (v := iv parent) rfl))) ?_
  rintro _ _ ⟨rfl, rfl⟩
  refine jb rfl rfl rfl (cB (dF h_11)) (ja (jd (kQ rfl rfl))) ?_
  rintro _ _ ⟨rfl, rfl⟩
  refine jA (jw (v := .bool (!(decide (n_9 = parent)))) (cB (dF h_11)) rfl) <| jE <| jB ?_
  by_cases h_12 : n_9 = parent
  · refine jQ (cB (cN (dT h_12))) <| jU <| jB <| jD <| jD <| jF <| jA (jC (v := pv p) rfl) <| jA (jC (v := iv id) rfl) ?_
    refine jH rfl (jI [0, 0, 0, 0] Tryz.call54 rfl (N_state p x_7 m_8 k_6 (by omega) (by omega) id (by omega)) rfl (fun _ _ => trivial)) ?_
    rintro _ _ ⟨_, ⟨x_15, m_16, n_17, e_13, k_14, f_18, rfl, rfl⟩, rfl⟩
    refine jE <| jB <| jm <| jD <| jF <| jA (ju rfl rfl) <| jA (jG (v := .bool (decide (n_17 = 1))) rfl) <| jE <| jB ?_
    by_cases h_19 : n_17 = 1
    · refine jR (cB (dT h_19)) <| jD <| jF <| jA (jG (v := iv 0) rfl) <| jA (jG (v := iv 5) rfl) <| jE <| jB <| jM <| jz <| jX ?_
      refine jj (.inl rfl) rfl (jN (v := iv 0) rfl) (jN (v := iv 5) rfl) (List.Sublist.refl _) ?_
      exact ⟨x_15, m_16, 0, 5, (by simp only [MS.reap, e_1, e_5, h_11, h_12, e_13, h_19, SB]; (repeat (first | rw [if_pos (by omega)] | rw [if_neg (by omega)])); all_goals (first | rfl | simp only [SB, e_1, e_5, h_11, h_12, e_13, h_19])), (k_14.mono (by omega) (by omega)), (by first | omega | (simp only [LE]; omega)), (by first | omega | (simp only [LE]; omega)), rfl, rfl⟩
    refine jQ (cB (dF h_19)) <| jD <| jF <| jA (ju rfl rfl) <| jA (jG (v := .bool (decide (n_17 = 2))) rfl) <| jE <| jB ?_
    by_cases h_20 : n_17 = 2
    · refine jR (cB (dT h_20)) <| jD <| jF <| jA (jC (v := pv p) rfl) <| jA (jC (v := iv id) rfl) ?_
      refine jH rfl (jI [] Tryz.call119 rfl (N_procKey id [47, 120] (by omega) (show List.length ([47, 120] : Str) ≤ 2 by decide) (by omega)) rfl (fun _ _ => trivial)) ?_
      rintro _ _ ⟨_, ⟨u_23, e_21, f_24, rfl, rfl⟩, rfl⟩
      refine jH rfl (jI [0, 0, 0, 0] Tryz.call118 rfl (N_num p x_15 m_16 k_14 (by omega) (by omega) u_23) rfl (fun _ _ => trivial)) ?_
      rintro _ _ ⟨_, ⟨x_27, m_28, n_29, e_25, k_26, f_30, rfl, rfl⟩, rfl⟩
      refine jA (kR (c := n_29 - 1) rfl rfl (wr (by omega))) <| jA (jG (v := iv (n_29 - 1)) rfl) <| jE <| jB <| jD <| jF <| jA (jC (v := pv p) rfl) <| jA (jC (v := iv id) rfl) ?_
      refine jH rfl (jI [] Tryz.call119 rfl (N_procKey id [47] (by omega) (show List.length ([47] : Str) ≤ 1 by decide) (by omega)) rfl (fun _ _ => trivial)) ?_
      rintro _ _ ⟨_, ⟨u_33, e_31, f_34, rfl, rfl⟩, rfl⟩
      refine jH rfl (jI [0, 0, 0, 0] Tryz.call128 rfl (N_wipe p x_27 m_28 k_26 (by omega) (by omega) u_33 (by omega)) rfl (fun _ _ => trivial)) ?_
      rintro _ _ ⟨_, ⟨x_37, m_38, e_35, k_36, rfl, rfl⟩, rfl⟩
      refine jE <| jB <| jD <| jF <| jA (jC (v := iv (n_29 - 1)) rfl) <| jA (jG (v := iv (n_29 - 1)) rfl) <| jA (jG (v := iv 0) rfl) <| jE <| jB <| jM ?_
      refine jz <| jX <| jj (.inl rfl) rfl (jN (v := iv (n_29 - 1)) rfl) (jN (v := iv 0) rfl) (List.Sublist.refl _) ?_
      exact ⟨x_37, m_38, (n_29 - 1), 0, (by simp only [MS.reap, e_1, e_5, h_11, h_12, e_13, h_19, h_20, e_21, e_25, e_31, e_35, SB]; (repeat (first | rw [if_pos (by omega)] | rw [if_neg (by omega)])); all_goals (first | rfl | simp only [SB, e_1, e_5, h_11, h_12, e_13, h_19, h_20, e_21, e_25, e_31, e_35])), (k_36.mono (by omega) (by omega)), (by first | omega | (simp only [LE]; omega)), (by first | omega | (simp only [LE]; omega)), rfl, rfl⟩
    refine jQ (cB (dF h_20)) <| jU <| jk <| jB <| jD <| jF <| jA (jG (v := iv 0) rfl) <| jA (jG (v := iv 2) rfl) <| jE <| jB ?_
    refine jM <| jj (.inl rfl) rfl (jN (v := iv 0) rfl) (jN (v := iv 2) rfl) (List.Sublist.refl _) ?_
    exact ⟨x_15, m_16, 0, 2, (by simp only [MS.reap, e_1, e_5, h_11, h_12, e_13, h_19, h_20, SB]; (repeat (first | rw [if_pos (by omega)] | rw [if_neg (by omega)])); all_goals (first | rfl | simp only [SB, e_1, e_5, h_11, h_12, e_13, h_19, h_20])), (k_14.mono (by omega) (by omega)), (by first | omega | (simp only [LE]; omega)), (by first | omega | (simp only [LE]; omega)), rfl, rfl⟩
  refine jR (cB (cN (dF h_12))) <| jD <| jF <| jA (jG (v := iv 0) rfl) <| jA (jG (v := iv 2) rfl) <| jE <| jB <| jM <| jX <| jj (.inl rfl) rfl (jN (v := iv 0) rfl) (jN (v := iv 2) rfl) (List.Sublist.refl _) ?_
  exact ⟨x_7, m_8, 0, 2, (by simp only [MS.reap, e_1, e_5, h_11, h_12, SB]; (repeat (first | rw [if_pos (by omega)] | rw [if_neg (by omega)])); all_goals (first | rfl | simp only [SB, e_1, e_5, h_11, h_12])), (k_6.mono (by omega) (by omega)), (by first | omega | (simp only [LE]; omega)), (by first | omega | (simp only [LE]; omega)), rfl, rfl⟩

theorem M_reap (x : MA) (m : MS) {S T : Nat} (hk : m.ok S T) (hS : S ≤ 50000000) (hT : T ≤ 50000000) (parent : Int) (id : Int) (hparent : -9223372036854775808 ≤ parent ∧ parent ≤ 9223372036854775807) (hid : -9223372036854775808 ≤ id ∧ id ≤ 9223372036854775807) :
    Ct Tryz.prog 113 [mv x m, .int .i64 parent, .int .i64 id] (mr x m) (fun _ => True) (fun v A' => ∃ x' m' r0 r1, MS.reap m parent id = (m', r0, r1) ∧ m'.ok (S) (T + S + 5) ∧ (-1 ≤ r0 ∧ r0 ≤ 999) ∧ (0 ≤ r1 ∧ r1 ≤ 9) ∧ v = .tuple #[mv x' m', .int .i64 r0, .int .i64 r1] ∧ A' = mr x' m') := by
  refine Ct.intro Tryz.func113 rfl Tryz.ntmps113 (lb rfl) fun w0 hpre => ?_
  refine jD <| jF ?_
  refine jH rfl (jv (cs := (mc x m)) rfl rfl) ?_
  rintro _ _ ⟨b_1, rfl, rfl⟩
  refine jH rfl (jh (z := zM) (cs := zC) kd rfl) ?_
  rintro _ _ ⟨b_2, rfl, rfl⟩
  refine jA (jG (v := iv 0) rfl) <| jA (jG (v := iv 0) rfl) <| jE <| jB <| jD <| jq [mb b_1 x m] 7 mixed (by simp) <| jl 0 rfl (jP 0 x m rfl rfl) <| jK 1 rfl (jC (v := iv id) rfl) <| jL (i := 2) ?_
  refine jO rfl rfl (jI [] Tryz.call85 rfl (N_l09Key id [47, 112] (by omega) (show List.length ([47, 112] : Str) ≤ 2 by decide) (by omega)) rfl (fun _ _ => trivial)) ?_
  rintro _ _ ⟨_, ⟨u_9, e_7, f_10, rfl, rfl⟩, rfl⟩
  refine ⟨(by simp), ?_⟩
  refine jL (i := 3) ?_
  refine jO rfl rfl (jI [2, 2, 2] Tryz.call84 rfl (N_sNumAt x m hk (by omega) (by omega) u_9) rfl (fun _ _ => trivial)) ?_
  rintro _ _ ⟨_, ⟨x_19, m_20, n_21, e_17, k_18, f_22, rfl, rfl⟩, rfl⟩
  refine ⟨(by simp), ?_⟩
  refine jK 4 rfl (jC (v := .tuple #[mv x_19 m_20, iv n_21]) rfl) <| jK 5 rfl (jS (v := mv x_19 m_20) rfl rfl) <| jK 6 rfl (jS (v := iv n_21) rfl rfl) <| jL (i := 7) ?_
  refine jo rfl (jW 4 x_19 m_20 rfl rfl rfl rfl) ?_
  rintro _ _ rfl
  refine jK 8 rfl (jG (v := iv n_21) rfl) <| kG (by kernel_rfl) <| jB <| jD <| jD <| jF <| jA (jC (v := iv n_21) rfl) <| jA (ju rfl rfl) <| jA (jC (v := .bool (decide (n_21 = 0))) rfl) ?_
  by_cases h_23 : n_21 = 0
  · refine jY (b := true) rfl rfl rfl (cB (dT h_23)) <| jY (b := true) rfl rfl rfl (cB (dT h_23)) <| jY (b := true) rfl rfl rfl (cB (dT h_23)) <| jA (jx (v := .bool true) (cB (dT h_23)) rfl) <| jE <| jB <| jR (cB rfl) <| jD <| jF <| jT (jP 4 x_19 m_20 rfl rfl) ?_
    refine jH rfl (jW 3 x_19 m_20 rfl rfl rfl rfl) ?_
    rintro _ _ rfl
    refine jA (jG (v := iv 0) rfl) <| jA (jG (v := iv 2) rfl) <| jE <| jB <| jM <| jX <| Done.three (.inl rfl) rfl (je (jP 3 x_19 m_20 rfl rfl) ⟨_, rfl⟩) (jN (v := iv 0) rfl) (jN (v := iv 2) rfl) (tS 3 _) ?_
    exact ⟨x_19, m_20, 0, 2, (by simp only [MS.reap, e_7, e_17, h_23, SB]; (repeat (first | rw [if_pos (by omega)] | rw [if_neg (by omega)])); all_goals (first | rfl | simp only [SB, e_7, e_17, h_23])), (k_18.mono (by omega) (by omega)), (by first | omega | (simp only [LE]; omega)), (by first | omega | (simp only [LE]; omega)), rfl, rfl⟩
  refine jb rfl rfl rfl (cB (dF h_23)) (ja (jd (jC (v := iv n_21) rfl))) ?_
  rintro _ _ ⟨rfl, rfl⟩
  refine jb rfl rfl rfl (cB (dF h_23)) (ja (jd (jC (v := iv parent) rfl))) ?_
  rintro _ _ ⟨rfl, rfl⟩
  refine jb rfl rfl rfl (cB (dF h_23)) (ja (jd (kQ rfl rfl))) ?_
  rintro _ _ ⟨rfl, rfl⟩
  refine jA (jw (v := .bool (!(decide (n_21 = parent)))) (cB (dF h_23)) rfl) <| jE <| jB ?_
  by_cases h_24 : n_21 = parent
  · refine jQ (cB (cN (dT h_24))) <| jU <| jB <| jD <| jF <| jT (jP 4 x_19 m_20 rfl rfl) <| jA (jC (v := iv id) rfl) ?_
    refine jH rfl (jI [0, 0, 0] Tryz.call30 rfl (M_state x_19 m_20 k_18 (by omega) (by omega) id (by omega)) rfl (fun _ _ => trivial)) ?_
    rintro _ _ ⟨_, ⟨x_27, m_28, n_29, e_25, k_26, f_30, rfl, rfl⟩, rfl⟩
    refine jA (jC (v := .tuple #[mv x_27 m_28, iv n_29]) rfl) <| jA (jS (v := mv x_27 m_28) rfl rfl) <| jA (jS (v := iv n_29) rfl rfl) ?_
    refine jH rfl (jW 4 x_27 m_28 rfl rfl rfl rfl) ?_
    rintro _ _ rfl
    refine jA (jG (v := iv n_29) rfl) <| jE <| jB <| jD <| jD <| jF <| jA (jC (v := iv n_29) rfl) <| jA (ju rfl rfl) <| jE <| jB ?_
    by_cases h_31 : n_29 = 1
    · refine jR (cB (dT h_31)) <| jD <| jF <| jT (jP 4 x_27 m_28 rfl rfl) ?_
      refine jH rfl (jW 3 x_27 m_28 rfl rfl rfl rfl) ?_
      rintro _ _ rfl
      refine jA (jG (v := iv 0) rfl) <| jA (jG (v := iv 5) rfl) <| jE <| jB <| jM <| jX <| Done.three (.inl rfl) rfl (je (jP 3 x_27 m_28 rfl rfl) ⟨_, rfl⟩) (jN (v := iv 0) rfl) (jN (v := iv 5) rfl) (tS 3 _) ?_
      exact ⟨x_27, m_28, 0, 5, (by simp only [MS.reap, e_7, e_17, h_23, h_24, e_25, h_31, SB]; (repeat (first | rw [if_pos (by omega)] | rw [if_neg (by omega)])); all_goals (first | rfl | simp only [SB, e_7, e_17, h_23, h_24, e_25, h_31])), (k_26.mono (by omega) (by omega)), (by first | omega | (simp only [LE]; omega)), (by first | omega | (simp only [LE]; omega)), rfl, rfl⟩
    refine jQ (cB (dF h_31)) <| jU <| jB <| jD <| jD <| jF <| jA (jC (v := iv n_29) rfl) <| jA (kQ rfl rfl) <| jE <| jB ?_
    by_cases h_32 : n_29 = 2
    · refine jQ (cB (cN (dT h_32))) <| jU <| jB <| jD <| jq [mb b_1 x_27 m_28] 7 mixed (by simp) <| jl 0 rfl (jP 0 x_27 m_28 rfl rfl) <| jK 1 rfl (jC (v := iv id) rfl) <| jL (i := 2) ?_
      refine jO rfl rfl (jI [] Tryz.call85 rfl (N_l09Key id [47, 120] (by omega) (show List.length ([47, 120] : Str) ≤ 2 by decide) (by omega)) rfl (fun _ _ => trivial)) ?_
      rintro _ _ ⟨_, ⟨u_39, e_37, f_40, rfl, rfl⟩, rfl⟩
      refine ⟨(by simp), ?_⟩
      refine jL (i := 3) ?_
      refine jO rfl rfl (jI [0, 0, 0] Tryz.call84 rfl (N_sNumAt x_27 m_28 k_26 (by omega) (by omega) u_39) rfl (fun _ _ => trivial)) ?_
      rintro _ _ ⟨_, ⟨x_49, m_50, n_51, e_47, k_48, f_52, rfl, rfl⟩, rfl⟩
      refine ⟨(by simp), ?_⟩
      refine jK 4 rfl (jC (v := .tuple #[mv x_49 m_50, iv n_51]) rfl) <| jK 5 rfl (jS (v := mv x_49 m_50) rfl rfl) <| jK 6 rfl (jS (v := iv n_51) rfl rfl) <| jL (i := 7) ?_
      refine jo rfl (jW 4 x_49 m_50 rfl rfl rfl rfl) ?_
      rintro _ _ rfl
      refine jK 8 rfl (jG (v := iv n_51) rfl) <| kG (by kernel_rfl) <| jB <| jD <| jq [mb b_1 x_49 m_50] 6 mixed (by simp) <| jl 0 rfl (jP 0 x_49 m_50 rfl rfl) <| jK 1 rfl (jC (v := iv id) rfl) <| jK 4 rfl (jC (v := iv n_51) rfl) <| jK 5 rfl (kR (c := n_51 - 1) rfl rfl (wr (by omega))) <| jL (i := 2) ?_
      refine jO rfl rfl (jI [] Tryz.call85 rfl (N_l09Key id [47] (by omega) (show List.length ([47] : Str) ≤ 1 by decide) (by omega)) rfl (fun _ _ => trivial)) ?_
      rintro _ _ ⟨_, ⟨u_67, e_65, f_68, rfl, rfl⟩, rfl⟩
      refine ⟨(by simp), ?_⟩
      refine jL (i := 3) ?_
      refine jO rfl rfl (jI [0, 0, 0] Tryz.call93 rfl (M_wipe x_49 m_50 k_48 (by omega) (by omega) u_67 (by omega)) rfl (fun _ _ => trivial)) ?_
      rintro _ _ ⟨_, ⟨x_75, m_76, e_73, k_74, rfl, rfl⟩, rfl⟩
      refine ⟨(by simp), ?_⟩
      refine jL (i := 6) ?_
      refine jo rfl (jW 3 x_75 m_76 rfl rfl rfl rfl) ?_
      rintro _ _ rfl
      refine jK 7 rfl (jG (v := iv (n_51 - 1)) rfl) <| jK 8 rfl (jG (v := iv 0) rfl) <| kG (by kernel_rfl) <| jB <| jM <| Done.three (.inl rfl) rfl (je (jP 3 x_75 m_76 rfl rfl) ⟨_, rfl⟩) (jN (v := iv (n_51 - 1)) rfl) (jN (v := iv 0) rfl) (tS 3 _) ?_
      exact ⟨x_75, m_76, (n_51 - 1), 0, (by simp only [MS.reap, e_7, e_17, h_23, h_24, e_25, h_31, h_32, e_37, e_47, e_65, e_73, SB]; (repeat (first | rw [if_pos (by omega)] | rw [if_neg (by omega)])); all_goals (first | rfl | simp only [SB, e_7, e_17, h_23, h_24, e_25, h_31, h_32, e_37, e_47, e_65, e_73])), (k_74.mono (by omega) (by omega)), (by first | omega | (simp only [LE]; omega)), (by first | omega | (simp only [LE]; omega)), rfl, rfl⟩
    refine jR (cB (cN (dF h_32))) <| jD <| jF <| jT (jP 4 x_27 m_28 rfl rfl) ?_
    refine jH rfl (jW 3 x_27 m_28 rfl rfl rfl rfl) ?_
    rintro _ _ rfl
    refine jA (jG (v := iv 0) rfl) <| jA (jG (v := iv 2) rfl) <| jE <| jB <| jM <| jX <| Done.three (.inl rfl) rfl (je (jP 3 x_27 m_28 rfl rfl) ⟨_, rfl⟩) (jN (v := iv 0) rfl) (jN (v := iv 2) rfl) (tS 3 _) ?_
    exact ⟨x_27, m_28, 0, 2, (by simp only [MS.reap, e_7, e_17, h_23, h_24, e_25, h_31, h_32, SB]; (repeat (first | rw [if_pos (by omega)] | rw [if_neg (by omega)])); all_goals (first | rfl | simp only [SB, e_7, e_17, h_23, h_24, e_25, h_31, h_32])), (k_26.mono (by omega) (by omega)), (by first | omega | (simp only [LE]; omega)), (by first | omega | (simp only [LE]; omega)), rfl, rfl⟩
  refine jR (cB (cN (dF h_24))) <| jD <| jF <| jT (jP 4 x_19 m_20 rfl rfl) ?_
  refine jH rfl (jW 3 x_19 m_20 rfl rfl rfl rfl) ?_
  rintro _ _ rfl
  refine jA (jG (v := iv 0) rfl) <| jA (jG (v := iv 2) rfl) <| jE <| jB <| jM <| jX <| Done.three (.inl rfl) rfl (je (jP 3 x_19 m_20 rfl rfl) ⟨_, rfl⟩) (jN (v := iv 0) rfl) (jN (v := iv 2) rfl) (tS 3 _) ?_
  exact ⟨x_19, m_20, 0, 2, (by simp only [MS.reap, e_7, e_17, h_23, h_24, SB]; (repeat (first | rw [if_pos (by omega)] | rw [if_neg (by omega)])); all_goals (first | rfl | simp only [SB, e_7, e_17, h_23, h_24])), (k_18.mono (by omega) (by omega)), (by first | omega | (simp only [LE]; omega)), (by first | omega | (simp only [LE]; omega)), rfl, rfl⟩

theorem N_takeSignal (p : Nat) (x : MA) (m : MS) {S T : Nat} (hk : m.ok S T) (hS : S ≤ 50000000) (hT : T ≤ 50000000) (id : Int) (hid : -9223372036854775808 ≤ id ∧ id ≤ 9223372036854775807) :
    Ct Tryz.prog 73 [.pointer (some ⟨p, 0, none⟩), .int .i64 id] (mb p x m :: mr x m) (fun _ => True) (fun v A' => ∃ x' m' r0 r1, MS.takeSignal m id = (m', r0, r1) ∧ m'.ok (S + 1) (T + 5) ∧ (0 ≤ r0 ∧ r0 ≤ 999) ∧ (0 ≤ r1 ∧ r1 ≤ 9) ∧ v = .tuple #[.int .i64 r0, .int .i64 r1] ∧ A' = mb p x' m' :: mr x' m') := by
  refine Ct.intro Tryz.func73 rfl Tryz.ntmps73 (lb rfl) fun w0 hpre => ?_
  refine jD <| jF <| jA (jG (v := iv 0) rfl) <| jA (jG (v := iv 0) rfl) <| jE <| jB <| jD <| jF <| jA (jC (v := pv p) rfl) <| jA (jC (v := iv id) rfl) ?_
  refine jH rfl (jI [] Tryz.call143 rfl (N_signalKey id [47, 104] (by omega) (show List.length ([47, 104] : Str) ≤ 2 by decide) (by omega)) rfl (fun _ _ => trivial)) ?_
  rintro _ _ ⟨_, ⟨u_3, e_1, f_4, rfl, rfl⟩, rfl⟩
  refine jH rfl (jI [0, 0, 0, 0] Tryz.call118 rfl (N_num p x m hk (by omega) (by omega) u_3) rfl (fun _ _ => trivial)) ?_
  rintro _ _ ⟨_, ⟨x_7, m_8, n_9, e_5, k_6, f_10, rfl, rfl⟩, rfl⟩
  refine jA (jG (v := iv n_9) rfl) <| jE <| jB <| jD <| jD <| jF <| jA (jC (v := pv p) rfl) <| jA (jC (v := iv id) rfl) ?_
  refine jH rfl (jI [] Tryz.call143 rfl (N_signalKey id [47, 116] (by omega) (show List.length ([47, 116] : Str) ≤ 2 by decide) (by omega)) rfl (fun _ _ => trivial)) ?_
  rintro _ _ ⟨_, ⟨u_13, e_11, f_14, rfl, rfl⟩, rfl⟩
  refine jH rfl (jI [0, 0, 0, 0] Tryz.call118 rfl (N_num p x_7 m_8 k_6 (by omega) (by omega) u_13) rfl (fun _ _ => trivial)) ?_
  rintro _ _ ⟨_, ⟨x_17, m_18, n_19, e_15, k_16, f_20, rfl, rfl⟩, rfl⟩
  refine jA (jC (v := iv n_9) rfl) <| jA (ju rfl rfl) <| jE <| jB ?_
  by_cases h_21 : n_19 = n_9
  · refine jR (cB (dT h_21)) <| jD <| jF <| jA (jG (v := iv 0) rfl) <| jA (jG (v := iv 5) rfl) <| jE <| jB <| jM <| jX <| jj (.inl rfl) rfl (jN (v := iv 0) rfl) (jN (v := iv 5) rfl) (List.Sublist.refl _) ?_
    exact ⟨x_17, m_18, 0, 5, (by simp only [MS.takeSignal, e_1, e_5, e_11, e_15, h_21, SB]; (repeat (first | rw [if_pos (by omega)] | rw [if_neg (by omega)])); all_goals (first | rfl | simp only [SB, e_1, e_5, e_11, e_15, h_21])), (k_16.mono (by omega) (by omega)), (by first | omega | (simp only [LE]; omega)), (by first | omega | (simp only [LE]; omega)), rfl, rfl⟩
  refine jQ (cB (dF h_21)) <| jU <| jB <| jD <| jF <| jA (jC (v := iv id) rfl) ?_
  refine jH rfl (jI [] Tryz.call143 rfl (N_signalKey id [47, 113, 47] (by omega) (show List.length ([47, 113, 47] : Str) ≤ 3 by decide) (by omega)) rfl (fun _ _ => trivial)) ?_
  rintro _ _ ⟨_, ⟨u_24, e_22, f_25, rfl, rfl⟩, rfl⟩
  refine jA (jC (v := iv n_9) rfl) <| jA (jg (c := n_9 + 1) rfl rfl (wr (by omega))) ?_
  refine jH rfl (jI [] Tryz.call129 rfl (N_keyNum u_24 (n_9 + 1) [] (Nat.le_refl _) (by omega) (show List.length ([] : Str) ≤ 0 by decide) (by omega)) rfl (fun _ _ => trivial)) ?_
  rintro _ _ ⟨_, ⟨u_28, e_26, f_29, rfl, rfl⟩, rfl⟩
  refine jA (jG (v := str u_28) rfl) <| jE <| jB <| jD <| jF <| jA (jC (v := pv p) rfl) <| jA (jC (v := str u_28) rfl) ?_
  refine jH rfl (jI [0, 0, 0, 0] Tryz.call118 rfl (N_num p x_17 m_18 k_16 (by omega) (by omega) u_28) rfl (fun _ _ => trivial)) ?_
  rintro _ _ ⟨_, ⟨x_32, m_33, n_34, e_30, k_31, f_35, rfl, rfl⟩, rfl⟩
  refine jA (jG (v := iv n_34) rfl) <| jE <| jB <| jD <| jF <| jA (jC (v := pv p) rfl) <| jA (jC (v := str u_28) rfl) ?_
  refine jH rfl (jI [0, 0, 0, 0] Tryz.call127 rfl (N_layNil p x_32 m_33 k_31 (by omega) (by omega) u_28 (by omega)) rfl (fun _ _ => trivial)) ?_
  rintro _ _ ⟨_, ⟨x_38, m_39, e_36, k_37, rfl, rfl⟩, rfl⟩
  refine jE <| jB <| jD <| jF <| jA (jC (v := pv p) rfl) <| jA (jC (v := iv id) rfl) ?_
  refine jH rfl (jI [] Tryz.call143 rfl (N_signalKey id [47, 104] (by omega) (show List.length ([47, 104] : Str) ≤ 2 by decide) (by omega)) rfl (fun _ _ => trivial)) ?_
  rintro _ _ ⟨_, ⟨u_42, e_40, f_43, rfl, rfl⟩, rfl⟩
  have hqe_40 := e_1.symm.trans e_40
  subst hqe_40
  refine jA (jC (v := iv n_9) rfl) <| jA (jg (c := n_9 + 1) rfl rfl (wr (by omega))) ?_
  refine jH rfl (jI [0, 0, 0, 0] Tryz.call124 rfl (N_setNum p x_38 m_39 k_37 (by omega) (by omega) u_3 (n_9 + 1) (by omega) (by omega)) rfl (fun _ _ => trivial)) ?_
  rintro _ _ ⟨_, ⟨x_46, m_47, e_44, k_45, rfl, rfl⟩, rfl⟩
  refine jE <| jB <| jD <| jF <| jA (jC (v := iv n_34) rfl) <| jA (jG (v := iv n_34) rfl) <| jA (jG (v := iv 0) rfl) <| jE <| jB <| jM ?_
  refine jj (.inl rfl) rfl (jN (v := iv n_34) rfl) (jN (v := iv 0) rfl) (List.Sublist.refl _) ?_
  exact ⟨x_46, m_47, n_34, 0, (by simp only [MS.takeSignal, e_1, e_5, e_11, e_15, h_21, e_22, e_26, e_30, e_36, e_44, SB]; (repeat (first | rw [if_pos (by omega)] | rw [if_neg (by omega)])); all_goals (first | rfl | simp only [SB, e_1, e_5, e_11, e_15, h_21, e_22, e_26, e_30, e_36, e_44])), (k_45.mono (by omega) (by omega)), (by first | omega | (simp only [LE]; omega)), (by first | omega | (simp only [LE]; omega)), rfl, rfl⟩

theorem M_takeSignal (x : MA) (m : MS) {S T : Nat} (hk : m.ok S T) (hS : S ≤ 50000000) (hT : T ≤ 50000000) (id : Int) (hid : -9223372036854775808 ≤ id ∧ id ≤ 9223372036854775807) :
    Ct Tryz.prog 42 [mv x m, .int .i64 id] (mr x m) (fun _ => True) (fun v A' => ∃ x' m' r0 r1, MS.takeSignal m id = (m', r0, r1) ∧ m'.ok (S + 1) (T + 5) ∧ (0 ≤ r0 ∧ r0 ≤ 999) ∧ (0 ≤ r1 ∧ r1 ≤ 9) ∧ v = .tuple #[mv x' m', .int .i64 r0, .int .i64 r1] ∧ A' = mr x' m') := by
  refine Ct.intro Tryz.func42 rfl Tryz.ntmps42 (lb rfl) fun w0 hpre => ?_
  refine jD <| jF ?_
  refine jH rfl (jv (cs := (mc x m)) rfl rfl) ?_
  rintro _ _ ⟨b_1, rfl, rfl⟩
  refine jH rfl (jh (z := zM) (cs := zC) kd rfl) ?_
  rintro _ _ ⟨b_2, rfl, rfl⟩
  refine jA (jG (v := iv 0) rfl) <| jA (jG (v := iv 0) rfl) <| jE <| jB <| jD <| jq [mb b_1 x m] 7 mixed (by simp) <| jl 0 rfl (jP 0 x m rfl rfl) <| jK 1 rfl (jC (v := iv id) rfl) <| jL (i := 2) ?_
  refine jO rfl rfl (jI [] Tryz.call104 rfl (N_l10Key id [47, 104] (by omega) (show List.length ([47, 104] : Str) ≤ 2 by decide) (by omega)) rfl (fun _ _ => trivial)) ?_
  rintro _ _ ⟨_, ⟨u_9, e_7, f_10, rfl, rfl⟩, rfl⟩
  refine ⟨(by simp), ?_⟩
  refine jL (i := 3) ?_
  refine jO rfl rfl (jI [2, 2, 2] Tryz.call84 rfl (N_sNumAt x m hk (by omega) (by omega) u_9) rfl (fun _ _ => trivial)) ?_
  rintro _ _ ⟨_, ⟨x_19, m_20, n_21, e_17, k_18, f_22, rfl, rfl⟩, rfl⟩
  refine ⟨(by simp), ?_⟩
  refine jK 4 rfl (jC (v := .tuple #[mv x_19 m_20, iv n_21]) rfl) <| jK 5 rfl (jS (v := mv x_19 m_20) rfl rfl) <| jK 6 rfl (jS (v := iv n_21) rfl rfl) <| jL (i := 7) ?_
  refine jo rfl (jW 4 x_19 m_20 rfl rfl rfl rfl) ?_
  rintro _ _ rfl
  refine jK 8 rfl (jG (v := iv n_21) rfl) <| kG (by kernel_rfl) <| jB <| jD <| jq [mb b_1 x_19 m_20] 7 mixed (by simp) <| jl 0 rfl (jP 0 x_19 m_20 rfl rfl) <| jK 1 rfl (jC (v := iv id) rfl) <| jL (i := 2) ?_
  refine jO rfl rfl (jI [] Tryz.call104 rfl (N_l10Key id [47, 116] (by omega) (show List.length ([47, 116] : Str) ≤ 2 by decide) (by omega)) rfl (fun _ _ => trivial)) ?_
  rintro _ _ ⟨_, ⟨u_29, e_27, f_30, rfl, rfl⟩, rfl⟩
  refine ⟨(by simp), ?_⟩
  refine jL (i := 3) ?_
  refine jO rfl rfl (jI [0, 0, 0] Tryz.call84 rfl (N_sNumAt x_19 m_20 k_18 (by omega) (by omega) u_29) rfl (fun _ _ => trivial)) ?_
  rintro _ _ ⟨_, ⟨x_39, m_40, n_41, e_37, k_38, f_42, rfl, rfl⟩, rfl⟩
  refine ⟨(by simp), ?_⟩
  refine jK 4 rfl (jC (v := .tuple #[mv x_39 m_40, iv n_41]) rfl) <| jK 5 rfl (jS (v := mv x_39 m_40) rfl rfl) <| jK 6 rfl (jS (v := iv n_41) rfl rfl) <| jL (i := 7) ?_
  refine jo rfl (jW 4 x_39 m_40 rfl rfl rfl rfl) ?_
  rintro _ _ rfl
  refine jK 8 rfl (jG (v := iv n_41) rfl) <| kG (by kernel_rfl) <| jB <| jD <| jD <| jF <| jA (jC (v := iv n_21) rfl) <| jA (jC (v := iv n_41) rfl) <| jA (ju rfl rfl) <| jE ?_
  refine jB ?_
  by_cases h_43 : n_21 = n_41
  · refine jR (cB (dT h_43)) <| jD <| jF <| jT (jP 4 x_39 m_40 rfl rfl) ?_
    refine jH rfl (jW 3 x_39 m_40 rfl rfl rfl rfl) ?_
    rintro _ _ rfl
    refine jA (jG (v := iv 0) rfl) <| jA (jG (v := iv 5) rfl) <| jE <| jB <| jM <| jX <| Done.three (.inl rfl) rfl (je (jP 3 x_39 m_40 rfl rfl) ⟨_, rfl⟩) (jN (v := iv 0) rfl) (jN (v := iv 5) rfl) (tS 3 _) ?_
    exact ⟨x_39, m_40, 0, 5, (by simp only [MS.takeSignal, e_7, e_17, e_27, e_37, h_43, SB]; (repeat (first | rw [if_pos (by omega)] | rw [if_neg (by omega)])); all_goals (first | rfl | simp only [SB, e_7, e_17, e_27, e_37, h_43])), (k_38.mono (by omega) (by omega)), (by first | omega | (simp only [LE]; omega)), (by first | omega | (simp only [LE]; omega)), rfl, rfl⟩
  refine jQ (cB (dF h_43)) <| jU <| jB <| jD <| jq [mb b_1 x_39 m_40] 9 mixed (by simp) <| jl 0 rfl (jP 0 x_39 m_40 rfl rfl) <| jK 1 rfl (jC (v := iv id) rfl) <| jK 2 rfl (jC (v := iv n_21) rfl) <| jK 3 rfl (jg (c := n_21 + 1) rfl rfl (wr (by omega))) <| jL (i := 4) ?_
  refine jO rfl rfl (jI [] Tryz.call105 rfl (N_l10Signal id (n_21 + 1) (by omega) (by omega)) rfl (fun _ _ => trivial)) ?_
  rintro _ _ ⟨_, ⟨u_50, e_48, f_51, rfl, rfl⟩, rfl⟩
  refine ⟨(by simp), ?_⟩
  refine jL (i := 5) ?_
  refine jO rfl rfl (jI [0, 0, 0] Tryz.call84 rfl (N_sNumAt x_39 m_40 k_38 (by omega) (by omega) u_50) rfl (fun _ _ => trivial)) ?_
  rintro _ _ ⟨_, ⟨x_60, m_61, n_62, e_58, k_59, f_63, rfl, rfl⟩, rfl⟩
  refine ⟨(by simp), ?_⟩
  refine jK 6 rfl (jC (v := .tuple #[mv x_60 m_61, iv n_62]) rfl) <| jK 7 rfl (jS (v := mv x_60 m_61) rfl rfl) <| jK 8 rfl (jS (v := iv n_62) rfl rfl) <| jL (i := 9) ?_
  refine jo rfl (jW 4 x_60 m_61 rfl rfl rfl rfl) ?_
  rintro _ _ rfl
  refine jK 10 rfl (jG (v := iv n_62) rfl) <| kG (by kernel_rfl) <| jB <| jD <| jq [mb b_1 x_60 m_61] 5 mixed (by simp) <| jl 0 rfl (jP 0 x_60 m_61 rfl rfl) <| jK 1 rfl (jC (v := iv id) rfl) <| jK 2 rfl (jC (v := iv n_21) rfl) <| jK 3 rfl (jg (c := n_21 + 1) rfl rfl (wr (by omega))) <| jL (i := 4) ?_
  refine jO rfl rfl (jI [] Tryz.call105 rfl (N_l10Signal id (n_21 + 1) (by omega) (by omega)) rfl (fun _ _ => trivial)) ?_
  rintro _ _ ⟨_, ⟨u_70, e_68, f_71, rfl, rfl⟩, rfl⟩
  have hqe_68 := e_48.symm.trans e_68
  subst hqe_68
  refine ⟨(by simp), ?_⟩
  refine jL (i := 5) ?_
  refine jo rfl (jI [0, 0, 0] Tryz.call92 rfl (N_sLayNil x_60 m_61 k_59 (by omega) (by omega) u_50 (by omega)) rfl (fun _ _ => trivial)) ?_
  rintro _ _ ⟨_, ⟨x_78, m_79, e_76, k_77, rfl, rfl⟩, rfl⟩
  refine jL (i := 6) ?_
  refine jp rfl (jW 4 x_78 m_79 rfl rfl rfl rfl) ?_
  rintro _ _ rfl
  refine jB <| jD <| jq [mb b_1 x_78 m_79] 7 mixed (by simp) <| jl 0 rfl (jP 0 x_78 m_79 rfl rfl) <| jK 1 rfl (jC (v := iv id) rfl) <| jK 3 rfl (jC (v := iv n_21) rfl) <| jK 4 rfl (jg (c := n_21 + 1) rfl rfl (wr (by omega))) <| jK 6 rfl (jC (v := iv n_62) rfl) <| jL (i := 2) ?_
  refine jO rfl rfl (jI [] Tryz.call104 rfl (N_l10Key id [47, 104] (by omega) (show List.length ([47, 104] : Str) ≤ 2 by decide) (by omega)) rfl (fun _ _ => trivial)) ?_
  rintro _ _ ⟨_, ⟨u_98, e_96, f_99, rfl, rfl⟩, rfl⟩
  have hqe_96 := e_7.symm.trans e_96
  subst hqe_96
  refine ⟨(by simp), ?_⟩
  refine jL (i := 5) ?_
  refine jO rfl rfl (jI [0, 0, 0] Tryz.call90 rfl (N_sSetNum x_78 m_79 k_77 (by omega) (by omega) u_9 (n_21 + 1) (by omega) (by omega)) rfl (fun _ _ => trivial)) ?_
  rintro _ _ ⟨_, ⟨x_106, m_107, e_104, k_105, rfl, rfl⟩, rfl⟩
  refine ⟨(by simp), ?_⟩
  refine jL (i := 7) ?_
  refine jo rfl (jW 3 x_106 m_107 rfl rfl rfl rfl) ?_
  rintro _ _ rfl
  refine jK 8 rfl (jG (v := iv n_62) rfl) <| jK 9 rfl (jG (v := iv 0) rfl) <| kG (by kernel_rfl) <| jB <| jM <| Done.three (.inl rfl) rfl (je (jP 3 x_106 m_107 rfl rfl) ⟨_, rfl⟩) (jN (v := iv n_62) rfl) (jN (v := iv 0) rfl) (tS 3 _) ?_
  exact ⟨x_106, m_107, n_62, 0, (by simp only [MS.takeSignal, e_7, e_17, e_27, e_37, h_43, e_48, e_58, e_76, e_104, SB]; (repeat (first | rw [if_pos (by omega)] | rw [if_neg (by omega)])); all_goals (first | rfl | simp only [SB, e_7, e_17, e_27, e_37, h_43, e_48, e_58, e_76, e_104])), (k_105.mono (by omega) (by omega)), (by first | omega | (simp only [LE]; omega)), (by first | omega | (simp only [LE]; omega)), rfl, rfl⟩

theorem N_send (p : Nat) (x : MA) (m : MS) {S T : Nat} (hk : m.ok S T) (hS : S ≤ 50000000) (hT : T ≤ 50000000) (to_ : Int) (n : Int) (hto_ : -9223372036854775808 ≤ to_ ∧ to_ ≤ 9223372036854775807) (hn : -9223372036854775808 ≤ n ∧ n ≤ 9223372036854775807) :
    Ct Tryz.prog 72 [.pointer (some ⟨p, 0, none⟩), .int .i64 to_, .int .i64 n] (mb p x m :: mr x m) (fun _ => True) (fun v A' => ∃ x' m' r0, MS.send m to_ n = (m', r0) ∧ m'.ok (S + 2) (T + 5) ∧ (0 ≤ r0 ∧ r0 ≤ 9) ∧ v = .int .i64 r0 ∧ A' = mb p x' m' :: mr x' m') := by
  refine Ct.intro Tryz.func72 rfl Tryz.ntmps72 (lb rfl) fun w0 hpre => ?_
  refine jD <| jF <| jA (jG (v := iv 0) rfl) <| jE <| jB <| jD <| jD <| jF <| jA (jC (v := pv p) rfl) <| jA (jC (v := iv to_) rfl) ?_
  refine jH rfl (jI [0, 0, 0, 0] Tryz.call54 rfl (N_state p x m hk (by omega) (by omega) to_ (by omega)) rfl (fun _ _ => trivial)) ?_
  rintro _ _ ⟨_, ⟨x_3, m_4, n_5, e_1, k_2, f_6, rfl, rfl⟩, rfl⟩
  refine jA (kQ rfl rfl) <| jE <| jB ?_
  by_cases h_7 : n_5 = 1
  · refine jQ (cB (cN (dT h_7))) <| jU <| jB <| jD <| jD <| jF <| jA (jC (v := iv n) rfl) ?_
    refine jH rfl (jI [] Tryz.call120 rfl (C_within n 1 31) rfl (fun _ _ => trivial)) ?_
    rintro _ _ ⟨_, ⟨rfl, rfl⟩, rfl⟩
    refine jA (kA rfl) <| jE <| jB ?_
    rcases Bool.eq_false_or_eq_true (decide (1 ≤ n) && decide (n ≤ 31)) with h_8 | h_8
    · have h_8d := h_8
      simp only [Bool.and_eq_true, Bool.and_eq_false_iff, decide_eq_true_eq, decide_eq_false_iff_not] at h_8d
      refine jQ (cB (cN h_8)) <| jU <| jB <| jD <| jF <| jA (jC (v := pv p) rfl) <| jA (jC (v := iv to_) rfl) ?_
      refine jH rfl (jI [] Tryz.call143 rfl (N_signalKey to_ [47, 116] (by omega) (show List.length ([47, 116] : Str) ≤ 2 by decide) (by omega)) rfl (fun _ _ => trivial)) ?_
      rintro _ _ ⟨_, ⟨u_11, e_9, f_12, rfl, rfl⟩, rfl⟩
      refine jH rfl (jI [0, 0, 0, 0] Tryz.call118 rfl (N_num p x_3 m_4 k_2 (by omega) (by omega) u_11) rfl (fun _ _ => trivial)) ?_
      rintro _ _ ⟨_, ⟨x_15, m_16, n_17, e_13, k_14, f_18, rfl, rfl⟩, rfl⟩
      refine jA (jG (v := iv n_17) rfl) <| jE <| jB <| jD <| jF <| jA (jC (v := pv p) rfl) <| jA (jC (v := iv to_) rfl) ?_
      refine jH rfl (jI [] Tryz.call143 rfl (N_signalKey to_ [47, 104] (by omega) (show List.length ([47, 104] : Str) ≤ 2 by decide) (by omega)) rfl (fun _ _ => trivial)) ?_
      rintro _ _ ⟨_, ⟨u_21, e_19, f_22, rfl, rfl⟩, rfl⟩
      refine jH rfl (jI [0, 0, 0, 0] Tryz.call118 rfl (N_num p x_15 m_16 k_14 (by omega) (by omega) u_21) rfl (fun _ _ => trivial)) ?_
      rintro _ _ ⟨_, ⟨x_25, m_26, n_27, e_23, k_24, f_28, rfl, rfl⟩, rfl⟩
      refine jA (jG (v := iv n_27) rfl) <| jE <| jB <| jD <| jm <| jD <| jF <| jA (jC (v := iv n_17) rfl) <| jA (jC (v := iv n_27) rfl) <| jA (kR (c := n_17 - n_27) rfl rfl (wr (by omega))) ?_
      refine jA (kT rfl rfl) <| jA (jG (v := .bool (decide (4 ≤ (n_17 - n_27)))) rfl) <| jE <| jB ?_
      by_cases h_29 : 4 ≤ (n_17 - n_27)
      · refine jR (cB (dT h_29)) <| jD <| jF <| jA (jG (v := iv 5) rfl) <| jE <| jB <| jM <| jz <| jX <| jV (.inl rfl) rfl (jN (v := iv 5) rfl) (List.Sublist.refl _) ?_
        exact ⟨x_25, m_26, 5, (by simp only [MS.send, e_1, h_7, h_8, e_9, e_13, e_19, e_23, h_29, SB]; (repeat (first | rw [if_pos (by omega)] | rw [if_neg (by omega)])); all_goals (first | rfl | simp only [SB, e_1, h_7, h_8, e_9, e_13, e_19, e_23, h_29])), (k_24.mono (by omega) (by omega)), (by first | omega | (simp only [LE]; omega)), rfl, rfl⟩
      refine jQ (cB (dF h_29)) <| jD <| jF <| jA (jC (v := iv n_17) rfl) <| jA (kT rfl rfl) <| jA (jG (v := .bool (decide (999 ≤ n_17))) rfl) <| jE <| jB ?_
      by_cases h_30 : 999 ≤ n_17
      · refine jR (cB (dT h_30)) <| jD <| jF <| jA (jG (v := iv 3) rfl) <| jE <| jB <| jM <| jz <| jX <| jV (.inl rfl) rfl (jN (v := iv 3) rfl) (List.Sublist.refl _) ?_
        exact ⟨x_25, m_26, 3, (by simp only [MS.send, e_1, h_7, h_8, e_9, e_13, e_19, e_23, h_29, h_30, SB]; (repeat (first | rw [if_pos (by omega)] | rw [if_neg (by omega)])); all_goals (first | rfl | simp only [SB, e_1, h_7, h_8, e_9, e_13, e_19, e_23, h_29, h_30])), (k_24.mono (by omega) (by omega)), (by first | omega | (simp only [LE]; omega)), rfl, rfl⟩
      refine jQ (cB (dF h_30)) <| jU <| jk <| jB <| jD <| jF <| jA (jC (v := pv p) rfl) <| jA (jC (v := iv to_) rfl) ?_
      refine jH rfl (jI [] Tryz.call143 rfl (N_signalKey to_ [47, 116] (by omega) (show List.length ([47, 116] : Str) ≤ 2 by decide) (by omega)) rfl (fun _ _ => trivial)) ?_
      rintro _ _ ⟨_, ⟨u_33, e_31, f_34, rfl, rfl⟩, rfl⟩
      have hqe_31 := e_9.symm.trans e_31
      subst hqe_31
      refine jA (jC (v := iv n_17) rfl) <| jA (jg (c := n_17 + 1) rfl rfl (wr (by omega))) ?_
      refine jH rfl (jI [0, 0, 0, 0] Tryz.call124 rfl (N_setNum p x_25 m_26 k_24 (by omega) (by omega) u_11 (n_17 + 1) (by omega) (by omega)) rfl (fun _ _ => trivial)) ?_
      rintro _ _ ⟨_, ⟨x_37, m_38, e_35, k_36, rfl, rfl⟩, rfl⟩
      refine jE <| jB <| jD <| jF <| jA (jC (v := pv p) rfl) <| jA (jC (v := iv to_) rfl) ?_
      refine jH rfl (jI [] Tryz.call143 rfl (N_signalKey to_ [47, 113, 47] (by omega) (show List.length ([47, 113, 47] : Str) ≤ 3 by decide) (by omega)) rfl (fun _ _ => trivial)) ?_
      rintro _ _ ⟨_, ⟨u_41, e_39, f_42, rfl, rfl⟩, rfl⟩
      refine jA (jC (v := iv n_17) rfl) <| jA (jg (c := n_17 + 1) rfl rfl (wr (by omega))) ?_
      refine jH rfl (jI [] Tryz.call129 rfl (N_keyNum u_41 (n_17 + 1) [] (Nat.le_refl _) (by omega) (show List.length ([] : Str) ≤ 0 by decide) (by omega)) rfl (fun _ _ => trivial)) ?_
      rintro _ _ ⟨_, ⟨u_45, e_43, f_46, rfl, rfl⟩, rfl⟩
      refine jA (jC (v := iv n) rfl) ?_
      refine jH rfl (jI [0, 0, 0, 0] Tryz.call124 rfl (N_setNum p x_37 m_38 k_36 (by omega) (by omega) u_45 n (by omega) (by omega)) rfl (fun _ _ => trivial)) ?_
      rintro _ _ ⟨_, ⟨x_49, m_50, e_47, k_48, rfl, rfl⟩, rfl⟩
      refine jE <| jB <| jD <| jF <| jA (jG (v := iv 0) rfl) <| jE <| jB <| jM <| jV (.inl rfl) rfl (jN (v := iv 0) rfl) (List.Sublist.refl _) ?_
      exact ⟨x_49, m_50, 0, (by simp only [MS.send, e_1, h_7, h_8, e_9, e_13, e_19, e_23, h_29, h_30, e_35, e_39, e_43, e_47, SB]; (repeat (first | rw [if_pos (by omega)] | rw [if_neg (by omega)])); all_goals (first | rfl | simp only [SB, e_1, h_7, h_8, e_9, e_13, e_19, e_23, h_29, h_30, e_35, e_39, e_43, e_47])), (k_48.mono (by omega) (by omega)), (by first | omega | (simp only [LE]; omega)), rfl, rfl⟩
    have h_8d := h_8
    simp only [Bool.and_eq_true, Bool.and_eq_false_iff, decide_eq_true_eq, decide_eq_false_iff_not] at h_8d
    refine jR (cB (cN h_8)) <| jD <| jF <| jA (jG (v := iv 4) rfl) <| jE <| jB <| jM <| jX <| jV (.inl rfl) rfl (jN (v := iv 4) rfl) (List.Sublist.refl _) ?_
    exact ⟨x_3, m_4, 4, (by simp only [MS.send, e_1, h_7, h_8, SB]; (repeat (first | rw [if_pos (by omega)] | rw [if_neg (by omega)])); all_goals (first | rfl | simp only [SB, e_1, h_7, h_8])), (k_2.mono (by omega) (by omega)), (by first | omega | (simp only [LE]; omega)), rfl, rfl⟩
  refine jR (cB (cN (dF h_7))) <| jD <| jF <| jA (jG (v := iv 2) rfl) <| jE <| jB <| jM <| jX <| jV (.inl rfl) rfl (jN (v := iv 2) rfl) (List.Sublist.refl _) ?_
  exact ⟨x_3, m_4, 2, (by simp only [MS.send, e_1, h_7, SB]; (repeat (first | rw [if_pos (by omega)] | rw [if_neg (by omega)])); all_goals (first | rfl | simp only [SB, e_1, h_7])), (k_2.mono (by omega) (by omega)), (by first | omega | (simp only [LE]; omega)), rfl, rfl⟩

theorem M_send (x : MA) (m : MS) {S T : Nat} (hk : m.ok S T) (hS : S ≤ 50000000) (hT : T ≤ 50000000) (to_ : Int) (n : Int) (hto_ : -9223372036854775808 ≤ to_ ∧ to_ ≤ 9223372036854775807) (hn : -9223372036854775808 ≤ n ∧ n ≤ 9223372036854775807) :
    Ct Tryz.prog 41 [mv x m, .int .i64 to_, .int .i64 n] (mr x m) (fun _ => True) (fun v A' => ∃ x' m' r0, MS.send m to_ n = (m', r0) ∧ m'.ok (S + 2) (T + 5) ∧ (0 ≤ r0 ∧ r0 ≤ 9) ∧ v = .tuple #[mv x' m', .int .i64 r0] ∧ A' = mr x' m') := by
  refine Ct.intro Tryz.func41 rfl Tryz.ntmps41 (lb rfl) fun w0 hpre => ?_
  refine jD <| jF ?_
  refine jH rfl (jv (cs := (mc x m)) rfl rfl) ?_
  rintro _ _ ⟨b_1, rfl, rfl⟩
  refine jH rfl (jh (z := zM) (cs := zC) kd rfl) ?_
  rintro _ _ ⟨b_2, rfl, rfl⟩
  refine jA (jG (v := iv 0) rfl) <| jE <| jB <| jD <| jF <| jT (jP 1 x m rfl rfl) <| jA (jC (v := iv to_) rfl) ?_
  refine jH rfl (jI [2, 2, 2] Tryz.call30 rfl (M_state x m hk (by omega) (by omega) to_ (by omega)) rfl (fun _ _ => trivial)) ?_
  rintro _ _ ⟨_, ⟨x_5, m_6, n_7, e_3, k_4, f_8, rfl, rfl⟩, rfl⟩
  refine jA (jC (v := .tuple #[mv x_5 m_6, iv n_7]) rfl) <| jA (jS (v := mv x_5 m_6) rfl rfl) <| jA (jS (v := iv n_7) rfl rfl) ?_
  refine jH rfl (jW 4 x_5 m_6 rfl rfl rfl rfl) ?_
  rintro _ _ rfl
  refine jA (jG (v := iv n_7) rfl) <| jE <| jB <| jD <| jD <| jF <| jA (jC (v := iv n_7) rfl) <| jA (kQ rfl rfl) <| jE <| jB ?_
  by_cases h_9 : n_7 = 1
  · refine jQ (cB (cN (dT h_9))) <| jU <| jB <| jD <| jD <| jF <| jA (jC (v := iv n) rfl) ?_
    refine jH rfl (jI [] Tryz.call86 rfl (C_l01In n 1 31) rfl (fun _ _ => trivial)) ?_
    rintro _ _ ⟨_, ⟨rfl, rfl⟩, rfl⟩
    refine jA (kA rfl) <| jE <| jB ?_
    rcases Bool.eq_false_or_eq_true (decide (1 ≤ n) && decide (n ≤ 31)) with h_10 | h_10
    · have h_10d := h_10
      simp only [Bool.and_eq_true, Bool.and_eq_false_iff, decide_eq_true_eq, decide_eq_false_iff_not] at h_10d
      refine jQ (cB (cN h_10)) <| jU <| jB <| jD <| jq [mb b_1 x_5 m_6] 7 mixed (by simp) <| jl 0 rfl (jP 0 x_5 m_6 rfl rfl) <| jK 1 rfl (jC (v := iv to_) rfl) <| jL (i := 2) ?_
      refine jO rfl rfl (jI [] Tryz.call104 rfl (N_l10Key to_ [47, 116] (by omega) (show List.length ([47, 116] : Str) ≤ 2 by decide) (by omega)) rfl (fun _ _ => trivial)) ?_
      rintro _ _ ⟨_, ⟨u_17, e_15, f_18, rfl, rfl⟩, rfl⟩
      refine ⟨(by simp), ?_⟩
      refine jL (i := 3) ?_
      refine jO rfl rfl (jI [0, 0, 0] Tryz.call84 rfl (N_sNumAt x_5 m_6 k_4 (by omega) (by omega) u_17) rfl (fun _ _ => trivial)) ?_
      rintro _ _ ⟨_, ⟨x_27, m_28, n_29, e_25, k_26, f_30, rfl, rfl⟩, rfl⟩
      refine ⟨(by simp), ?_⟩
      refine jK 4 rfl (jC (v := .tuple #[mv x_27 m_28, iv n_29]) rfl) <| jK 5 rfl (jS (v := mv x_27 m_28) rfl rfl) <| jK 6 rfl (jS (v := iv n_29) rfl rfl) <| jL (i := 7) ?_
      refine jo rfl (jW 4 x_27 m_28 rfl rfl rfl rfl) ?_
      rintro _ _ rfl
      refine jK 8 rfl (jG (v := iv n_29) rfl) <| kG (by kernel_rfl) <| jB <| jD <| jq [mb b_1 x_27 m_28] 7 mixed (by simp) <| jl 0 rfl (jP 0 x_27 m_28 rfl rfl) <| jK 1 rfl (jC (v := iv to_) rfl) <| jL (i := 2) ?_
      refine jO rfl rfl (jI [] Tryz.call104 rfl (N_l10Key to_ [47, 104] (by omega) (show List.length ([47, 104] : Str) ≤ 2 by decide) (by omega)) rfl (fun _ _ => trivial)) ?_
      rintro _ _ ⟨_, ⟨u_37, e_35, f_38, rfl, rfl⟩, rfl⟩
      refine ⟨(by simp), ?_⟩
      refine jL (i := 3) ?_
      refine jO rfl rfl (jI [0, 0, 0] Tryz.call84 rfl (N_sNumAt x_27 m_28 k_26 (by omega) (by omega) u_37) rfl (fun _ _ => trivial)) ?_
      rintro _ _ ⟨_, ⟨x_47, m_48, n_49, e_45, k_46, f_50, rfl, rfl⟩, rfl⟩
      refine ⟨(by simp), ?_⟩
      refine jK 4 rfl (jC (v := .tuple #[mv x_47 m_48, iv n_49]) rfl) <| jK 5 rfl (jS (v := mv x_47 m_48) rfl rfl) <| jK 6 rfl (jS (v := iv n_49) rfl rfl) <| jL (i := 7) ?_
      refine jo rfl (jW 4 x_47 m_48 rfl rfl rfl rfl) ?_
      rintro _ _ rfl
      refine jK 8 rfl (jG (v := iv n_49) rfl) <| kG (by kernel_rfl) <| jB <| jD <| jD <| jF <| jA (jC (v := iv n_29) rfl) <| jA (jC (v := iv n_49) rfl) <| jA (kR (c := n_29 - n_49) rfl rfl (wr (by omega))) <| jA (kT rfl rfl) ?_
      refine jE <| jB ?_
      by_cases h_51 : 4 ≤ (n_29 - n_49)
      · refine jR (cB (dT h_51)) <| jD <| jF <| jT (jP 4 x_47 m_48 rfl rfl) ?_
        refine jH rfl (jW 3 x_47 m_48 rfl rfl rfl rfl) ?_
        rintro _ _ rfl
        refine jA (jG (v := iv 5) rfl) <| jE <| jB <| jM <| jX <| jj (.inl rfl) rfl (je (jP 3 x_47 m_48 rfl rfl) ⟨_, rfl⟩) (jN (v := iv 5) rfl) (tS 3 _) ?_
        exact ⟨x_47, m_48, 5, (by simp only [MS.send, e_3, h_9, h_10, e_15, e_25, e_35, e_45, h_51, SB]; (repeat (first | rw [if_pos (by omega)] | rw [if_neg (by omega)])); all_goals (first | rfl | simp only [SB, e_3, h_9, h_10, e_15, e_25, e_35, e_45, h_51])), (k_46.mono (by omega) (by omega)), (by first | omega | (simp only [LE]; omega)), rfl, rfl⟩
      refine jQ (cB (dF h_51)) <| jU <| jB <| jD <| jD <| jF <| jA (jC (v := iv n_29) rfl) <| jA (kT rfl rfl) <| jE <| jB ?_
      by_cases h_52 : 999 ≤ n_29
      · refine jR (cB (dT h_52)) <| jD <| jF <| jT (jP 4 x_47 m_48 rfl rfl) ?_
        refine jH rfl (jW 3 x_47 m_48 rfl rfl rfl rfl) ?_
        rintro _ _ rfl
        refine jA (jG (v := iv 3) rfl) <| jE <| jB <| jM <| jX <| jj (.inl rfl) rfl (je (jP 3 x_47 m_48 rfl rfl) ⟨_, rfl⟩) (jN (v := iv 3) rfl) (tS 3 _) ?_
        exact ⟨x_47, m_48, 3, (by simp only [MS.send, e_3, h_9, h_10, e_15, e_25, e_35, e_45, h_51, h_52, SB]; (repeat (first | rw [if_pos (by omega)] | rw [if_neg (by omega)])); all_goals (first | rfl | simp only [SB, e_3, h_9, h_10, e_15, e_25, e_35, e_45, h_51, h_52])), (k_46.mono (by omega) (by omega)), (by first | omega | (simp only [LE]; omega)), rfl, rfl⟩
      refine jQ (cB (dF h_52)) <| jU <| jB <| jD <| jq [mb b_1 x_47 m_48] 5 mixed (by simp) <| jl 0 rfl (jP 0 x_47 m_48 rfl rfl) <| jK 1 rfl (jC (v := iv to_) rfl) <| jK 3 rfl (jC (v := iv n_29) rfl) <| jK 4 rfl (jg (c := n_29 + 1) rfl rfl (wr (by omega))) <| jL (i := 2) ?_
      refine jO rfl rfl (jI [] Tryz.call104 rfl (N_l10Key to_ [47, 116] (by omega) (show List.length ([47, 116] : Str) ≤ 2 by decide) (by omega)) rfl (fun _ _ => trivial)) ?_
      rintro _ _ ⟨_, ⟨u_67, e_65, f_68, rfl, rfl⟩, rfl⟩
      have hqe_65 := e_15.symm.trans e_65
      subst hqe_65
      refine ⟨(by simp), ?_⟩
      refine jL (i := 5) ?_
      refine jo rfl (jI [0, 0, 0] Tryz.call90 rfl (N_sSetNum x_47 m_48 k_46 (by omega) (by omega) u_17 (n_29 + 1) (by omega) (by omega)) rfl (fun _ _ => trivial)) ?_
      rintro _ _ ⟨_, ⟨x_75, m_76, e_73, k_74, rfl, rfl⟩, rfl⟩
      refine jL (i := 6) ?_
      refine jp rfl (jW 4 x_75 m_76 rfl rfl rfl rfl) ?_
      rintro _ _ rfl
      refine jB <| jD <| jq [mb b_1 x_75 m_76] 6 mixed (by simp) <| jl 0 rfl (jP 0 x_75 m_76 rfl rfl) <| jK 1 rfl (jC (v := iv to_) rfl) <| jK 2 rfl (jC (v := iv n_29) rfl) <| jK 3 rfl (jg (c := n_29 + 1) rfl rfl (wr (by omega))) <| jK 5 rfl (jC (v := iv n) rfl) <| jL (i := 4) ?_
      refine jO rfl rfl (jI [] Tryz.call105 rfl (N_l10Signal to_ (n_29 + 1) (by omega) (by omega)) rfl (fun _ _ => trivial)) ?_
      rintro _ _ ⟨_, ⟨u_87, e_85, f_88, rfl, rfl⟩, rfl⟩
      refine ⟨(by simp), ?_⟩
      refine jL (i := 6) ?_
      refine jo rfl (jI [0, 0, 0] Tryz.call90 rfl (N_sSetNum x_75 m_76 k_74 (by omega) (by omega) u_87 n (by omega) (by omega)) rfl (fun _ _ => trivial)) ?_
      rintro _ _ ⟨_, ⟨x_95, m_96, e_93, k_94, rfl, rfl⟩, rfl⟩
      refine jL (i := 7) ?_
      refine jo rfl (jW 3 x_95 m_96 rfl rfl rfl rfl) ?_
      rintro _ _ rfl
      refine jK 8 rfl (jG (v := iv 0) rfl) <| kG (by kernel_rfl) <| jB <| jM <| jj (.inl rfl) rfl (je (jP 3 x_95 m_96 rfl rfl) ⟨_, rfl⟩) (jN (v := iv 0) rfl) (tS 3 _) ?_
      exact ⟨x_95, m_96, 0, (by simp only [MS.send, e_3, h_9, h_10, e_15, e_25, e_35, e_45, h_51, h_52, e_73, e_85, e_93, SB]; (repeat (first | rw [if_pos (by omega)] | rw [if_neg (by omega)])); all_goals (first | rfl | simp only [SB, e_3, h_9, h_10, e_15, e_25, e_35, e_45, h_51, h_52, e_73, e_85, e_93])), (k_94.mono (by omega) (by omega)), (by first | omega | (simp only [LE]; omega)), rfl, rfl⟩
    have h_10d := h_10
    simp only [Bool.and_eq_true, Bool.and_eq_false_iff, decide_eq_true_eq, decide_eq_false_iff_not] at h_10d
    refine jR (cB (cN h_10)) <| jD <| jF <| jT (jP 4 x_5 m_6 rfl rfl) ?_
    refine jH rfl (jW 3 x_5 m_6 rfl rfl rfl rfl) ?_
    rintro _ _ rfl
    refine jA (jG (v := iv 4) rfl) <| jE <| jB <| jM <| jX <| jj (.inl rfl) rfl (je (jP 3 x_5 m_6 rfl rfl) ⟨_, rfl⟩) (jN (v := iv 4) rfl) (tS 3 _) ?_
    exact ⟨x_5, m_6, 4, (by simp only [MS.send, e_3, h_9, h_10, SB]; (repeat (first | rw [if_pos (by omega)] | rw [if_neg (by omega)])); all_goals (first | rfl | simp only [SB, e_3, h_9, h_10])), (k_4.mono (by omega) (by omega)), (by first | omega | (simp only [LE]; omega)), rfl, rfl⟩
  refine jR (cB (cN (dF h_9))) <| jD <| jF <| jT (jP 4 x_5 m_6 rfl rfl) ?_
  refine jH rfl (jW 3 x_5 m_6 rfl rfl rfl rfl) ?_
  rintro _ _ rfl
  refine jA (jG (v := iv 2) rfl) <| jE <| jB <| jM <| jX <| jj (.inl rfl) rfl (je (jP 3 x_5 m_6 rfl rfl) ⟨_, rfl⟩) (jN (v := iv 2) rfl) (tS 3 _) ?_
  exact ⟨x_5, m_6, 2, (by simp only [MS.send, e_3, h_9, SB]; (repeat (first | rw [if_pos (by omega)] | rw [if_neg (by omega)])); all_goals (first | rfl | simp only [SB, e_3, h_9])), (k_4.mono (by omega) (by omega)), (by first | omega | (simp only [LE]; omega)), rfl, rfl⟩

theorem N_setTimer (p : Nat) (x : MA) (m : MS) {S T : Nat} (hk : m.ok S T) (hS : S ≤ 50000000) (hT : T ≤ 50000000) (id : Int) (at_ : Int) (hid : -9223372036854775808 ≤ id ∧ id ≤ 9223372036854775807) (hat_ : -9223372036854775808 ≤ at_ ∧ at_ ≤ 9223372036854775807) :
    Ct Tryz.prog 74 [.pointer (some ⟨p, 0, none⟩), .int .i64 id, .int .i64 at_] (mb p x m :: mr x m) (fun _ => True) (fun v A' => ∃ x' m' r0, MS.setTimer m id at_ = (m', r0) ∧ m'.ok (S + 1) (T + 1) ∧ (0 ≤ r0 ∧ r0 ≤ 9) ∧ v = .int .i64 r0 ∧ A' = mb p x' m' :: mr x' m') := by
  refine Ct.intro Tryz.func74 rfl Tryz.ntmps74 (lb rfl) fun w0 hpre => ?_
  refine jD <| jF <| jA (jG (v := iv 0) rfl) <| jE <| jB <| jD <| jD <| jF <| jA (jC (v := iv at_) rfl) ?_
  refine jH rfl (jI [] Tryz.call120 rfl (C_within at_ 0 999) rfl (fun _ _ => trivial)) ?_
  rintro _ _ ⟨_, ⟨rfl, rfl⟩, rfl⟩
  refine jA (kA rfl) <| jE <| jB ?_
  rcases Bool.eq_false_or_eq_true (decide (0 ≤ at_) && decide (at_ ≤ 999)) with h_1 | h_1
  · have h_1d := h_1
    simp only [Bool.and_eq_true, Bool.and_eq_false_iff, decide_eq_true_eq, decide_eq_false_iff_not] at h_1d
    refine jQ (cB (cN h_1)) <| jU <| jB <| jD <| jF <| jA (jC (v := pv p) rfl) <| jA (jC (v := iv id) rfl) ?_
    refine jH rfl (jI [] Tryz.call129 rfl (N_keyNum [116, 47] id [] (show List.length ([116, 47] : Str) ≤ 2 by decide) (by omega) (show List.length ([] : Str) ≤ 0 by decide) (by omega)) rfl (fun _ _ => trivial)) ?_
    rintro _ _ ⟨_, ⟨u_4, e_2, f_5, rfl, rfl⟩, rfl⟩
    refine jA (jC (v := iv at_) rfl) ?_
    refine jH rfl (jI [0, 0, 0, 0] Tryz.call124 rfl (N_setNum p x m hk (by omega) (by omega) u_4 at_ (by omega) (by omega)) rfl (fun _ _ => trivial)) ?_
    rintro _ _ ⟨_, ⟨x_8, m_9, e_6, k_7, rfl, rfl⟩, rfl⟩
    refine jE <| jB <| jD <| jF <| jA (jG (v := iv 0) rfl) <| jE <| jB <| jM <| jV (.inl rfl) rfl (jN (v := iv 0) rfl) (List.Sublist.refl _) ?_
    exact ⟨x_8, m_9, 0, (by simp only [MS.setTimer, h_1, e_2, e_6, SB]; (repeat (first | rw [if_pos (by omega)] | rw [if_neg (by omega)])); all_goals (first | rfl | simp only [SB, h_1, e_2, e_6])), (k_7.mono (by omega) (by omega)), (by first | omega | (simp only [LE]; omega)), rfl, rfl⟩
  have h_1d := h_1
  simp only [Bool.and_eq_true, Bool.and_eq_false_iff, decide_eq_true_eq, decide_eq_false_iff_not] at h_1d
  refine jR (cB (cN h_1)) <| jD <| jF <| jA (jG (v := iv 4) rfl) <| jE <| jB <| jM <| jX <| jV (.inl rfl) rfl (jN (v := iv 4) rfl) (List.Sublist.refl _) ?_
  exact ⟨x, m, 4, (by simp only [MS.setTimer, h_1, SB]; (repeat (first | rw [if_pos (by omega)] | rw [if_neg (by omega)])); all_goals (first | rfl | simp only [SB, h_1])), (hk.mono (by omega) (by omega)), (by first | omega | (simp only [LE]; omega)), rfl, rfl⟩

theorem M_setTimer (x : MA) (m : MS) {S T : Nat} (hk : m.ok S T) (hS : S ≤ 50000000) (hT : T ≤ 50000000) (id : Int) (at_ : Int) (hid : -9223372036854775808 ≤ id ∧ id ≤ 9223372036854775807) (hat_ : -9223372036854775808 ≤ at_ ∧ at_ ≤ 9223372036854775807) :
    Ct Tryz.prog 43 [mv x m, .int .i64 id, .int .i64 at_] (mr x m) (fun _ => True) (fun v A' => ∃ x' m' r0, MS.setTimer m id at_ = (m', r0) ∧ m'.ok (S + 1) (T + 1) ∧ (0 ≤ r0 ∧ r0 ≤ 9) ∧ v = .tuple #[mv x' m', .int .i64 r0] ∧ A' = mr x' m') := by
  refine Ct.intro Tryz.func43 rfl Tryz.ntmps43 (lb rfl) fun w0 hpre => ?_
  refine jD <| jF ?_
  refine jH rfl (jv (cs := (mc x m)) rfl rfl) ?_
  rintro _ _ ⟨b_1, rfl, rfl⟩
  refine jH rfl (jh (z := zM) (cs := zC) kd rfl) ?_
  rintro _ _ ⟨b_2, rfl, rfl⟩
  refine jA (jG (v := iv 0) rfl) <| jE <| jB <| jD <| jD <| jF <| jA (jC (v := iv at_) rfl) ?_
  refine jH rfl (jI [] Tryz.call86 rfl (C_l01In at_ 0 999) rfl (fun _ _ => trivial)) ?_
  rintro _ _ ⟨_, ⟨rfl, rfl⟩, rfl⟩
  refine jA (kA rfl) <| jE <| jB ?_
  rcases Bool.eq_false_or_eq_true (decide (0 ≤ at_) && decide (at_ ≤ 999)) with h_3 | h_3
  · have h_3d := h_3
    simp only [Bool.and_eq_true, Bool.and_eq_false_iff, decide_eq_true_eq, decide_eq_false_iff_not] at h_3d
    refine jQ (cB (cN h_3)) <| jU <| jB <| jD <| jq [mb b_1 x m] 4 mixed (by simp) <| jl 0 rfl (jP 0 x m rfl rfl) <| jK 1 rfl (jC (v := iv id) rfl) <| jK 3 rfl (jC (v := iv at_) rfl) <| jL (i := 2) ?_
    refine jO rfl rfl (jI [] Tryz.call91 rfl (N_sKeyNum [116, 47] id [] (show List.length ([116, 47] : Str) ≤ 2 by decide) (by omega) (show List.length ([] : Str) ≤ 0 by decide) (by omega)) rfl (fun _ _ => trivial)) ?_
    rintro _ _ ⟨_, ⟨u_14, e_12, f_15, rfl, rfl⟩, rfl⟩
    refine ⟨(by simp), ?_⟩
    refine jL (i := 4) ?_
    refine jo rfl (jI [2, 2, 2] Tryz.call90 rfl (N_sSetNum x m hk (by omega) (by omega) u_14 at_ (by omega) (by omega)) rfl (fun _ _ => trivial)) ?_
    rintro _ _ ⟨_, ⟨x_22, m_23, e_20, k_21, rfl, rfl⟩, rfl⟩
    refine jL (i := 5) ?_
    refine jo rfl (jW 3 x_22 m_23 rfl rfl rfl rfl) ?_
    rintro _ _ rfl
    refine jK 6 rfl (jG (v := iv 0) rfl) <| kG (by kernel_rfl) <| jB <| jM <| jj (.inl rfl) rfl (je (jP 3 x_22 m_23 rfl rfl) ⟨_, rfl⟩) (jN (v := iv 0) rfl) (tS 3 _) ?_
    exact ⟨x_22, m_23, 0, (by simp only [MS.setTimer, h_3, e_12, e_20, SB]; (repeat (first | rw [if_pos (by omega)] | rw [if_neg (by omega)])); all_goals (first | rfl | simp only [SB, h_3, e_12, e_20])), (k_21.mono (by omega) (by omega)), (by first | omega | (simp only [LE]; omega)), rfl, rfl⟩
  have h_3d := h_3
  simp only [Bool.and_eq_true, Bool.and_eq_false_iff, decide_eq_true_eq, decide_eq_false_iff_not] at h_3d
  refine jR (cB (cN h_3)) <| jD <| jF <| jT (jP 1 x m rfl rfl) ?_
  refine jH rfl (jW 0 x m rfl rfl rfl rfl) ?_
  rintro _ _ rfl
  refine jA (jG (v := iv 4) rfl) <| jE <| jB <| jM <| jX <| kL (pick_perm [2, 2, 2] (A := [rC x.a0 x.c0 m.s, rS x.a1 x.c1 m.r, rS x.a2 x.c2 m.w]) (F := [mb b_2 x m, mb b_1 x m]) rfl).symm <| jj (.inl rfl) rfl (je (jP 3 x m rfl rfl) ⟨_, rfl⟩) (jN (v := iv 4) rfl) (tS 3 _) ?_
  exact ⟨x, m, 4, (by simp only [MS.setTimer, h_3, SB]; (repeat (first | rw [if_pos (by omega)] | rw [if_neg (by omega)])); all_goals (first | rfl | simp only [SB, h_3])), (hk.mono (by omega) (by omega)), (by first | omega | (simp only [LE]; omega)), rfl, rfl⟩

theorem N_kids (p : Nat) (x : MA) (m : MS) {S T : Nat} (hk : m.ok S T) (hS : S ≤ 50000000) (hT : T ≤ 50000000) (parent : Int) (hparent : -9223372036854775808 ≤ parent ∧ parent ≤ 9223372036854775807) :
    Ct Tryz.prog 70 [.pointer (some ⟨p, 0, none⟩), .int .i64 parent] (mb p x m :: mr x m) (fun _ => True) (fun v A' => ∃ x' m' r0a r0c r0, MS.kids m parent = (m', r0) ∧ m'.ok (S) (T + S + 1) ∧ r0.length ≤ S ∧ v = .slice r0a r0.length r0c ∧ A' = mb p x' m' :: mr x' m' ++ [rI r0a r0c r0]) := by
  refine Ct.intro Tryz.func70 rfl Tryz.ntmps70 (lb rfl) fun w0 hpre => ?_
  refine jD <| jF <| jA (jG (v := .slice none 0 0) rfl) <| jE <| jB <| jD <| jF <| jA (jG (v := .slice none 0 0) rfl) <| jE <| jB ?_
  refine jD <| jD <| jF <| jA (jC (v := pv p) rfl) ?_
  refine jH rfl (jI [0, 0, 0, 0] Tryz.call130 rfl (N_under p x m hk (by omega) (by omega) [114, 47] (by decide)) rfl (fun _ _ => trivial)) ?_
  rintro _ _ ⟨_, ⟨x_3, m_4, l_5a, l_5c, l_5, e_1, k_2, f_6, rfl, rfl⟩, rfl⟩
  refine jA (kK kW rfl) <| jA (jC (v := iv 0) rfl) <| jE <| jB <| jm ?_
  have hll := f_6.1
  refine JC.nilRow 3 1 <| JC.perm (pick_perm [1, 1, 1, 1, 0, 0] (A := [mb p x_3 m_4, rC x_3.a0 x_3.c0 m_4.s, rS x_3.a1 x_3.c1 m_4.r, rS x_3.a2 x_3.c2 m_4.w, Res.row (.slice none 0 0) 3 1 0 (([] : List Int).map (Value.int .i64)), rS l_5a l_5c l_5]) (F := []) rfl).symm <| kE (fun k_ e_ L_ => ∃ j : Nat, ∃ x : MA, ∃ mm : MS, ∃ out_a : Option Addr, ∃ out_c : Nat, ∃ out_ : List Int, (j ≤ l_5.length) ∧ (mm.ok (S) (T + 1 + j)) ∧ (out_.length ≤ j) ∧ (MS.kidsL parent (l_5.drop j) mm out_ = MS.kidsL parent l_5 m_4 ([] : List Int)) ∧ e_ 0 = pv p ∧ e_ 1 = iv parent ∧ e_ 4 = .slice none 0 0 ∧ e_ 5 = .slice out_a out_.length out_c ∧ e_ 11 = .slice l_5a l_5.length l_5c ∧ e_ 12 = nv l_5.length ∧ e_ 13 = nv j ∧ L_ = [mb p x mm, rC x.a0 x.c0 mm.s, rS x.a1 x.c1 mm.r, rS x.a2 x.c2 mm.w, rI out_a out_c out_, rS l_5a l_5c l_5] ∧ k_ = l_5.length - j) _ ⟨0, x_3, m_4, none, 0, ([] : List Int), by omega, (k_2.mono (by omega) (by omega)), (by first | omega | (simp only [LE]; omega)), rfl, rfl, rfl, rfl, rfl, rfl, rfl, rfl, rfl, rfl⟩ ?_
  rintro _ e_7 _ ⟨j, x, mm, out_a, out_c, out_, hj, hkmm, ho, hR, he_8, he_9, he_10, he_11, he_12, he_13, he_14, rfl, rfl⟩
  refine jD <| jF <| jA (js he_14 he_13) <| jE <| jB <| jD ?_
  by_cases h_15 : ((j : Nat) : Int) < ((l_5.length : Nat) : Int)
  · have hlt : j < l_5.length := by omega
    have hbj := f_6.2 j hlt
    try simp only [List.length_cons, List.length_nil] at hbj
    refine jR (cB (dT h_15)) <| jU <| jB <| jD <| jm <| jD <| jF ?_
    refine JL.facts fun hst => ?_
    obtain ⟨hr_16, hr_16b, -⟩ := row_some 5 rfl (by omega) hst
    refine jA (kH (i := j) kW ka hr_16 hr_16b he_12 he_14 (by omega)) <| jT (LO.loadR1 5 (v := str (l_5.getD j [])) rfl rfl kZ (atS (by omega))) <| jA (jG (v := str (l_5.getD j [])) rfl) <| jE <| jB <| jD <| jF <| jA (jC (v := str (l_5.getD j [])) rfl) ?_
    refine jH rfl (jI [] Tryz.call140 rfl (N_cutSuffix (l_5.getD j []) [47, 112] (by omega)) rfl (fun _ _ => trivial)) ?_
    rintro _ _ ⟨_, ⟨u_19, b_21, e_17, f_20, rfl, rfl⟩, rfl⟩
    refine jA (jC (v := .tuple #[str u_19, .bool b_21]) rfl) <| jA (jS (v := str u_19) rfl rfl) <| jA (jS (v := .bool b_21) rfl rfl) <| jA (jG (v := str u_19) rfl) <| jA (jG (v := .bool b_21) rfl) <| jE <| jB <| jD <| jF <| jA (jC (v := str (l_5.getD j [])) rfl) ?_
    refine jA (kJ kY rfl) <| jA (kT rfl rfl) <| jA (jC (v := .bool (decide (5 ≤ ((l_5.getD j []).length : Int)))) rfl) ?_
    by_cases h_22 : 5 ≤ ((l_5.getD j []).length : Int)
    · refine jb rfl rfl rfl (cB (dT h_22)) (ja (jd (jC (v := .bool b_21) rfl))) ?_
      rintro _ _ ⟨rfl, rfl⟩
      refine jA (jx (v := .bool b_21) (cB (dT h_22)) rfl) <| jA (jC (v := .bool b_21) rfl) ?_
      rcases Bool.eq_false_or_eq_true (b_21) with h_23 | h_23
      · have hkid := cutSuf_kid e_17 h_22
        rw [h_23] at hkid
        rw [h_23] at e_17
        obtain ⟨hu, hu3⟩ := cutSuf_kidT e_17 h_22
        refine jb rfl rfl rfl (cB h_23) (ja (jd (jC (v := pv p) he_8))) ?_
        rintro _ _ ⟨rfl, rfl⟩
        refine jb rfl rfl rfl (cB h_23) (ja (jd (jC (v := str (l_5.getD j [])) rfl))) ?_
        rintro _ _ ⟨rfl, rfl⟩
        refine jb rfl rfl rfl (cB h_23) (jI [0, 0, 0, 0] Tryz.call118 rfl (N_num p x mm hkmm (by omega) (by omega) (l_5.getD j [])) rfl (fun _ _ => trivial)) ?_
        rintro _ _ ⟨_, ⟨x_26, m_27, n_28, e_24, k_25, f_29, rfl, rfl⟩, rfl⟩
        refine jb rfl rfl rfl (cB h_23) (ja (jd (jC (v := iv parent) he_9))) ?_
        rintro _ _ ⟨rfl, rfl⟩
        refine jb rfl rfl rfl (cB h_23) (ja (jd (ju rfl rfl))) ?_
        rintro _ _ ⟨rfl, rfl⟩
        refine jA (jx (v := .bool (decide (n_28 = parent))) (cB h_23) rfl) <| jE <| jB ?_
        by_cases h_30 : n_28 = parent
        · refine jR (cB (dT h_30)) <| jF <| jA (jC (v := .slice out_a out_.length out_c) he_11) <| jA (jC (v := str u_19) rfl) <| jA (PO.sliceSl (i := 2) kY rfl rfl (by omega)) ?_
          refine jH rfl (jI [] Tryz.call141 rfl (N_numOf (u_19.drop 2) (by first | omega | (simp only [LE]; omega))) rfl (fun _ _ => trivial)) ?_
          rintro _ _ ⟨_, ⟨n_33, e_31, f_34, rfl, rfl⟩, rfl⟩
          refine jH rfl (kI (ps := [(0, iv n_33)]) (cur := #[iv n_33]) gB kf Tryz.zeroValue3 rfl (by kernel_rfl) (by decide) (by decide)) ?_
          rintro _ _ ⟨a_35, rfl, rfl⟩
          refine jH rfl (kF 5 (q := 1) (news := ([n_33] : List Int).map (Value.int .i64)) (n' := (out_ ++ ([n_33] : List Int)).length) (cs' := (out_ ++ ([n_33] : List Int)).map (Value.int .i64)) rfl gB gB Tryz.typeInfo3 rfl (by' := 8) rfl rfl rfl rfl rfl (fun w hw => Src.sees (hw.see (i := 0) rfl) (oneI _)) (by (try simp only [LE]); omega) (by (try simp only [LE]); omega) (by simp only [List.length_append, List.length_take, List.length_drop, List.length_cons, List.length_nil] <;> first | rfl | omega) (by simp only [List.map_append])) ?_
          rintro _ _ ⟨a_36, c_37, rfl, rfl⟩
          refine jA (jG (v := .slice a_36 ((out_ ++ ([n_33] : List Int)).length) c_37) rfl) <| jE <| jk <| jB <| jF <| jA (jg (c := ((j + 1 : Nat) : Int)) he_14 rfl (wr (by omega))) <| jA (jC (v := iv ((j + 1 : Nat) : Int)) rfl) <| jE <| jr [1, 1, 1, 1, 1, 1] (A := [mb p x_26 m_27, rC x_26.a0 x_26.c0 m_27.s, rS x_26.a1 x_26.c1 m_27.r, rS x_26.a2 x_26.c2 m_27.w, rI a_36 c_37 (out_ ++ ([n_33] : List Int)), rS l_5a l_5c l_5]) rfl ?_
          refine jt (l_5.length - (j + 1)) (by omega) ⟨j + 1, x_26, m_27, a_36, c_37, (out_ ++ ([n_33] : List Int)), by omega, (k_25.mono (by omega) (by omega)), (by first | omega | (simp only [LE]; omega)), (by rw [drop_at (getD_some (d := []) hlt)] at hR; simp only [MS.kidsL, e_1, h_15, e_17, h_22, h_23, hkid, hu, e_24, h_30, e_31, SB] at hR; (repeat (first | rw [if_pos (by omega)] at hR | rw [if_neg (by omega)] at hR)); exact hR), he_8, he_9, he_10, rfl, he_12, he_13, rfl, rfl, rfl⟩
        refine jQ (cB (dF h_30)) <| jU <| jk <| jB <| jF <| jA (jg (c := ((j + 1 : Nat) : Int)) he_14 rfl (wr (by omega))) <| jA (jC (v := iv ((j + 1 : Nat) : Int)) rfl) <| jE <| jr [0, 0, 0, 0, 0, 0] (A := [mb p x_26 m_27, rC x_26.a0 x_26.c0 m_27.s, rS x_26.a1 x_26.c1 m_27.r, rS x_26.a2 x_26.c2 m_27.w, rI out_a out_c out_, rS l_5a l_5c l_5]) rfl ?_
        refine jt (l_5.length - (j + 1)) (by omega) ⟨j + 1, x_26, m_27, out_a, out_c, out_, by omega, (k_25.mono (by omega) (by omega)), (by first | omega | (simp only [LE]; omega)), (by rw [drop_at (getD_some (d := []) hlt)] at hR; simp only [MS.kidsL, e_1, h_15, e_17, h_22, h_23, hkid, hu, e_24, h_30, SB] at hR; (repeat (first | rw [if_pos (by omega)] at hR | rw [if_neg (by omega)] at hR)); exact hR), he_8, he_9, he_10, he_11, he_12, he_13, rfl, rfl, rfl⟩
      have hkid := cutSuf_kid e_17 h_22
      rw [h_23] at hkid
      refine jY (b := false) rfl rfl rfl (cB h_23) <| jY (b := false) rfl rfl rfl (cB h_23) <| jY (b := false) rfl rfl rfl (cB h_23) <| jY (b := false) rfl rfl rfl (cB h_23) <| jY (b := false) rfl rfl rfl (cB h_23) <| jA (jw (v := .bool false) (cB h_23) rfl) <| jE <| jB <| jQ (cB rfl) <| jU ?_
      refine jk <| jB <| jF <| jA (jg (c := ((j + 1 : Nat) : Int)) he_14 rfl (wr (by omega))) <| jA (jC (v := iv ((j + 1 : Nat) : Int)) rfl) <| jE <| jr [0, 0, 0, 0, 0, 0] (A := [mb p x mm, rC x.a0 x.c0 mm.s, rS x.a1 x.c1 mm.r, rS x.a2 x.c2 mm.w, rI out_a out_c out_, rS l_5a l_5c l_5]) rfl ?_
      refine jt (l_5.length - (j + 1)) (by omega) ⟨j + 1, x, mm, out_a, out_c, out_, by omega, (hkmm.mono (by omega) (by omega)), (by first | omega | (simp only [LE]; omega)), (by rw [drop_at (getD_some (d := []) hlt)] at hR; simp only [MS.kidsL, e_1, h_15, e_17, h_22, h_23, hkid, SB] at hR; (repeat (first | rw [if_pos (by omega)] at hR | rw [if_neg (by omega)] at hR)); exact hR), he_8, he_9, he_10, he_11, he_12, he_13, rfl, rfl, rfl⟩
    have hkid := isKid_short h_22
    refine jY (b := false) rfl rfl rfl (cB (dF h_22)) <| jA (jw (v := .bool false) (cB (dF h_22)) rfl) <| jA (jC (v := .bool false) rfl) <| jY (b := false) rfl rfl rfl (cB rfl) <| jY (b := false) rfl rfl rfl (cB rfl) <| jY (b := false) rfl rfl rfl (cB rfl) <| jY (b := false) rfl rfl rfl (cB rfl) <| jY (b := false) rfl rfl rfl (cB rfl) <| jA (jw (v := .bool false) (cB rfl) rfl) <| jE ?_
    refine jB <| jQ (cB rfl) <| jU <| jk <| jB <| jF <| jA (jg (c := ((j + 1 : Nat) : Int)) he_14 rfl (wr (by omega))) <| jA (jC (v := iv ((j + 1 : Nat) : Int)) rfl) <| jE <| jr [0, 0, 0, 0, 0, 0] (A := [mb p x mm, rC x.a0 x.c0 mm.s, rS x.a1 x.c1 mm.r, rS x.a2 x.c2 mm.w, rI out_a out_c out_, rS l_5a l_5c l_5]) rfl ?_
    refine jt (l_5.length - (j + 1)) (by omega) ⟨j + 1, x, mm, out_a, out_c, out_, by omega, (hkmm.mono (by omega) (by omega)), (by first | omega | (simp only [LE]; omega)), (by rw [drop_at (getD_some (d := []) hlt)] at hR; simp only [MS.kidsL, e_1, h_15, e_17, h_22, hkid, SB] at hR; (repeat (first | rw [if_pos (by omega)] at hR | rw [if_neg (by omega)] at hR)); exact hR), he_8, he_9, he_10, he_11, he_12, he_13, rfl, rfl, rfl⟩
  rw [List.drop_of_length_le (by omega)] at hR
  simp only [MS.kidsL] at hR
  have hE := hR.symm
  refine jQ (cB (dF h_15)) <| kB <| jn <| jn <| kC <| jB <| jD <| jF <| jA (jC (v := .slice out_a out_.length out_c) he_11) <| jA (jG (v := .slice out_a out_.length out_c) rfl) ?_
  refine jE <| jB <| jM <| jV (.inl rfl) rfl (jN (v := .slice out_a out_.length out_c) rfl) (tS 5 _) ?_
  exact ⟨x, mm, out_a, out_c, out_, (by simp only [MS.kids, e_1, h_15, hE, SB]; (repeat (first | rw [if_pos (by omega)] | rw [if_neg (by omega)])); all_goals (first | rfl | simp only [SB, e_1, h_15, hE])), (hkmm.mono (by omega) (by omega)), (by first | omega | (simp only [LE]; omega)), rfl, rfl⟩

theorem M_kids (x : MA) (m : MS) {S T : Nat} (hk : m.ok S T) (hS : S ≤ 50000000) (hT : T ≤ 50000000) (parent : Int) (hparent : -9223372036854775808 ≤ parent ∧ parent ≤ 9223372036854775807) :
    Ct Tryz.prog 114 [mv x m, .int .i64 parent] (mr x m) (fun _ => True) (fun v A' => ∃ x' m' r0a r0c r0, MS.kids m parent = (m', r0) ∧ m'.ok (S) (T + S + 1) ∧ r0.length ≤ S ∧ v = .tuple #[mv x' m', .slice r0a r0.length r0c] ∧ A' = mr x' m' ++ [rI r0a r0c r0]) := by
  refine Ct.intro Tryz.func114 rfl Tryz.ntmps114 (lb rfl) fun w0 hpre => ?_
  refine jD <| jF ?_
  refine jH rfl (jv (cs := (mc x m)) rfl rfl) ?_
  rintro _ _ ⟨b_1, rfl, rfl⟩
  refine jH rfl (jh (z := zM) (cs := zC) kd rfl) ?_
  rintro _ _ ⟨b_2, rfl, rfl⟩
  refine jA (jG (v := .slice none 0 0) rfl) <| jE <| jB <| jD <| jF <| jT (jP 1 x m rfl rfl) ?_
  refine jH rfl (jI [2, 2, 2] Tryz.call106 rfl (N_sUnder x m hk (by omega) (by omega) [114, 47] (by decide)) rfl (fun _ _ => trivial)) ?_
  rintro _ _ ⟨_, ⟨x_5, m_6, l_7a, l_7c, l_7, e_3, k_4, f_8, rfl, rfl⟩, rfl⟩
  refine jA (jC (v := .tuple #[mv x_5 m_6, .slice l_7a l_7.length l_7c]) rfl) <| jA (jS (v := mv x_5 m_6) rfl rfl) <| jA (jS (v := .slice l_7a l_7.length l_7c) rfl rfl) ?_
  refine jH rfl (jW 5 x_5 m_6 rfl rfl rfl rfl) ?_
  rintro _ _ rfl
  refine jA (jG (v := .slice l_7a l_7.length l_7c) rfl) <| jE <| jB <| jD <| jF ?_
  refine jH rfl (kI (ps := []) (cur := #[]) gB kf Tryz.zeroValue3 rfl (by kernel_rfl) (by decide) (by decide)) ?_
  rintro _ _ ⟨a_9, rfl, rfl⟩
  refine jA (jG (v := .slice a_9 0 0) rfl) <| jE <| jB <| jD <| jD <| jF <| jA (jG (v := iv 0) rfl) <| jE <| jB <| jm ?_
  have hll := f_8.1
  refine JC.perm (pick_perm [6, 1, 1, 1, 0, 0, 0] (A := [mb b_1 x_5 m_6, rC x_5.a0 x_5.c0 m_6.s, rS x_5.a1 x_5.c1 m_6.r, rS x_5.a2 x_5.c2 m_6.w, Res.row (.slice a_9 0 0) 3 1 0 (([] : List Int).map (Value.int .i64)), rS l_7a l_7c l_7, bk b_2 35 zC]) (F := []) rfl).symm <| kE (fun k_ e_ L_ => ∃ j : Nat, ∃ x : MA, ∃ mm : MS, ∃ out_a : Option Addr, ∃ out_c : Nat, ∃ out_ : List Int, (j ≤ l_7.length) ∧ (mm.ok (S) (T + 1 + j)) ∧ (out_.length ≤ j) ∧ (MS.kidsL parent (l_7.drop j) mm out_ = MS.kidsL parent l_7 m_6 ([] : List Int)) ∧ e_ 1 = iv parent ∧ e_ 2 = .pointer (some ⟨b_1, 0, none⟩) ∧ e_ 4 = .pointer (some ⟨b_2, 0, none⟩) ∧ e_ 5 = .slice none 0 0 ∧ e_ 6 = .slice l_7a l_7.length l_7c ∧ e_ 7 = .slice out_a out_.length out_c ∧ e_ 8 = nv j ∧ L_ = [mb b_1 x mm, rC x.a0 x.c0 mm.s, rS x.a1 x.c1 mm.r, rS x.a2 x.c2 mm.w, rI out_a out_c out_, rS l_7a l_7c l_7, bk b_2 35 zC] ∧ k_ = l_7.length - j) _ ⟨0, x_5, m_6, a_9, 0, ([] : List Int), by omega, (k_4.mono (by omega) (by omega)), (by first | omega | (simp only [LE]; omega)), rfl, rfl, rfl, rfl, rfl, rfl, rfl, rfl, rfl, rfl⟩ ?_
  rintro _ e_10 _ ⟨j, x, mm, out_a, out_c, out_, hj, hkmm, ho, hR, he_11, he_12, he_13, he_14, he_15, he_16, he_17, rfl, rfl⟩
  refine jD <| jD <| jF <| jA (jC (v := nv j) he_17) <| jA (jC (v := .slice l_7a l_7.length l_7c) he_15) <| jA (kK kW rfl) <| jA (js rfl rfl) <| jE <| jB ?_
  by_cases h_18 : ((j : Nat) : Int) < ((l_7.length : Nat) : Int)
  · have hlt : j < l_7.length := by omega
    have hbj := f_8.2 j hlt
    try simp only [List.length_cons, List.length_nil] at hbj
    refine jR (cB (dT h_18)) <| jU <| jB <| jD <| jm <| jD <| jF <| jA (jC (v := .slice l_7a l_7.length l_7c) he_15) <| jA (jC (v := nv j) he_17) ?_
    refine JL.facts fun hst => ?_
    obtain ⟨hr_19, hr_19b, -⟩ := row_some 5 rfl (by omega) hst
    refine jA (kH (i := j) kW ka hr_19 hr_19b rfl rfl (by omega)) <| jT (LO.loadR1 5 (v := str (l_7.getD j [])) rfl rfl kZ (atS (by omega))) <| jA (jG (v := str (l_7.getD j [])) rfl) <| jE <| jB <| jD <| jD <| jF <| jA (jC (v := str (l_7.getD j [])) rfl) <| jA (kJ kY rfl) ?_
    refine jA (js rfl rfl) <| jA (jC (v := .bool (decide (((l_7.getD j []).length : Int) < 5))) rfl) ?_
    by_cases h_20 : ((l_7.getD j []).length : Int) < 5
    · have hkid := isKid_short' h_20
      refine jY (b := true) rfl rfl rfl (cB (dT h_20)) <| jY (b := true) rfl rfl rfl (cB (dT h_20)) <| jY (b := true) rfl rfl rfl (cB (dT h_20)) <| jY (b := true) rfl rfl rfl (cB (dT h_20)) <| jY (b := true) rfl rfl rfl (cB (dT h_20)) <| jY (b := true) rfl rfl rfl (cB (dT h_20)) <| jA (jx (v := .bool true) (cB (dT h_20)) rfl) <| jE <| jB <| jR (cB rfl) ?_
      refine kB <| jn <| kC <| jB <| jF <| jA (jC (v := nv j) he_17) <| jA (jg (c := ((j + 1 : Nat) : Int)) rfl rfl (wr (by omega))) <| jA (jG (v := iv ((j + 1 : Nat) : Int)) rfl) <| jE <| jr [0, 0, 0, 0, 0, 0, 0] (A := [mb b_1 x mm, rC x.a0 x.c0 mm.s, rS x.a1 x.c1 mm.r, rS x.a2 x.c2 mm.w, rI out_a out_c out_, rS l_7a l_7c l_7, bk b_2 35 zC]) rfl ?_
      refine jt (l_7.length - (j + 1)) (by omega) ⟨j + 1, x, mm, out_a, out_c, out_, by omega, (hkmm.mono (by omega) (by omega)), (by first | omega | (simp only [LE]; omega)), (by rw [drop_at (getD_some (d := []) hlt)] at hR; simp only [MS.kidsL, drop_take2, e_3, h_18, h_20, hkid, SB] at hR; (repeat (first | rw [if_pos (by omega)] at hR | rw [if_neg (by omega)] at hR)); exact hR), he_11, he_12, he_13, he_14, he_15, he_16, rfl, rfl, rfl⟩
    refine jb rfl rfl rfl (cB (dF h_20)) (ja (jd (jC (v := str (l_7.getD j [])) rfl))) ?_
    rintro _ _ ⟨rfl, rfl⟩
    refine jb rfl rfl rfl (cB (dF h_20)) (ja (jd (jC (v := str (l_7.getD j [])) rfl))) ?_
    rintro _ _ ⟨rfl, rfl⟩
    refine jb rfl rfl rfl (cB (dF h_20)) (ja (jd (kJ kY rfl))) ?_
    rintro _ _ ⟨rfl, rfl⟩
    refine jb rfl rfl rfl (cB (dF h_20)) (ja (jd (kR (c := ((((l_7.getD j []).length) - 2 : Nat) : Int)) rfl rfl (wr (by omega))))) ?_
    rintro _ _ ⟨rfl, rfl⟩
    refine jb rfl rfl rfl (cB (dF h_20)) (ja (jd (PO.sliceSl (i := (((l_7.getD j []).length) - 2)) kY rfl rfl (by omega)))) ?_
    rintro _ _ ⟨rfl, rfl⟩
    refine jb rfl rfl rfl (cB (dF h_20)) (ja (jd (PO.neqS rfl rfl))) ?_
    rintro _ _ ⟨rfl, rfl⟩
    refine jA (jw (v := .bool (!(decide (((l_7.getD j []).drop (((l_7.getD j []).length) - 2)) = [47, 112])))) (cB (dF h_20)) rfl) <| jE <| jB ?_
    by_cases h_21 : ((l_7.getD j []).drop (((l_7.getD j []).length) - 2)) = [47, 112]
    · have hkid := isKid_yes (by omega) h_21
      refine jQ (cB (cN (dT h_21))) <| jU <| jB <| jD <| jF <| jA (jG (v := iv 0) rfl) <| jE <| jB <| jD <| jF ?_
      refine jT (jP 0 x mm rfl he_12) <| jA (jC (v := str (l_7.getD j [])) rfl) ?_
      refine jH rfl (jI [1, 1, 1] Tryz.call84 rfl (N_sNumAt x mm hkmm (by omega) (by omega) (l_7.getD j [])) rfl (fun _ _ => trivial)) ?_
      rintro _ _ ⟨_, ⟨x_24, m_25, n_26, e_22, k_23, f_27, rfl, rfl⟩, rfl⟩
      refine jA (jC (v := .tuple #[mv x_24 m_25, iv n_26]) rfl) <| jA (jS (v := mv x_24 m_25) rfl rfl) <| jA (jS (v := iv n_26) rfl rfl) ?_
      refine jH rfl (jW 3 x_24 m_25 rfl he_12 rfl rfl) ?_
      rintro _ _ rfl
      refine jA (jG (v := iv n_26) rfl) <| jE <| jB <| jD <| jF <| jA (jC (v := iv n_26) rfl) <| jA (jC (v := iv parent) he_11) <| jA (ju rfl rfl) <| jE <| jB ?_
      by_cases h_28 : n_26 = parent
      · refine jR (cB (dT h_28)) <| jF <| jA (jC (v := .slice out_a out_.length out_c) he_16) <| jA (jC (v := str (l_7.getD j [])) rfl) <| jA (jC (v := str (l_7.getD j [])) rfl) <| jA (kJ kY rfl) <| jA (kR (c := ((((l_7.getD j []).length) - 2 : Nat) : Int)) rfl rfl (wr (by omega))) <| jA (PO.sliceS (i := 2) (j := (((l_7.getD j []).length) - 2)) kY rfl rfl rfl (by omega) (by omega)) ?_
        refine jH rfl (jI [] Tryz.call107 rfl (N_sNumOf (((l_7.getD j []).drop 2).take ((((l_7.getD j []).length) - 2) - 2)) (by first | omega | (simp only [LE]; omega))) rfl (fun _ _ => trivial)) ?_
        rintro _ _ ⟨_, ⟨n_31, e_29, f_32, rfl, rfl⟩, rfl⟩
        refine jH rfl (kI (ps := [(0, iv n_31)]) (cur := #[iv n_31]) gB kf Tryz.zeroValue3 rfl (by kernel_rfl) (by decide) (by decide)) ?_
        rintro _ _ ⟨a_33, rfl, rfl⟩
        refine jH rfl (kF 5 (q := 1) (news := ([n_31] : List Int).map (Value.int .i64)) (n' := (out_ ++ ([n_31] : List Int)).length) (cs' := (out_ ++ ([n_31] : List Int)).map (Value.int .i64)) rfl gB gB Tryz.typeInfo3 rfl (by' := 8) rfl rfl rfl rfl rfl (fun w hw => Src.sees (hw.see (i := 0) rfl) (oneI _)) (by (try simp only [LE]); omega) (by (try simp only [LE]); omega) (by simp only [List.length_append, List.length_take, List.length_drop, List.length_cons, List.length_nil] <;> first | rfl | omega) (by simp only [List.map_append])) ?_
        rintro _ _ ⟨a_34, c_35, rfl, rfl⟩
        refine jA (jG (v := .slice a_34 ((out_ ++ ([n_31] : List Int)).length) c_35) rfl) <| jE <| jk <| jB <| jF <| jA (jC (v := nv j) he_17) <| jA (jg (c := ((j + 1 : Nat) : Int)) rfl rfl (wr (by omega))) <| jA (jG (v := iv ((j + 1 : Nat) : Int)) rfl) <| jE <| jr [4, 1, 1, 1, 1, 1, 1] (A := [mb b_1 x_24 m_25, rC x_24.a0 x_24.c0 m_25.s, rS x_24.a1 x_24.c1 m_25.r, rS x_24.a2 x_24.c2 m_25.w, rI a_34 c_35 (out_ ++ ([n_31] : List Int)), rS l_7a l_7c l_7, bk b_2 35 zC]) rfl ?_
        refine jt (l_7.length - (j + 1)) (by omega) ⟨j + 1, x_24, m_25, a_34, c_35, (out_ ++ ([n_31] : List Int)), by omega, (k_23.mono (by omega) (by omega)), (by first | omega | (simp only [LE]; omega)), (by rw [drop_at (getD_some (d := []) hlt)] at hR; simp only [MS.kidsL, drop_take2, e_3, h_18, h_20, h_21, hkid, e_22, h_28, e_29, SB] at hR; (repeat (first | rw [if_pos (by omega)] at hR | rw [if_neg (by omega)] at hR)); exact hR), he_11, he_12, he_13, he_14, he_15, rfl, rfl, rfl, rfl⟩
      refine jQ (cB (dF h_28)) <| jU <| jk <| jB <| jF <| jA (jC (v := nv j) he_17) <| jA (jg (c := ((j + 1 : Nat) : Int)) rfl rfl (wr (by omega))) <| jA (jG (v := iv ((j + 1 : Nat) : Int)) rfl) <| jE <| jr [3, 0, 0, 0, 0, 0, 0] (A := [mb b_1 x_24 m_25, rC x_24.a0 x_24.c0 m_25.s, rS x_24.a1 x_24.c1 m_25.r, rS x_24.a2 x_24.c2 m_25.w, rI out_a out_c out_, rS l_7a l_7c l_7, bk b_2 35 zC]) rfl ?_
      refine jt (l_7.length - (j + 1)) (by omega) ⟨j + 1, x_24, m_25, out_a, out_c, out_, by omega, (k_23.mono (by omega) (by omega)), (by first | omega | (simp only [LE]; omega)), (by rw [drop_at (getD_some (d := []) hlt)] at hR; simp only [MS.kidsL, drop_take2, e_3, h_18, h_20, h_21, hkid, e_22, h_28, SB] at hR; (repeat (first | rw [if_pos (by omega)] at hR | rw [if_neg (by omega)] at hR)); exact hR), he_11, he_12, he_13, he_14, he_15, he_16, rfl, rfl, rfl⟩
    have hkid := isKid_no h_21
    refine jR (cB (cN (dF h_21))) <| kB <| jn <| kC <| jB <| jF <| jA (jC (v := nv j) he_17) <| jA (jg (c := ((j + 1 : Nat) : Int)) rfl rfl (wr (by omega))) <| jA (jG (v := iv ((j + 1 : Nat) : Int)) rfl) <| jE ?_
    refine jr [0, 0, 0, 0, 0, 0, 0] (A := [mb b_1 x mm, rC x.a0 x.c0 mm.s, rS x.a1 x.c1 mm.r, rS x.a2 x.c2 mm.w, rI out_a out_c out_, rS l_7a l_7c l_7, bk b_2 35 zC]) rfl ?_
    refine jt (l_7.length - (j + 1)) (by omega) ⟨j + 1, x, mm, out_a, out_c, out_, by omega, (hkmm.mono (by omega) (by omega)), (by first | omega | (simp only [LE]; omega)), (by rw [drop_at (getD_some (d := []) hlt)] at hR; simp only [MS.kidsL, drop_take2, e_3, h_18, h_20, h_21, hkid, SB] at hR; (repeat (first | rw [if_pos (by omega)] at hR | rw [if_neg (by omega)] at hR)); exact hR), he_11, he_12, he_13, he_14, he_15, he_16, rfl, rfl, rfl⟩
  rw [List.drop_of_length_le (by omega)] at hR
  simp only [MS.kidsL, drop_take2] at hR
  have hE := hR.symm
  refine jQ (cB (dF h_18)) <| kB <| jn <| jn <| kC <| jB <| jD <| jF <| jT (jP 0 x mm rfl he_12) <| jA (jC (v := .slice out_a out_.length out_c) he_16) ?_
  refine jH rfl (jW 6 x mm rfl he_13 rfl rfl) ?_
  rintro _ _ rfl
  refine jA (jG (v := .slice out_a out_.length out_c) rfl) <| jE <| jB <| jM <| kL (pick_perm [1, 1, 1, 1] (A := [rC x.a0 x.c0 mm.s, rS x.a1 x.c1 mm.r, rS x.a2 x.c2 mm.w, rI out_a out_c out_]) (F := [mb b_1 x mm, rS l_7a l_7c l_7, mb b_2 x mm]) rfl).symm <| jj (.inl rfl) rfl (je (jP 6 x mm rfl he_13) ⟨_, he_13⟩) (jN (v := .slice out_a out_.length out_c) rfl) (tS 4 _) ?_
  exact ⟨x, mm, out_a, out_c, out_, (by simp only [MS.kids, e_3, h_18, hE, SB]; (repeat (first | rw [if_pos (by omega)] | rw [if_neg (by omega)])); all_goals (first | rfl | simp only [SB, e_3, h_18, hE])), (hkmm.mono (by omega) (by omega)), (by first | omega | (simp only [LE]; omega)), rfl, rfl⟩

end Go.Proofs.YthdgcbdfcclgbaaGreatDoor
