/-
  Texts of the walk, joined: what each one proves stands at its theorems.
-/
import Derived.Test.YtghfijncihbojaaGreatDoorS22MACH
import Derived.Lib.MinMax
import Derived.Test.YtghfijncihbojaaGreatDoorS10SPEC
set_option linter.unusedSimpArgs false
set_option linter.unusedVariables false
set_option linter.unnecessarySimpa false
namespace Go.Proofs.YtghfijncihbojaaGreatDoor
open Go Go.RowKit
attribute [local irreducible] JL JC JQ JO LO PO JA JX Ct

theorem N_fileOf (p : Nat) (x : MA) (m : MS) {S T : Nat} (hk : m.ok S T) (hS : S ≤ 600000000) (hT : T ≤ 600000000) (name : Str) (hname : name.length ≤ 100000000) :
    Ct Tryz.prog 163 [.pointer (some ⟨p, 0, none⟩), str name] (mb p x m :: mr x m) (fun _ => True) (fun v A' => ∃ x' m' r0, MS.fileOf m name = (m', r0) ∧ m'.ok (S) (T + 1) ∧ (0 ≤ r0 ∧ r0 ≤ 999) ∧ v = .int .i64 r0 ∧ A' = mb p x' m' :: mr x' m') := by
  refine Ct.intro Tryz.func163 rfl Tryz.ntmps163 (lb rfl) fun w0 hpre => ?_
  refine jD <| jF <| jA (jG (v := iv 0) rfl) <| jE <| jB <| jD <| jD <| jF <| jA (jC (v := str name) rfl) ?_
  refine jH rfl (jI [] Tryz.call162 rfl (N_nameOk name (by omega)) rfl (fun _ _ => trivial)) ?_
  rintro _ _ ⟨_, ⟨b_3, e_1, rfl, rfl⟩, rfl⟩
  refine jA (kF rfl) <| jE <| jB ?_
  rcases Bool.eq_false_or_eq_true (b_3) with h_4 | h_4
  · refine jR (cB (cN h_4)) <| jW <| jB <| jD <| jF <| jA (jC (v := pv p) rfl) <| jA (jC (v := str name) rfl) ?_
    refine jH rfl (jI [] Tryz.call166 rfl (N_nameKey name (by omega)) rfl (fun _ _ => trivial)) ?_
    rintro _ _ ⟨_, ⟨u_7, e_5, f_8, rfl, rfl⟩, rfl⟩
    refine jH rfl (jI [0, 0, 0, 0] Tryz.call160 rfl (N_num p x m hk (by omega) (by omega) u_7) rfl (fun _ _ => trivial)) ?_
    rintro _ _ ⟨_, ⟨x_11, m_12, n_13, e_9, k_10, f_14, rfl, rfl⟩, rfl⟩
    refine jA (jG (v := iv n_13) rfl) <| jE <| jB <| jM <| jU (.inl rfl) rfl (jN (v := iv n_13) rfl) (List.Sublist.refl _) ?_
    exact ⟨x_11, m_12, n_13, (by simp only [MS.fileOf, e_1, h_4, e_5, e_9, SB]; (repeat (first | rw [if_pos (by omega)] | rw [if_neg (by omega)])); all_goals (first | rfl | simp only [SB, e_1, h_4, e_5, e_9])), (k_10.mono (by omega) (by omega)), (by first | omega | (simp only [LE]; omega)), rfl, rfl⟩
  refine jQ (cB (cN h_4)) <| jD <| jF <| jA (jG (v := iv 0) rfl) <| jE <| jB <| jM <| jb <| jU (.inl rfl) rfl (jN (v := iv 0) rfl) (List.Sublist.refl _) ?_
  exact ⟨x, m, 0, (by simp only [MS.fileOf, e_1, h_4, SB]; (repeat (first | rw [if_pos (by omega)] | rw [if_neg (by omega)])); all_goals (first | rfl | simp only [SB, e_1, h_4])), (hk.mono (by omega) (by omega)), (by first | omega | (simp only [LE]; omega)), rfl, rfl⟩

theorem N_makeName (p : Nat) (x : MA) (m : MS) {S T : Nat} (hk : m.ok S T) (hS : S ≤ 250000000) (hT : T ≤ 250000000) (name : Str) (hname : name.length ≤ 100000000) :
    Ct Tryz.prog 99 [.pointer (some ⟨p, 0, none⟩), str name] (mb p x m :: mr x m) (fun _ => True) (fun v A' => ∃ x' m' r0 r1, MS.makeName m name = (m', r0, r1) ∧ m'.ok (S + 3) (T + 5) ∧ (0 ≤ r0 ∧ r0 ≤ 999) ∧ (0 ≤ r1 ∧ r1 ≤ 9) ∧ v = .tuple #[.int .i64 r0, .int .i64 r1] ∧ A' = mb p x' m' :: mr x' m') := by
  refine Ct.intro Tryz.func99 rfl Tryz.ntmps99 (lb rfl) fun w0 hpre => ?_
  refine jD <| jF <| jA (jG (v := iv 0) rfl) <| jA (jG (v := iv 0) rfl) <| jE <| jB <| jD <| jl <| jD <| jF ?_
  refine jA (jC (v := str name) rfl) ?_
  refine jH rfl (jI [] Tryz.call162 rfl (N_nameOk name (by omega)) rfl (fun _ _ => trivial)) ?_
  rintro _ _ ⟨_, ⟨b_3, e_1, rfl, rfl⟩, rfl⟩
  refine jA (kF rfl) <| jA (jG (v := .bool (!b_3)) rfl) <| jE <| jB ?_
  rcases Bool.eq_false_or_eq_true (b_3) with h_4 | h_4
  · refine jR (cB (cN h_4)) <| jD <| jF <| jA (jC (v := pv p) rfl) <| jA (jC (v := str name) rfl) ?_
    refine jH rfl (jI [0, 0, 0, 0] Tryz.call163 rfl (N_fileOf p x m hk (by omega) (by omega) name (by omega)) rfl (fun _ _ => trivial)) ?_
    rintro _ _ ⟨_, ⟨x_7, m_8, n_9, e_5, k_6, f_10, rfl, rfl⟩, rfl⟩
    refine jA (kO rfl rfl) <| jA (jG (v := .bool (!(decide (n_9 = 0)))) rfl) <| jE <| jB ?_
    by_cases h_11 : n_9 = 0
    · refine jR (cB (cN (dT h_11))) <| jD <| jF <| jA (jC (v := pv p) rfl) ?_
      refine jH rfl (jI [0, 0, 0, 0] Tryz.call160 rfl (N_num p x_7 m_8 k_6 (by omega) (by omega) [99, 47, 102, 105, 108, 101]) rfl (fun _ _ => trivial)) ?_
      rintro _ _ ⟨_, ⟨x_14, m_15, n_16, e_12, k_13, f_17, rfl, rfl⟩, rfl⟩
      refine jA (kT rfl rfl) <| jA (jG (v := .bool (decide (20 ≤ n_16))) rfl) <| jE <| jB ?_
      by_cases h_18 : 20 ≤ n_16
      · refine jQ (cB (dT h_18)) <| jD <| jF <| jA (jG (v := iv 0) rfl) <| jA (jG (v := iv 3) rfl) <| jE <| jB <| jM <| kA <| jb ?_
        refine jn (.inl rfl) rfl (jN (v := iv 0) rfl) (jN (v := iv 3) rfl) (List.Sublist.refl _) ?_
        exact ⟨x_14, m_15, 0, 3, (by simp only [MS.makeName, e_1, h_4, e_5, h_11, e_12, h_18, SB]; (repeat (first | rw [if_pos (by omega)] | rw [if_neg (by omega)])); all_goals (first | rfl | simp only [SB, e_1, h_4, e_5, h_11, e_12, h_18])), (k_13.mono (by omega) (by omega)), (by first | omega | (simp only [LE]; omega)), (by first | omega | (simp only [LE]; omega)), rfl, rfl⟩
      refine jR (cB (dF h_18)) <| jW <| jk <| jB <| jD <| jF <| jA (jC (v := pv p) rfl) ?_
      refine jH rfl (jI [0, 0, 0, 0] Tryz.call164 rfl (N_bump p x_14 m_15 k_13 (by omega) (by omega) [99, 47, 102, 105, 108, 101] (by decide)) rfl (fun _ _ => trivial)) ?_
      rintro _ _ ⟨_, ⟨x_21, m_22, n_23, e_19, k_20, f_24, rfl, rfl⟩, rfl⟩
      refine jA (jG (v := iv n_23) rfl) <| jE <| jB <| jD <| jF <| jA (jC (v := pv p) rfl) <| jA (jC (v := str name) rfl) ?_
      refine jH rfl (jI [] Tryz.call166 rfl (N_nameKey name (by omega)) rfl (fun _ _ => trivial)) ?_
      rintro _ _ ⟨_, ⟨u_27, e_25, f_28, rfl, rfl⟩, rfl⟩
      refine jA (jC (v := iv n_23) rfl) ?_
      refine jH rfl (jI [0, 0, 0, 0] Tryz.call165 rfl (N_setNum p x_21 m_22 k_20 (by omega) (by omega) u_27 n_23 (by omega) (by omega)) rfl (fun _ _ => trivial)) ?_
      rintro _ _ ⟨_, ⟨x_31, m_32, e_29, k_30, rfl, rfl⟩, rfl⟩
      refine jE <| jB <| jD <| jF <| jA (jC (v := pv p) rfl) <| jA (jC (v := iv n_23) rfl) ?_
      refine jH rfl (jI [] Tryz.call167 rfl (N_linksKey n_23 (by omega)) rfl (fun _ _ => trivial)) ?_
      rintro _ _ ⟨_, ⟨u_35, e_33, f_36, rfl, rfl⟩, rfl⟩
      refine jH rfl (jI [0, 0, 0, 0] Tryz.call165 rfl (N_setNum p x_31 m_32 k_30 (by omega) (by omega) u_35 1 (by omega) (by omega)) rfl (fun _ _ => trivial)) ?_
      rintro _ _ ⟨_, ⟨x_39, m_40, e_37, k_38, rfl, rfl⟩, rfl⟩
      refine jE <| jB <| jD <| jF <| jA (jC (v := iv n_23) rfl) <| jA (jG (v := iv n_23) rfl) <| jA (jG (v := iv 0) rfl) <| jE <| jB <| jM ?_
      refine jn (.inl rfl) rfl (jN (v := iv n_23) rfl) (jN (v := iv 0) rfl) (List.Sublist.refl _) ?_
      exact ⟨x_39, m_40, n_23, 0, (by simp only [MS.makeName, e_1, h_4, e_5, h_11, e_12, h_18, e_19, e_25, e_29, e_33, e_37, SB]; (repeat (first | rw [if_pos (by omega)] | rw [if_neg (by omega)])); all_goals (first | rfl | simp only [SB, e_1, h_4, e_5, h_11, e_12, h_18, e_19, e_25, e_29, e_33, e_37])), (k_38.mono (by omega) (by omega)), (by first | omega | (simp only [LE]; omega)), (by first | omega | (simp only [LE]; omega)), rfl, rfl⟩
    refine jQ (cB (cN (dF h_11))) <| jD <| jF <| jA (jG (v := iv 0) rfl) <| jA (jG (v := iv 1) rfl) <| jE <| jB <| jM <| kA <| jb ?_
    refine jn (.inl rfl) rfl (jN (v := iv 0) rfl) (jN (v := iv 1) rfl) (List.Sublist.refl _) ?_
    exact ⟨x_7, m_8, 0, 1, (by simp only [MS.makeName, e_1, h_4, e_5, h_11, SB]; (repeat (first | rw [if_pos (by omega)] | rw [if_neg (by omega)])); all_goals (first | rfl | simp only [SB, e_1, h_4, e_5, h_11])), (k_6.mono (by omega) (by omega)), (by first | omega | (simp only [LE]; omega)), (by first | omega | (simp only [LE]; omega)), rfl, rfl⟩
  refine jQ (cB (cN h_4)) <| jD <| jF <| jA (jG (v := iv 0) rfl) <| jA (jG (v := iv 4) rfl) <| jE <| jB <| jM <| kA <| jb ?_
  refine jn (.inl rfl) rfl (jN (v := iv 0) rfl) (jN (v := iv 4) rfl) (List.Sublist.refl _) ?_
  exact ⟨x, m, 0, 4, (by simp only [MS.makeName, e_1, h_4, SB]; (repeat (first | rw [if_pos (by omega)] | rw [if_neg (by omega)])); all_goals (first | rfl | simp only [SB, e_1, h_4])), (hk.mono (by omega) (by omega)), (by first | omega | (simp only [LE]; omega)), (by first | omega | (simp only [LE]; omega)), rfl, rfl⟩

theorem N_linkName (p : Nat) (x : MA) (m : MS) {S T : Nat} (hk : m.ok S T) (hS : S ≤ 250000000) (hT : T ≤ 250000000) (from_ : Str) (to_ : Str) (hfrom_ : from_.length ≤ 100000000) (hto_ : to_.length ≤ 100000000) :
    Ct Tryz.prog 100 [.pointer (some ⟨p, 0, none⟩), str from_, str to_] (mb p x m :: mr x m) (fun _ => True) (fun v A' => ∃ x' m' r0, MS.linkName m from_ to_ = (m', r0) ∧ m'.ok (S + 2) (T + 5) ∧ (0 ≤ r0 ∧ r0 ≤ 9) ∧ v = .int .i64 r0 ∧ A' = mb p x' m' :: mr x' m') := by
  refine Ct.intro Tryz.func100 rfl Tryz.ntmps100 (lb rfl) fun w0 hpre => ?_
  refine jD <| jF <| jA (jG (v := iv 0) rfl) <| jE <| jB <| jD <| jD <| jF <| jA (jC (v := str from_) rfl) ?_
  refine jH rfl (jI [] Tryz.call162 rfl (N_nameOk from_ (by omega)) rfl (fun _ _ => trivial)) ?_
  rintro _ _ ⟨_, ⟨b_3, e_1, rfl, rfl⟩, rfl⟩
  refine jA (kF rfl) <| jA (jC (v := .bool (!b_3)) rfl) ?_
  rcases Bool.eq_false_or_eq_true (b_3) with h_4 | h_4
  · refine jX rfl rfl rfl (cB (cN h_4)) (jZ (jd (jC (v := str to_) rfl))) ?_
    rintro _ _ ⟨rfl, rfl⟩
    refine jX rfl rfl rfl (cB (cN h_4)) (jI [] Tryz.call162 rfl (N_nameOk to_ (by omega)) rfl (fun _ _ => trivial)) ?_
    rintro _ _ ⟨_, ⟨b_7, e_5, rfl, rfl⟩, rfl⟩
    refine jX rfl rfl rfl (cB (cN h_4)) (jZ (jd (kF rfl))) ?_
    rintro _ _ ⟨rfl, rfl⟩
    refine jA (js (v := .bool (!b_7)) (cB (cN h_4)) rfl) <| jE <| jB ?_
    rcases Bool.eq_false_or_eq_true (b_7) with h_8 | h_8
    · refine jR (cB (cN h_8)) <| jW <| jB <| jD <| jF <| jA (jC (v := pv p) rfl) <| jA (jC (v := str from_) rfl) ?_
      refine jH rfl (jI [0, 0, 0, 0] Tryz.call163 rfl (N_fileOf p x m hk (by omega) (by omega) from_ (by omega)) rfl (fun _ _ => trivial)) ?_
      rintro _ _ ⟨_, ⟨x_11, m_12, n_13, e_9, k_10, f_14, rfl, rfl⟩, rfl⟩
      refine jA (jG (v := iv n_13) rfl) <| jE <| jB <| jD <| jD <| jF <| jA (jC (v := iv n_13) rfl) <| jA (jx rfl rfl) <| jE <| jB ?_
      by_cases h_15 : n_13 = 0
      · refine jQ (cB (dT h_15)) <| jD <| jF <| jA (jG (v := iv 2) rfl) <| jE <| jB <| jM <| jb <| jU (.inl rfl) rfl (jN (v := iv 2) rfl) (List.Sublist.refl _) ?_
        exact ⟨x_11, m_12, 2, (by simp only [MS.linkName, e_1, h_4, e_5, h_8, e_9, h_15, SB]; (repeat (first | rw [if_pos (by omega)] | rw [if_neg (by omega)])); all_goals (first | rfl | simp only [SB, e_1, h_4, e_5, h_8, e_9, h_15])), (k_10.mono (by omega) (by omega)), (by first | omega | (simp only [LE]; omega)), rfl, rfl⟩
      refine jR (cB (dF h_15)) <| jW <| jB <| jD <| jD <| jF <| jA (jC (v := pv p) rfl) <| jA (jC (v := str to_) rfl) ?_
      refine jH rfl (jI [0, 0, 0, 0] Tryz.call163 rfl (N_fileOf p x_11 m_12 k_10 (by omega) (by omega) to_ (by omega)) rfl (fun _ _ => trivial)) ?_
      rintro _ _ ⟨_, ⟨x_18, m_19, n_20, e_16, k_17, f_21, rfl, rfl⟩, rfl⟩
      refine jA (kO rfl rfl) <| jE <| jB ?_
      by_cases h_22 : n_20 = 0
      · refine jR (cB (cN (dT h_22))) <| jW <| jB <| jD <| jF <| jA (jC (v := pv p) rfl) <| jA (jC (v := iv n_13) rfl) ?_
        refine jH rfl (jI [] Tryz.call167 rfl (N_linksKey n_13 (by omega)) rfl (fun _ _ => trivial)) ?_
        rintro _ _ ⟨_, ⟨u_25, e_23, f_26, rfl, rfl⟩, rfl⟩
        refine jH rfl (jI [0, 0, 0, 0] Tryz.call160 rfl (N_num p x_18 m_19 k_17 (by omega) (by omega) u_25) rfl (fun _ _ => trivial)) ?_
        rintro _ _ ⟨_, ⟨x_29, m_30, n_31, e_27, k_28, f_32, rfl, rfl⟩, rfl⟩
        refine jA (jG (v := iv n_31) rfl) <| jE <| jB <| jD <| jD <| jF <| jA (jC (v := iv n_31) rfl) <| jA (kT rfl rfl) <| jE <| jB ?_
        by_cases h_33 : 4 ≤ n_31
        · refine jQ (cB (dT h_33)) <| jD <| jF <| jA (jG (v := iv 3) rfl) <| jE <| jB <| jM <| jb <| jU (.inl rfl) rfl (jN (v := iv 3) rfl) (List.Sublist.refl _) ?_
          exact ⟨x_29, m_30, 3, (by simp only [MS.linkName, e_1, h_4, e_5, h_8, e_9, h_15, e_16, h_22, e_23, e_27, h_33, SB]; (repeat (first | rw [if_pos (by omega)] | rw [if_neg (by omega)])); all_goals (first | rfl | simp only [SB, e_1, h_4, e_5, h_8, e_9, h_15, e_16, h_22, e_23, e_27, h_33])), (k_28.mono (by omega) (by omega)), (by first | omega | (simp only [LE]; omega)), rfl, rfl⟩
        refine jR (cB (dF h_33)) <| jW <| jB <| jD <| jF <| jA (jC (v := pv p) rfl) <| jA (jC (v := str to_) rfl) ?_
        refine jH rfl (jI [] Tryz.call166 rfl (N_nameKey to_ (by omega)) rfl (fun _ _ => trivial)) ?_
        rintro _ _ ⟨_, ⟨u_36, e_34, f_37, rfl, rfl⟩, rfl⟩
        refine jA (jC (v := iv n_13) rfl) ?_
        refine jH rfl (jI [0, 0, 0, 0] Tryz.call165 rfl (N_setNum p x_29 m_30 k_28 (by omega) (by omega) u_36 n_13 (by omega) (by omega)) rfl (fun _ _ => trivial)) ?_
        rintro _ _ ⟨_, ⟨x_40, m_41, e_38, k_39, rfl, rfl⟩, rfl⟩
        refine jE <| jB <| jD <| jF <| jA (jC (v := pv p) rfl) <| jA (jC (v := iv n_13) rfl) ?_
        refine jH rfl (jI [] Tryz.call167 rfl (N_linksKey n_13 (by omega)) rfl (fun _ _ => trivial)) ?_
        rintro _ _ ⟨_, ⟨u_44, e_42, f_45, rfl, rfl⟩, rfl⟩
        have hqe_42 := e_23.symm.trans e_42
        subst hqe_42
        refine jA (jC (v := iv n_31) rfl) <| jA (ji (c := n_31 + 1) rfl rfl (wr (by omega))) ?_
        refine jH rfl (jI [0, 0, 0, 0] Tryz.call165 rfl (N_setNum p x_40 m_41 k_39 (by omega) (by omega) u_25 (n_31 + 1) (by omega) (by omega)) rfl (fun _ _ => trivial)) ?_
        rintro _ _ ⟨_, ⟨x_48, m_49, e_46, k_47, rfl, rfl⟩, rfl⟩
        refine jE <| jB <| jD <| jF <| jA (jG (v := iv 0) rfl) <| jE <| jB <| jM <| jU (.inl rfl) rfl (jN (v := iv 0) rfl) (List.Sublist.refl _) ?_
        exact ⟨x_48, m_49, 0, (by simp only [MS.linkName, e_1, h_4, e_5, h_8, e_9, h_15, e_16, h_22, e_23, e_27, h_33, e_34, e_38, e_46, SB]; (repeat (first | rw [if_pos (by omega)] | rw [if_neg (by omega)])); all_goals (first | rfl | simp only [SB, e_1, h_4, e_5, h_8, e_9, h_15, e_16, h_22, e_23, e_27, h_33, e_34, e_38, e_46])), (k_47.mono (by omega) (by omega)), (by first | omega | (simp only [LE]; omega)), rfl, rfl⟩
      refine jQ (cB (cN (dF h_22))) <| jD <| jF <| jA (jG (v := iv 1) rfl) <| jE <| jB <| jM <| jb <| jU (.inl rfl) rfl (jN (v := iv 1) rfl) (List.Sublist.refl _) ?_
      exact ⟨x_18, m_19, 1, (by simp only [MS.linkName, e_1, h_4, e_5, h_8, e_9, h_15, e_16, h_22, SB]; (repeat (first | rw [if_pos (by omega)] | rw [if_neg (by omega)])); all_goals (first | rfl | simp only [SB, e_1, h_4, e_5, h_8, e_9, h_15, e_16, h_22])), (k_17.mono (by omega) (by omega)), (by first | omega | (simp only [LE]; omega)), rfl, rfl⟩
    refine jQ (cB (cN h_8)) <| jD <| jF <| jA (jG (v := iv 4) rfl) <| jE <| jB <| jM <| jb <| jU (.inl rfl) rfl (jN (v := iv 4) rfl) (List.Sublist.refl _) ?_
    exact ⟨x, m, 4, (by simp only [MS.linkName, e_1, h_4, e_5, h_8, SB]; (repeat (first | rw [if_pos (by omega)] | rw [if_neg (by omega)])); all_goals (first | rfl | simp only [SB, e_1, h_4, e_5, h_8])), (hk.mono (by omega) (by omega)), (by first | omega | (simp only [LE]; omega)), rfl, rfl⟩
  refine jO (b := true) rfl rfl rfl (cB (cN h_4)) <| jO (b := true) rfl rfl rfl (cB (cN h_4)) <| jO (b := true) rfl rfl rfl (cB (cN h_4)) <| jA (jw (v := .bool true) (cB (cN h_4)) rfl) <| jE <| jB <| jQ (cB rfl) <| jD <| jF <| jA (jG (v := iv 4) rfl) ?_
  refine jE <| jB <| jM <| jb <| jU (.inl rfl) rfl (jN (v := iv 4) rfl) (List.Sublist.refl _) ?_
  exact ⟨x, m, 4, (by simp only [MS.linkName, e_1, h_4, SB]; (repeat (first | rw [if_pos (by omega)] | rw [if_neg (by omega)])); all_goals (first | rfl | simp only [SB, e_1, h_4])), (hk.mono (by omega) (by omega)), (by first | omega | (simp only [LE]; omega)), rfl, rfl⟩

theorem N_unlinkName (p : Nat) (x : MA) (m : MS) {S T : Nat} (hk : m.ok S T) (hS : S ≤ 250000000) (hT : T ≤ 250000000) (name : Str) (hname : name.length ≤ 100000000) :
    Ct Tryz.prog 101 [.pointer (some ⟨p, 0, none⟩), str name] (mb p x m :: mr x m) (fun _ => True) (fun v A' => ∃ x' m' r0, MS.unlinkName m name = (m', r0) ∧ m'.ok (S + 1) (T + S + 4) ∧ (0 ≤ r0 ∧ r0 ≤ 9) ∧ v = .int .i64 r0 ∧ A' = mb p x' m' :: mr x' m') := by
  refine Ct.intro Tryz.func101 rfl Tryz.ntmps101 (lb rfl) fun w0 hpre => ?_
  refine jD <| jF <| jA (jG (v := iv 0) rfl) <| jE <| jB <| jD <| jD <| jF <| jA (jC (v := str name) rfl) ?_
  refine jH rfl (jI [] Tryz.call162 rfl (N_nameOk name (by omega)) rfl (fun _ _ => trivial)) ?_
  rintro _ _ ⟨_, ⟨b_3, e_1, rfl, rfl⟩, rfl⟩
  refine jA (kF rfl) <| jE <| jB ?_
  rcases Bool.eq_false_or_eq_true (b_3) with h_4 | h_4
  · refine jR (cB (cN h_4)) <| jW <| jB <| jD <| jF <| jA (jC (v := pv p) rfl) <| jA (jC (v := str name) rfl) ?_
    refine jH rfl (jI [0, 0, 0, 0] Tryz.call163 rfl (N_fileOf p x m hk (by omega) (by omega) name (by omega)) rfl (fun _ _ => trivial)) ?_
    rintro _ _ ⟨_, ⟨x_7, m_8, n_9, e_5, k_6, f_10, rfl, rfl⟩, rfl⟩
    refine jA (jG (v := iv n_9) rfl) <| jE <| jB <| jD <| jD <| jF <| jA (jC (v := iv n_9) rfl) <| jA (jx rfl rfl) <| jE <| jB ?_
    by_cases h_11 : n_9 = 0
    · refine jQ (cB (dT h_11)) <| jD <| jF <| jA (jG (v := iv 2) rfl) <| jE <| jB <| jM <| jb <| jU (.inl rfl) rfl (jN (v := iv 2) rfl) (List.Sublist.refl _) ?_
      exact ⟨x_7, m_8, 2, (by simp only [MS.unlinkName, e_1, h_4, e_5, h_11, SB]; (repeat (first | rw [if_pos (by omega)] | rw [if_neg (by omega)])); all_goals (first | rfl | simp only [SB, e_1, h_4, e_5, h_11])), (k_6.mono (by omega) (by omega)), (by first | omega | (simp only [LE]; omega)), rfl, rfl⟩
    refine jR (cB (dF h_11)) <| jW <| jB <| jD <| jF <| jA (jC (v := pv p) rfl) <| jA (jC (v := str name) rfl) ?_
    refine jH rfl (jI [] Tryz.call166 rfl (N_nameKey name (by omega)) rfl (fun _ _ => trivial)) ?_
    rintro _ _ ⟨_, ⟨u_14, e_12, f_15, rfl, rfl⟩, rfl⟩
    refine jH rfl (jI [0, 0, 0, 0] Tryz.call168 rfl (N_layNil p x_7 m_8 k_6 (by omega) (by omega) u_14 (by omega)) rfl (fun _ _ => trivial)) ?_
    rintro _ _ ⟨_, ⟨x_18, m_19, e_16, k_17, rfl, rfl⟩, rfl⟩
    refine jE <| jB <| jD <| jD <| jF <| jA (jC (v := pv p) rfl) <| jA (jC (v := iv n_9) rfl) ?_
    refine jH rfl (jI [] Tryz.call167 rfl (N_linksKey n_9 (by omega)) rfl (fun _ _ => trivial)) ?_
    rintro _ _ ⟨_, ⟨u_22, e_20, f_23, rfl, rfl⟩, rfl⟩
    refine jH rfl (jI [0, 0, 0, 0] Tryz.call160 rfl (N_num p x_18 m_19 k_17 (by omega) (by omega) u_22) rfl (fun _ _ => trivial)) ?_
    rintro _ _ ⟨_, ⟨x_26, m_27, n_28, e_24, k_25, f_29, rfl, rfl⟩, rfl⟩
    refine jA (jG (v := iv n_28) rfl) <| jE <| jB <| jD <| jF <| jA (jC (v := iv n_28) rfl) <| jA (kU rfl rfl) <| jE <| jB ?_
    by_cases h_30 : 1 < n_28
    · refine jQ (cB (dT h_30)) <| jF <| jA (jC (v := pv p) rfl) <| jA (jC (v := iv n_9) rfl) ?_
      refine jH rfl (jI [] Tryz.call167 rfl (N_linksKey n_9 (by omega)) rfl (fun _ _ => trivial)) ?_
      rintro _ _ ⟨_, ⟨u_33, e_31, f_34, rfl, rfl⟩, rfl⟩
      have hqe_31 := e_20.symm.trans e_31
      subst hqe_31
      refine jA (jC (v := iv n_28) rfl) <| jA (kQ (c := n_28 - 1) rfl rfl (wr (by omega))) ?_
      refine jH rfl (jI [0, 0, 0, 0] Tryz.call165 rfl (N_setNum p x_26 m_27 k_25 (by omega) (by omega) u_22 (n_28 - 1) (by omega) (by omega)) rfl (fun _ _ => trivial)) ?_
      rintro _ _ ⟨_, ⟨x_37, m_38, e_35, k_36, rfl, rfl⟩, rfl⟩
      refine jE <| jB <| jD <| jF <| jA (jG (v := iv 0) rfl) <| jE <| jB <| jM <| jU (.inl rfl) rfl (jN (v := iv 0) rfl) (List.Sublist.refl _) ?_
      exact ⟨x_37, m_38, 0, (by simp only [MS.unlinkName, e_1, h_4, e_5, h_11, e_12, e_16, e_20, e_24, h_30, e_35, SB]; (repeat (first | rw [if_pos (by omega)] | rw [if_neg (by omega)])); all_goals (first | rfl | simp only [SB, e_1, h_4, e_5, h_11, e_12, e_16, e_20, e_24, h_30, e_35])), (k_36.mono (by omega) (by omega)), (by first | omega | (simp only [LE]; omega)), rfl, rfl⟩
    refine jR (cB (dF h_30)) <| jF <| jA (jC (v := pv p) rfl) <| jA (jC (v := iv n_9) rfl) ?_
    refine jH rfl (jI [] Tryz.call170 rfl (N_keyNum [105, 47] n_9 [47] (show List.length ([105, 47] : Str) ≤ 2 by decide) (by omega) (show List.length ([47] : Str) ≤ 1 by decide) (by omega)) rfl (fun _ _ => trivial)) ?_
    rintro _ _ ⟨_, ⟨u_41, e_39, f_42, rfl, rfl⟩, rfl⟩
    refine jH rfl (jI [0, 0, 0, 0] Tryz.call169 rfl (N_wipe p x_26 m_27 k_25 (by omega) (by omega) u_41 (by omega)) rfl (fun _ _ => trivial)) ?_
    rintro _ _ ⟨_, ⟨x_45, m_46, e_43, k_44, rfl, rfl⟩, rfl⟩
    refine jE <| jB <| jD <| jF <| jA (jG (v := iv 0) rfl) <| jE <| jB <| jM <| jU (.inl rfl) rfl (jN (v := iv 0) rfl) (List.Sublist.refl _) ?_
    exact ⟨x_45, m_46, 0, (by simp only [MS.unlinkName, e_1, h_4, e_5, h_11, e_12, e_16, e_20, e_24, h_30, e_39, e_43, SB]; (repeat (first | rw [if_pos (by omega)] | rw [if_neg (by omega)])); all_goals (first | rfl | simp only [SB, e_1, h_4, e_5, h_11, e_12, e_16, e_20, e_24, h_30, e_39, e_43])), (k_44.mono (by omega) (by omega)), (by first | omega | (simp only [LE]; omega)), rfl, rfl⟩
  refine jQ (cB (cN h_4)) <| jD <| jF <| jA (jG (v := iv 4) rfl) <| jE <| jB <| jM <| jb <| jU (.inl rfl) rfl (jN (v := iv 4) rfl) (List.Sublist.refl _) ?_
  exact ⟨x, m, 4, (by simp only [MS.unlinkName, e_1, h_4, SB]; (repeat (first | rw [if_pos (by omega)] | rw [if_neg (by omega)])); all_goals (first | rfl | simp only [SB, e_1, h_4])), (hk.mono (by omega) (by omega)), (by first | omega | (simp only [LE]; omega)), rfl, rfl⟩

theorem N_renameName (p : Nat) (x : MA) (m : MS) {S T : Nat} (hk : m.ok S T) (hS : S ≤ 200000000) (hT : T ≤ 200000000) (from_ : Str) (to_ : Str) (hfrom_ : from_.length ≤ 100000000) (hto_ : to_.length ≤ 100000000) :
    Ct Tryz.prog 102 [.pointer (some ⟨p, 0, none⟩), str from_, str to_] (mb p x m :: mr x m) (fun _ => True) (fun v A' => ∃ x' m' r0, MS.renameName m from_ to_ = (m', r0) ∧ m'.ok (S + 2) (T + S + 8) ∧ (0 ≤ r0 ∧ r0 ≤ 9) ∧ v = .int .i64 r0 ∧ A' = mb p x' m' :: mr x' m') := by
  refine Ct.intro Tryz.func102 rfl Tryz.ntmps102 (lb rfl) fun w0 hpre => ?_
  refine jD <| jF <| jA (jG (v := iv 0) rfl) <| jE <| jB <| jD <| jD <| jF <| jA (jC (v := str from_) rfl) ?_
  refine jH rfl (jI [] Tryz.call162 rfl (N_nameOk from_ (by omega)) rfl (fun _ _ => trivial)) ?_
  rintro _ _ ⟨_, ⟨b_3, e_1, rfl, rfl⟩, rfl⟩
  refine jA (kF rfl) <| jA (jC (v := .bool (!b_3)) rfl) ?_
  rcases Bool.eq_false_or_eq_true (b_3) with h_4 | h_4
  · refine jX rfl rfl rfl (cB (cN h_4)) (jZ (jd (jC (v := str to_) rfl))) ?_
    rintro _ _ ⟨rfl, rfl⟩
    refine jX rfl rfl rfl (cB (cN h_4)) (jI [] Tryz.call162 rfl (N_nameOk to_ (by omega)) rfl (fun _ _ => trivial)) ?_
    rintro _ _ ⟨_, ⟨b_7, e_5, rfl, rfl⟩, rfl⟩
    refine jX rfl rfl rfl (cB (cN h_4)) (jZ (jd (kF rfl))) ?_
    rintro _ _ ⟨rfl, rfl⟩
    refine jA (js (v := .bool (!b_7)) (cB (cN h_4)) rfl) <| jE <| jB ?_
    rcases Bool.eq_false_or_eq_true (b_7) with h_8 | h_8
    · refine jR (cB (cN h_8)) <| jW <| jB <| jD <| jF <| jA (jC (v := pv p) rfl) <| jA (jC (v := str from_) rfl) ?_
      refine jH rfl (jI [0, 0, 0, 0] Tryz.call163 rfl (N_fileOf p x m hk (by omega) (by omega) from_ (by omega)) rfl (fun _ _ => trivial)) ?_
      rintro _ _ ⟨_, ⟨x_11, m_12, n_13, e_9, k_10, f_14, rfl, rfl⟩, rfl⟩
      refine jA (jG (v := iv n_13) rfl) <| jE <| jB <| jD <| jD <| jF <| jA (jC (v := iv n_13) rfl) <| jA (jx rfl rfl) <| jE <| jB ?_
      by_cases h_15 : n_13 = 0
      · refine jQ (cB (dT h_15)) <| jD <| jF <| jA (jG (v := iv 2) rfl) <| jE <| jB <| jM <| jb <| jU (.inl rfl) rfl (jN (v := iv 2) rfl) (List.Sublist.refl _) ?_
        exact ⟨x_11, m_12, 2, (by simp only [MS.renameName, e_1, h_4, e_5, h_8, e_9, h_15, SB]; (repeat (first | rw [if_pos (by omega)] | rw [if_neg (by omega)])); all_goals (first | rfl | simp only [SB, e_1, h_4, e_5, h_8, e_9, h_15])), (k_10.mono (by omega) (by omega)), (by first | omega | (simp only [LE]; omega)), rfl, rfl⟩
      refine jR (cB (dF h_15)) <| jW <| jB <| jD <| jD <| jF <| jA (jC (v := pv p) rfl) <| jA (jC (v := str to_) rfl) ?_
      refine jH rfl (jI [0, 0, 0, 0] Tryz.call163 rfl (N_fileOf p x_11 m_12 k_10 (by omega) (by omega) to_ (by omega)) rfl (fun _ _ => trivial)) ?_
      rintro _ _ ⟨_, ⟨x_18, m_19, n_20, e_16, k_17, f_21, rfl, rfl⟩, rfl⟩
      refine jA (jG (v := iv n_20) rfl) <| jE <| jB <| jl <| jD <| jF <| jA (jC (v := iv n_20) rfl) <| jA (jC (v := iv n_13) rfl) <| jA (jx rfl rfl) <| jA (jG (v := .bool (decide (n_20 = n_13))) rfl) ?_
      refine jE <| jB ?_
      by_cases h_22 : n_20 = n_13
      · refine jQ (cB (dT h_22)) <| jD <| jF <| jA (jG (v := iv 0) rfl) <| jE <| jB <| jM <| kA <| jb <| jU (.inl rfl) rfl (jN (v := iv 0) rfl) (List.Sublist.refl _) ?_
        exact ⟨x_18, m_19, 0, (by simp only [MS.renameName, e_1, h_4, e_5, h_8, e_9, h_15, e_16, h_22, SB]; (repeat (first | rw [if_pos (by omega)] | rw [if_neg (by omega)])); all_goals (first | rfl | simp only [SB, e_1, h_4, e_5, h_8, e_9, h_15, e_16, h_22])), (k_17.mono (by omega) (by omega)), (by first | omega | (simp only [LE]; omega)), rfl, rfl⟩
      refine jR (cB (dF h_22)) <| jD <| jF <| jA (jC (v := iv n_20) rfl) <| jA (kO rfl rfl) <| jA (jG (v := .bool (!(decide (n_20 = 0)))) rfl) <| jE <| jB ?_
      by_cases h_23 : n_20 = 0
      · refine jR (cB (cN (dT h_23))) <| jW <| jk <| jB <| jD <| jF <| jA (jC (v := pv p) rfl) <| jA (jC (v := str to_) rfl) ?_
        refine jH rfl (jI [] Tryz.call166 rfl (N_nameKey to_ (by omega)) rfl (fun _ _ => trivial)) ?_
        rintro _ _ ⟨_, ⟨u_26, e_24, f_27, rfl, rfl⟩, rfl⟩
        refine jA (jC (v := iv n_13) rfl) ?_
        refine jH rfl (jI [0, 0, 0, 0] Tryz.call165 rfl (N_setNum p x_18 m_19 k_17 (by omega) (by omega) u_26 n_13 (by omega) (by omega)) rfl (fun _ _ => trivial)) ?_
        rintro _ _ ⟨_, ⟨x_30, m_31, e_28, k_29, rfl, rfl⟩, rfl⟩
        refine jE <| jB <| jD <| jF <| jA (jC (v := pv p) rfl) <| jA (jC (v := str from_) rfl) ?_
        refine jH rfl (jI [] Tryz.call166 rfl (N_nameKey from_ (by omega)) rfl (fun _ _ => trivial)) ?_
        rintro _ _ ⟨_, ⟨u_34, e_32, f_35, rfl, rfl⟩, rfl⟩
        refine jH rfl (jI [0, 0, 0, 0] Tryz.call168 rfl (N_layNil p x_30 m_31 k_29 (by omega) (by omega) u_34 (by omega)) rfl (fun _ _ => trivial)) ?_
        rintro _ _ ⟨_, ⟨x_38, m_39, e_36, k_37, rfl, rfl⟩, rfl⟩
        refine jE <| jB <| jD <| jF <| jA (jG (v := iv 0) rfl) <| jE <| jB <| jM <| jU (.inl rfl) rfl (jN (v := iv 0) rfl) (List.Sublist.refl _) ?_
        exact ⟨x_38, m_39, 0, (by simp only [MS.renameName, e_1, h_4, e_5, h_8, e_9, h_15, e_16, h_22, h_23, e_24, e_28, e_32, e_36, SB]; (repeat (first | rw [if_pos (by omega)] | rw [if_neg (by omega)])); all_goals (first | rfl | simp only [SB, e_1, h_4, e_5, h_8, e_9, h_15, e_16, h_22, h_23, e_24, e_28, e_32, e_36])), (k_37.mono (by omega) (by omega)), (by first | omega | (simp only [LE]; omega)), rfl, rfl⟩
      refine jQ (cB (cN (dF h_23))) <| jF <| jA (jC (v := pv p) rfl) <| jA (jC (v := str to_) rfl) ?_
      refine jH rfl (jI [0, 0, 0, 0] Tryz.call101 rfl (N_unlinkName p x_18 m_19 k_17 (by omega) (by omega) to_ (by omega)) rfl (fun _ _ => trivial)) ?_
      rintro _ _ ⟨_, ⟨x_42, m_43, n_44, e_40, k_41, f_45, rfl, rfl⟩, rfl⟩
      refine jE <| jk <| jB <| jD <| jF <| jA (jC (v := pv p) rfl) <| jA (jC (v := str to_) rfl) ?_
      refine jH rfl (jI [] Tryz.call166 rfl (N_nameKey to_ (by omega)) rfl (fun _ _ => trivial)) ?_
      rintro _ _ ⟨_, ⟨u_48, e_46, f_49, rfl, rfl⟩, rfl⟩
      refine jA (jC (v := iv n_13) rfl) ?_
      refine jH rfl (jI [0, 0, 0, 0] Tryz.call165 rfl (N_setNum p x_42 m_43 k_41 (by omega) (by omega) u_48 n_13 (by omega) (by omega)) rfl (fun _ _ => trivial)) ?_
      rintro _ _ ⟨_, ⟨x_52, m_53, e_50, k_51, rfl, rfl⟩, rfl⟩
      refine jE <| jB <| jD <| jF <| jA (jC (v := pv p) rfl) <| jA (jC (v := str from_) rfl) ?_
      refine jH rfl (jI [] Tryz.call166 rfl (N_nameKey from_ (by omega)) rfl (fun _ _ => trivial)) ?_
      rintro _ _ ⟨_, ⟨u_56, e_54, f_57, rfl, rfl⟩, rfl⟩
      refine jH rfl (jI [0, 0, 0, 0] Tryz.call168 rfl (N_layNil p x_52 m_53 k_51 (by omega) (by omega) u_56 (by omega)) rfl (fun _ _ => trivial)) ?_
      rintro _ _ ⟨_, ⟨x_60, m_61, e_58, k_59, rfl, rfl⟩, rfl⟩
      refine jE <| jB <| jD <| jF <| jA (jG (v := iv 0) rfl) <| jE <| jB <| jM <| jU (.inl rfl) rfl (jN (v := iv 0) rfl) (List.Sublist.refl _) ?_
      exact ⟨x_60, m_61, 0, (by simp only [MS.renameName, e_1, h_4, e_5, h_8, e_9, h_15, e_16, h_22, h_23, e_40, e_46, e_50, e_54, e_58, SB]; (repeat (first | rw [if_pos (by omega)] | rw [if_neg (by omega)])); all_goals (first | rfl | simp only [SB, e_1, h_4, e_5, h_8, e_9, h_15, e_16, h_22, h_23, e_40, e_46, e_50, e_54, e_58])), (k_59.mono (by omega) (by omega)), (by first | omega | (simp only [LE]; omega)), rfl, rfl⟩
    refine jQ (cB (cN h_8)) <| jD <| jF <| jA (jG (v := iv 4) rfl) <| jE <| jB <| jM <| jb <| jU (.inl rfl) rfl (jN (v := iv 4) rfl) (List.Sublist.refl _) ?_
    exact ⟨x, m, 4, (by simp only [MS.renameName, e_1, h_4, e_5, h_8, SB]; (repeat (first | rw [if_pos (by omega)] | rw [if_neg (by omega)])); all_goals (first | rfl | simp only [SB, e_1, h_4, e_5, h_8])), (hk.mono (by omega) (by omega)), (by first | omega | (simp only [LE]; omega)), rfl, rfl⟩
  refine jO (b := true) rfl rfl rfl (cB (cN h_4)) <| jO (b := true) rfl rfl rfl (cB (cN h_4)) <| jO (b := true) rfl rfl rfl (cB (cN h_4)) <| jA (jw (v := .bool true) (cB (cN h_4)) rfl) <| jE <| jB <| jQ (cB rfl) <| jD <| jF <| jA (jG (v := iv 4) rfl) ?_
  refine jE <| jB <| jM <| jb <| jU (.inl rfl) rfl (jN (v := iv 4) rfl) (List.Sublist.refl _) ?_
  exact ⟨x, m, 4, (by simp only [MS.renameName, e_1, h_4, SB]; (repeat (first | rw [if_pos (by omega)] | rw [if_neg (by omega)])); all_goals (first | rfl | simp only [SB, e_1, h_4])), (hk.mono (by omega) (by omega)), (by first | omega | (simp only [LE]; omega)), rfl, rfl⟩

theorem N_names (p : Nat) (x : MA) (m : MS) {S T : Nat} (hk : m.ok S T) (hS : S ≤ 250000000) (hT : T ≤ 250000000)  :
    Ct Tryz.prog 103 [.pointer (some ⟨p, 0, none⟩)] (mb p x m :: mr x m) (fun _ => True) (fun v A' => ∃ x' m' r0a r0c r0, MS.names m = (m', r0) ∧ m'.ok (S) (T + 1) ∧ r0.length ≤ S ∧ v = .slice r0a r0.length r0c ∧ A' = mb p x' m' :: mr x' m' ++ [rS r0a r0c r0]) := by
  refine Ct.intro Tryz.func103 rfl Tryz.ntmps103 (lb rfl) fun w0 hpre => ?_
  refine jD <| jF <| jA (jG (v := .slice none 0 0) rfl) <| jE <| jB <| jD <| jF <| jA (jG (v := .slice none 0 0) rfl) <| jE <| jB ?_
  refine jD <| jD <| jF <| jA (jC (v := pv p) rfl) ?_
  refine jH rfl (jI [0, 0, 0, 0] Tryz.call171 rfl (N_under p x m hk (by omega) (by omega) [110, 47] (by decide)) rfl (fun _ _ => trivial)) ?_
  rintro _ _ ⟨_, ⟨x_3, m_4, l_5a, l_5c, l_5, e_1, k_2, f_6, rfl, rfl⟩, rfl⟩
  refine jA (jy kd rfl) <| jA (jC (v := iv 0) rfl) <| jE <| jB <| jl ?_
  have hll := f_6.1
  refine JC.nilRow 9 1 <| kE (fun k_ e_ L_ => ∃ j : Nat, ∃ out_a : Option Addr, ∃ out_c : Nat, ∃ out_ : List Str, (j ≤ l_5.length) ∧ (out_.length ≤ j) ∧ (dropAcc 2 (l_5.drop j) out_ = dropAcc 2 l_5 ([] : List Str)) ∧ e_ 2 = .slice none 0 0 ∧ e_ 3 = .slice out_a out_.length out_c ∧ e_ 7 = .slice l_5a l_5.length l_5c ∧ e_ 8 = nv l_5.length ∧ e_ 9 = nv j ∧ L_ = [rS out_a out_c out_, mb p x_3 m_4, rC x_3.a0 x_3.c0 m_4.s, rS x_3.a1 x_3.c1 m_4.r, rS x_3.a2 x_3.c2 m_4.w, rS l_5a l_5c l_5] ∧ k_ = l_5.length - j) _ ⟨0, none, 0, ([] : List Str), by omega, (by first | omega | (simp only [LE]; omega)), rfl, rfl, rfl, rfl, rfl, rfl, rfl, rfl⟩ ?_
  rintro _ e_7 _ ⟨j, out_a, out_c, out_, hj, ho, hR, he_8, he_9, he_10, he_11, he_12, rfl, rfl⟩
  refine jD <| jF <| jA (jr he_12 he_11) <| jE <| jB <| jD ?_
  by_cases h_13 : ((j : Nat) : Int) < ((l_5.length : Nat) : Int)
  · have hlt : j < l_5.length := by omega
    have hbj := f_6.2 j hlt
    try simp only [List.length_cons, List.length_nil] at hbj
    refine jQ (cB (dT h_13)) <| jW <| jB <| jD <| jl <| jD <| jF ?_
    refine kW fun hst => ?_
    obtain ⟨hr_14, hr_14b, -⟩ := row_some 5 rfl (by omega) hst
    refine jA (kD (i := j) kd kh hr_14 hr_14b he_10 he_12 (by omega)) <| jT (kX 5 (v := str (l_5.getD j [])) rfl rfl kg (atS (by omega))) <| jA (jG (v := str (l_5.getD j [])) rfl) <| jE <| jB <| jF <| jA (jC (v := .slice out_a out_.length out_c) he_9) <| jA (jC (v := str (l_5.getD j [])) rfl) <| jA (PO.sliceSl (i := 2) kf rfl rfl (by omega)) ?_
    refine jH rfl (kH (ps := [(0, str ((l_5.getD j []).drop 2))]) (cur := #[str ((l_5.getD j []).drop 2)]) kd kh gA rfl (by kernel_rfl) (by decide) (by decide)) ?_
    rintro _ _ ⟨a_15, rfl, rfl⟩
    refine jH rfl (kG 1 (q := 1) (news := ([(l_5.getD j []).drop 2] : List Str).map str) (n' := (out_ ++ ([(l_5.getD j []).drop 2] : List Str)).length) (cs' := (out_ ++ ([(l_5.getD j []).drop 2] : List Str)).map str) rfl kd kd kt rfl (by' := 16) rfl rfl rfl rfl rfl (fun w hw => Src.sees (hw.see (i := 0) rfl) (oneS _)) (by (try simp only [LE]); omega) (by (try simp only [LE]); omega) (by simp only [List.length_append, List.length_take, List.length_drop, List.length_cons, List.length_nil] <;> first | rfl | omega) (by simp only [List.map_append])) ?_
    rintro _ _ ⟨a_16, c_17, rfl, rfl⟩
    refine jA (jG (v := .slice a_16 ((out_ ++ ([(l_5.getD j []).drop 2] : List Str)).length) c_17) rfl) <| jE <| jk <| jB <| jF <| jA (ji (c := ((j + 1 : Nat) : Int)) he_12 rfl (wr (by omega))) <| jA (jC (v := iv ((j + 1 : Nat) : Int)) rfl) <| jE <| jt [1, 1, 1, 1, 1, 1] (A := [rS a_16 c_17 (out_ ++ ([(l_5.getD j []).drop 2] : List Str)), mb p x_3 m_4, rC x_3.a0 x_3.c0 m_4.s, rS x_3.a1 x_3.c1 m_4.r, rS x_3.a2 x_3.c2 m_4.w, rS l_5a l_5c l_5]) rfl ?_
    refine ju (l_5.length - (j + 1)) (by omega) ⟨j + 1, a_16, c_17, (out_ ++ ([(l_5.getD j []).drop 2] : List Str)), by omega, (by first | omega | (simp only [LE]; omega)), (by rw [drop_at (getD_some (d := []) hlt)] at hR; simp only [dropAcc, e_1, h_13, SB] at hR; (repeat (first | rw [if_pos (by omega)] at hR | rw [if_neg (by omega)] at hR)); exact hR), he_8, rfl, he_10, he_11, rfl, rfl, rfl⟩
  rw [List.drop_of_length_le (by omega)] at hR
  simp only [dropAcc] at hR
  have hE := hR.symm
  refine jR (cB (dF h_13)) <| kB <| jm <| jm <| kC <| jB <| jD <| jF <| jA (jC (v := .slice out_a out_.length out_c) he_9) <| jA (jG (v := .slice out_a out_.length out_c) rfl) ?_
  refine jE <| jB <| jM <| kK (pick_perm [1, 1, 1, 1, 0] (A := [mb p x_3 m_4, rC x_3.a0 x_3.c0 m_4.s, rS x_3.a1 x_3.c1 m_4.r, rS x_3.a2 x_3.c2 m_4.w, rS out_a out_c out_]) (F := [rS l_5a l_5c l_5]) rfl).symm <| jU (.inl rfl) rfl (jN (v := .slice out_a out_.length out_c) rfl) (tS 5 _) ?_
  exact ⟨x_3, m_4, out_a, out_c, out_, (by simp only [MS.names, e_1, h_13, hE, SB]; (repeat (first | rw [if_pos (by omega)] | rw [if_neg (by omega)])); all_goals (first | rfl | simp only [SB, e_1, h_13, hE])), (k_2.mono (by omega) (by omega)), (by first | omega | (simp only [LE]; omega)), rfl, rfl⟩

theorem N_tick (p : Nat) (x : MA) (m : MS) {S T : Nat} (hk : m.ok S T) (hS : S ≤ 30000000) (hT : T ≤ 30000000) (n : Int) (hn : -9223372036854775808 ≤ n ∧ n ≤ 9223372036854775807) :
    Ct Tryz.prog 118 [.pointer (some ⟨p, 0, none⟩), .int .i64 n] (mb p x m :: mr x m) (fun _ => True) (fun v A' => ∃ x' m' r0 r1, MS.tick m n = (m', r0, r1) ∧ m'.ok (3 * S + 3) (T + 7 * S + 10) ∧ (0 ≤ r0 ∧ r0 ≤ 1000000000) ∧ (0 ≤ r1 ∧ r1 ≤ 9) ∧ v = .tuple #[.int .i64 r0, .int .i64 r1] ∧ A' = mb p x' m' :: mr x' m') := by
  refine Ct.intro Tryz.func118 rfl Tryz.ntmps118 (lb rfl) fun w0 hpre => ?_
  refine jD <| jF <| jA (jG (v := iv 0) rfl) <| jA (jG (v := iv 0) rfl) <| jE <| jB <| jD <| jD <| jF <| jA (jC (v := iv n) rfl) ?_
  refine jA (jr rfl rfl) <| jE <| jB ?_
  by_cases h_1 : n < 1
  · refine jQ (cB (dT h_1)) <| jD <| jF <| jA (jG (v := iv 0) rfl) <| jA (jG (v := iv 4) rfl) <| jE <| jB <| jM <| jb <| jn (.inl rfl) rfl (jN (v := iv 0) rfl) (jN (v := iv 4) rfl) (List.Sublist.refl _) ?_
    exact ⟨x, m, 0, 4, (by simp only [MS.tick, h_1, SB]; (repeat (first | rw [if_pos (by omega)] | rw [if_neg (by omega)])); all_goals (first | rfl | simp only [SB, h_1])), (hk.mono (by omega) (by omega)), (by first | omega | (simp only [LE]; omega)), (by first | omega | (simp only [LE]; omega)), rfl, rfl⟩
  refine jR (cB (dF h_1)) <| jW <| jB <| jD <| jF <| jA (jC (v := pv p) rfl) ?_
  refine jH rfl (jI [0, 0, 0, 0] Tryz.call160 rfl (N_num p x m hk (by omega) (by omega) [99, 47, 99, 108, 111, 99, 107]) rfl (fun _ _ => trivial)) ?_
  rintro _ _ ⟨_, ⟨x_4, m_5, n_6, e_2, k_3, f_7, rfl, rfl⟩, rfl⟩
  refine jA (jG (v := iv n_6) rfl) <| jE <| jB <| jD <| jD <| jF <| jA (jC (v := iv n) rfl) <| jA (jC (v := iv n_6) rfl) <| jA (kQ (c := 999 - n_6) rfl rfl (wr (by omega))) <| jA (kU rfl rfl) ?_
  refine jE <| jB ?_
  by_cases h_8 : (999 - n_6) < n
  · refine jQ (cB (dT h_8)) <| jD <| jF <| jA (jG (v := iv 0) rfl) <| jA (jG (v := iv 3) rfl) <| jE <| jB <| jM <| jb <| jn (.inl rfl) rfl (jN (v := iv 0) rfl) (jN (v := iv 3) rfl) (List.Sublist.refl _) ?_
    exact ⟨x_4, m_5, 0, 3, (by simp only [MS.tick, h_1, e_2, h_8, SB]; (repeat (first | rw [if_pos (by omega)] | rw [if_neg (by omega)])); all_goals (first | rfl | simp only [SB, h_1, e_2, h_8])), (k_3.mono (by omega) (by omega)), (by first | omega | (simp only [LE]; omega)), (by first | omega | (simp only [LE]; omega)), rfl, rfl⟩
  refine jR (cB (dF h_8)) <| jW <| jB <| jD <| jF <| jA (jC (v := iv n_6) rfl) <| jA (jC (v := iv n) rfl) <| jA (ji (c := n_6 + n) rfl rfl (wr (by omega))) <| jA (jG (v := iv (n_6 + n)) rfl) <| jE ?_
  refine jB <| jD <| jF <| jA (jC (v := pv p) rfl) <| jA (jC (v := iv (n_6 + n)) rfl) ?_
  refine jH rfl (jI [0, 0, 0, 0] Tryz.call165 rfl (N_setNum p x_4 m_5 k_3 (by omega) (by omega) [99, 47, 99, 108, 111, 99, 107] (n_6 + n) (by decide) (by omega)) rfl (fun _ _ => trivial)) ?_
  rintro _ _ ⟨_, ⟨x_11, m_12, e_9, k_10, rfl, rfl⟩, rfl⟩
  refine jE <| jB <| jD <| jF <| jA (jG (v := iv 0) rfl) <| jE <| jB <| jD <| jD <| jF ?_
  refine jA (jC (v := pv p) rfl) ?_
  refine jH rfl (jI [0, 0, 0, 0] Tryz.call171 rfl (N_under p x_11 m_12 k_10 (by omega) (by omega) [116, 47] (by decide)) rfl (fun _ _ => trivial)) ?_
  rintro _ _ ⟨_, ⟨x_15, m_16, l_17a, l_17c, l_17, e_13, k_14, f_18, rfl, rfl⟩, rfl⟩
  refine jA (jy kd rfl) <| jA (jC (v := iv 0) rfl) <| jE <| jB <| jl ?_
  have hll := f_18.1
  refine kE (fun k_ e_ L_ => ∃ j : Nat, ∃ x : MA, ∃ mm : MS, ∃ expired_ : Int, (j ≤ l_17.length) ∧ (mm.ok ((S + 1) + 2 * j) (((T + 1) + 1) + 1 + 7 * j)) ∧ (0 ≤ expired_ ∧ expired_ ≤ ((j : Nat) : Int)) ∧ (MS.tickL (n_6 + n) (l_17.drop j) mm expired_ = MS.tickL (n_6 + n) l_17 m_16 0) ∧ e_ 0 = pv p ∧ e_ 4 = iv 0 ∧ e_ 5 = iv 0 ∧ e_ 6 = iv (n_6 + n) ∧ e_ 7 = iv expired_ ∧ e_ 25 = .slice l_17a l_17.length l_17c ∧ e_ 26 = nv l_17.length ∧ e_ 27 = nv j ∧ L_ = [mb p x mm, rC x.a0 x.c0 mm.s, rS x.a1 x.c1 mm.r, rS x.a2 x.c2 mm.w, rS l_17a l_17c l_17] ∧ k_ = l_17.length - j) _ ⟨0, x_15, m_16, 0, by omega, (k_14.mono (by omega) (by omega)), (by first | omega | (simp only [LE]; omega)), rfl, rfl, rfl, rfl, rfl, rfl, rfl, rfl, rfl, rfl, rfl⟩ ?_
  rintro _ e_19 _ ⟨j, x, mm, expired_, hj, hkmm, hx, hR, he_20, he_21, he_22, he_23, he_24, he_25, he_26, he_27, rfl, rfl⟩
  refine jD <| jF <| jA (jr he_27 he_26) <| jE <| jB <| jD ?_
  by_cases h_28 : ((j : Nat) : Int) < ((l_17.length : Nat) : Int)
  · have hlt : j < l_17.length := by omega
    have hbj := f_18.2 j hlt
    try simp only [List.length_cons, List.length_nil] at hbj
    refine jQ (cB (dT h_28)) <| jW <| jB <| jD <| jl <| jD <| jF ?_
    refine kW fun hst => ?_
    obtain ⟨hr_29, hr_29b, -⟩ := row_some 4 rfl (by omega) hst
    refine jA (kD (i := j) kd kh hr_29 hr_29b he_25 he_27 (by omega)) <| jT (kX 4 (v := str (l_17.getD j [])) rfl rfl kg (atS (by omega))) <| jA (jG (v := str (l_17.getD j [])) rfl) <| jE <| jB <| jD <| jD <| jF <| jA (jC (v := pv p) he_20) <| jA (jC (v := str (l_17.getD j [])) rfl) ?_
    refine jH rfl (jI [0, 0, 0, 0] Tryz.call160 rfl (N_num p x mm hkmm (by omega) (by omega) (l_17.getD j [])) rfl (fun _ _ => trivial)) ?_
    rintro _ _ ⟨_, ⟨x_32, m_33, n_34, e_30, k_31, f_35, rfl, rfl⟩, rfl⟩
    refine jA (jC (v := iv (n_6 + n)) he_23) <| jA (kU rfl rfl) <| jE <| jB ?_
    by_cases h_36 : (n_6 + n) < n_34
    · refine jQ (cB (dT h_36)) <| kB <| jm <| kC <| jB <| jF <| jA (ji (c := ((j + 1 : Nat) : Int)) he_27 rfl (wr (by omega))) <| jA (jC (v := iv ((j + 1 : Nat) : Int)) rfl) <| jE <| jt [0, 0, 0, 0, 0] (A := [mb p x_32 m_33, rC x_32.a0 x_32.c0 m_33.s, rS x_32.a1 x_32.c1 m_33.r, rS x_32.a2 x_32.c2 m_33.w, rS l_17a l_17c l_17]) rfl ?_
      refine ju (l_17.length - (j + 1)) (by omega) ⟨j + 1, x_32, m_33, expired_, by omega, (k_31.mono (by omega) (by omega)), (by first | omega | (simp only [LE]; omega)), (by rw [drop_at (getD_some (d := []) hlt)] at hR; simp only [MS.tickL, h_1, e_2, h_8, e_9, e_13, h_28, e_30, h_36, SB] at hR; (repeat (first | rw [if_pos (by omega)] at hR | rw [if_neg (by omega)] at hR)); exact hR), he_20, he_21, he_22, he_23, he_24, he_25, he_26, rfl, rfl, rfl⟩
    refine jR (cB (dF h_36)) <| jW <| jB <| jD <| jF <| jA (jC (v := pv p) he_20) <| jA (jC (v := str (l_17.getD j [])) rfl) ?_
    refine jH rfl (jI [0, 0, 0, 0] Tryz.call168 rfl (N_layNil p x_32 m_33 k_31 (by omega) (by omega) (l_17.getD j []) (by omega)) rfl (fun _ _ => trivial)) ?_
    rintro _ _ ⟨_, ⟨x_39, m_40, e_37, k_38, rfl, rfl⟩, rfl⟩
    refine jE <| jB <| jD <| jF <| jA (jC (v := pv p) he_20) <| jA (jC (v := str (l_17.getD j [])) rfl) <| jA (PO.sliceSl (i := 2) kf rfl rfl (by omega)) ?_
    refine jH rfl (jI [] Tryz.call182 rfl (N_numOf ((l_17.getD j []).drop 2) (by first | omega | (simp only [LE]; omega))) rfl (fun _ _ => trivial)) ?_
    rintro _ _ ⟨_, ⟨n_43, e_41, f_44, rfl, rfl⟩, rfl⟩
    refine jH rfl (jI [0, 0, 0, 0] Tryz.call115 rfl (N_send p x_39 m_40 k_38 (by omega) (by omega) n_43 14 (by omega) (by omega)) rfl (fun _ _ => trivial)) ?_
    rintro _ _ ⟨_, ⟨x_47, m_48, n_49, e_45, k_46, f_50, rfl, rfl⟩, rfl⟩
    refine jE <| jB <| jF <| jA (jC (v := iv expired_) he_24) <| jA (ji (c := expired_ + 1) rfl rfl (wr (by omega))) <| jA (jG (v := iv (expired_ + 1)) rfl) <| jE <| jk <| jB <| jF ?_
    refine jA (ji (c := ((j + 1 : Nat) : Int)) he_27 rfl (wr (by omega))) <| jA (jC (v := iv ((j + 1 : Nat) : Int)) rfl) <| jE <| jt [0, 0, 0, 0, 0] (A := [mb p x_47 m_48, rC x_47.a0 x_47.c0 m_48.s, rS x_47.a1 x_47.c1 m_48.r, rS x_47.a2 x_47.c2 m_48.w, rS l_17a l_17c l_17]) rfl ?_
    refine ju (l_17.length - (j + 1)) (by omega) ⟨j + 1, x_47, m_48, (expired_ + 1), by omega, (k_46.mono (by omega) (by omega)), (by first | omega | (simp only [LE]; omega)), (by rw [drop_at (getD_some (d := []) hlt)] at hR; simp only [MS.tickL, h_1, e_2, h_8, e_9, e_13, h_28, e_30, h_36, e_37, e_41, e_45, SB] at hR; (repeat (first | rw [if_pos (by omega)] at hR | rw [if_neg (by omega)] at hR)); exact hR), he_20, he_21, he_22, he_23, rfl, he_25, he_26, rfl, rfl, rfl⟩
  rw [List.drop_of_length_le (by omega)] at hR
  simp only [MS.tickL] at hR
  have hE := hR.symm
  refine jR (cB (dF h_28)) <| kB <| jm <| jm <| kC <| jB <| jD <| jF <| jA (jC (v := iv expired_) he_24) <| jA (jG (v := iv expired_) rfl) ?_
  refine jA (jG (v := iv 0) rfl) <| jE <| jB <| jM <| jn (.inl rfl) rfl (jN (v := iv expired_) rfl) (jN (v := iv 0) rfl) (tS 4 _) ?_
  exact ⟨x, mm, expired_, 0, (by simp only [MS.tick, h_1, e_2, h_8, e_9, e_13, h_28, hE, SB]; (repeat (first | rw [if_pos (by omega)] | rw [if_neg (by omega)])); all_goals (first | rfl | simp only [SB, h_1, e_2, h_8, e_9, e_13, h_28, hE])), (hkmm.mono (by omega) (by omega)), (by first | omega | (simp only [LE]; omega)), (by first | omega | (simp only [LE]; omega)), rfl, rfl⟩

theorem N_dropPages (p : Nat) (x : MA) (m : MS) {S T : Nat} (hk : m.ok S T) (hS : S ≤ 250000000) (hT : T ≤ 250000000) (id : Int) (hid : -9223372036854775808 ≤ id ∧ id ≤ 9223372036854775807) :
    Ct Tryz.prog 111 [.pointer (some ⟨p, 0, none⟩), .int .i64 id] (mb p x m :: mr x m) (fun _ => True) (fun v A' => ∃ x' m', MS.dropPages m id = m' ∧ m'.ok (S) (T + S + 1) ∧ v = .tuple #[] ∧ A' = mb p x' m' :: mr x' m') := by
  refine Ct.intro Tryz.func111 rfl Tryz.ntmps111 (lb rfl) fun w0 hpre => ?_
  refine jF <| jA (jC (v := pv p) rfl) <| jA (jC (v := iv id) rfl) ?_
  refine jH rfl (jI [] Tryz.call179 rfl (N_pagesKey id (by omega)) rfl (fun _ _ => trivial)) ?_
  rintro _ _ ⟨_, ⟨u_3, e_1, f_4, rfl, rfl⟩, rfl⟩
  refine jH rfl (jI [0, 0, 0, 0] Tryz.call169 rfl (N_wipe p x m hk (by omega) (by omega) u_3 (by omega)) rfl (fun _ _ => trivial)) ?_
  rintro _ _ ⟨_, ⟨x_7, m_8, e_5, k_6, rfl, rfl⟩, rfl⟩
  refine jE <| Done.none (.inr rfl) rfl (List.Sublist.refl _) ?_
  exact ⟨x_7, m_8, (by simp only [MS.dropPages, e_1, e_5, SB]; (repeat (first | rw [if_pos (by omega)] | rw [if_neg (by omega)])); all_goals (first | rfl | simp only [SB, e_1, e_5])), (k_6.mono (by omega) (by omega)), rfl, rfl⟩

theorem N_forkPages (p : Nat) (x : MA) (m : MS) {S T : Nat} (hk : m.ok S T) (hS : S ≤ 80000000) (hT : T ≤ 80000000) (from_ : Int) (to_ : Int) (hfrom_ : -9223372036854775808 ≤ from_ ∧ from_ ≤ 9223372036854775807) (hto_ : -9223372036854775808 ≤ to_ ∧ to_ ≤ 9223372036854775807) :
    Ct Tryz.prog 109 [.pointer (some ⟨p, 0, none⟩), .int .i64 from_, .int .i64 to_] (mb p x m :: mr x m) (fun _ => True) (fun v A' => ∃ x' m', MS.forkPages m from_ to_ = m' ∧ m'.ok (S + S) (T + 2 * S + 1) ∧ v = .tuple #[] ∧ A' = mb p x' m' :: mr x' m') := by
  refine Ct.intro Tryz.func109 rfl Tryz.ntmps109 (lb rfl) fun w0 hpre => ?_
  refine jD <| jF <| jA (jC (v := pv p) rfl) <| jA (jC (v := iv from_) rfl) ?_
  refine jH rfl (jI [] Tryz.call179 rfl (N_pagesKey from_ (by omega)) rfl (fun _ _ => trivial)) ?_
  rintro _ _ ⟨_, ⟨u_3, e_1, f_4, rfl, rfl⟩, rfl⟩
  refine jH rfl (jI [0, 0, 0, 0] Tryz.call171 rfl (N_under p x m hk (by omega) (by omega) u_3 (by omega)) rfl (fun _ _ => trivial)) ?_
  rintro _ _ ⟨_, ⟨x_7, m_8, l_9a, l_9c, l_9, e_5, k_6, f_10, rfl, rfl⟩, rfl⟩
  refine jA (jy kd rfl) <| jA (jC (v := iv 0) rfl) <| jE <| jB <| jl ?_
  have hll := f_10.1
  refine kE (fun k_ e_ L_ => ∃ j : Nat, ∃ x : MA, ∃ mm : MS, (j ≤ l_9.length) ∧ (mm.ok (S + j) (T + 1 + 2 * j)) ∧ (MS.forkL u_3.length to_ (l_9.drop j) mm = MS.forkL u_3.length to_ l_9 m_8) ∧ e_ 0 = pv p ∧ e_ 1 = iv from_ ∧ e_ 2 = iv to_ ∧ e_ 11 = .slice l_9a l_9.length l_9c ∧ e_ 12 = nv l_9.length ∧ e_ 13 = nv j ∧ L_ = [mb p x mm, rC x.a0 x.c0 mm.s, rS x.a1 x.c1 mm.r, rS x.a2 x.c2 mm.w, rS l_9a l_9c l_9] ∧ k_ = l_9.length - j) _ ⟨0, x_7, m_8, by omega, (k_6.mono (by omega) (by omega)), rfl, rfl, rfl, rfl, rfl, rfl, rfl, rfl, rfl⟩ ?_
  rintro _ e_11 _ ⟨j, x, mm, hj, hkmm, hR, he_12, he_13, he_14, he_15, he_16, he_17, rfl, rfl⟩
  refine jD <| jF <| jA (jr he_17 he_16) <| jE <| jB <| jD ?_
  by_cases h_18 : ((j : Nat) : Int) < ((l_9.length : Nat) : Int)
  · have hlt : j < l_9.length := by omega
    have hbj := f_10.2 j hlt
    try simp only [List.length_cons, List.length_nil] at hbj
    refine jQ (cB (dT h_18)) <| jW <| jB <| jD <| jl <| jD <| jF ?_
    refine kW fun hst => ?_
    obtain ⟨hr_19, hr_19b, -⟩ := row_some 4 rfl (by omega) hst
    refine jA (kD (i := j) kd kh hr_19 hr_19b he_15 he_17 (by omega)) <| jT (kX 4 (v := str (l_9.getD j [])) rfl rfl kg (atS (by omega))) <| jA (jG (v := str (l_9.getD j [])) rfl) <| jE <| jB <| jq [] 1000 mixed (by simp) <| jJ 0 rfl (jC (v := pv p) he_12) <| jJ 1 rfl (jC (v := iv to_) he_14) <| jJ 3 rfl (jC (v := str (l_9.getD j [])) rfl) <| jJ 4 rfl (jC (v := iv from_) he_13) ?_
    refine jJ 9 rfl (jC (v := pv p) he_12) <| jJ 10 rfl (jC (v := str (l_9.getD j [])) rfl) <| jK (i := 2) ?_
    refine jP rfl rfl (jI [] Tryz.call179 rfl (N_pagesKey to_ (by omega)) rfl (fun _ _ => trivial)) ?_
    rintro _ _ ⟨_, ⟨u_42, e_40, f_43, rfl, rfl⟩, rfl⟩
    refine ⟨(fun _ h => by cases h), ?_⟩
    refine jK (i := 5) ?_
    refine jP rfl rfl (jI [] Tryz.call179 rfl (N_pagesKey from_ (by omega)) rfl (fun _ _ => trivial)) ?_
    rintro _ _ ⟨_, ⟨u_50, e_48, f_51, rfl, rfl⟩, rfl⟩
    have hqe_48 := e_1.symm.trans e_48
    subst hqe_48
    refine ⟨(fun _ h => by cases h), ?_⟩
    refine jJ 6 rfl (kM kf rfl) <| jJ 7 rfl (PO.sliceSl (i := u_3.length) kf rfl rfl (by omega)) <| jJ 8 rfl (kS rfl rfl (by (try simp only [List.length_append, List.length_cons, List.length_nil, List.length_drop, List.length_take]); omega)) <| jK (i := 11) ?_
    refine jP rfl rfl (jI [0, 0, 0, 0] Tryz.call180 rfl (N_look p x mm hkmm (by omega) (by omega) (l_9.getD j [])) rfl (fun _ _ => trivial)) ?_
    rintro _ _ ⟨_, ⟨x_60, m_61, u_62, e_58, k_59, f_63, rfl, rfl⟩, rfl⟩
    refine ⟨(fun _ h => by cases h), ?_⟩
    refine jK (i := 12) ?_
    refine jP rfl rfl (jI [0, 0, 0, 0] Tryz.call168 rfl (N_lay p x_60 m_61 k_59 (by omega) (by omega) (u_42 ++ ((l_9.getD j []).drop u_3.length)) u_62 (by first | omega | (simp only [LE]; omega))) rfl (fun _ _ => trivial)) ?_
    rintro _ _ ⟨_, ⟨x_70, m_71, e_68, k_69, rfl, rfl⟩, rfl⟩
    refine ⟨(fun _ h => by cases h), ?_⟩
    refine kI (by kernel_rfl) <| jk <| jB <| jF <| jA (ji (c := ((j + 1 : Nat) : Int)) he_17 rfl (wr (by omega))) <| jA (jC (v := iv ((j + 1 : Nat) : Int)) rfl) <| jE <| jt [0, 0, 0, 0, 0] (A := [mb p x_70 m_71, rC x_70.a0 x_70.c0 m_71.s, rS x_70.a1 x_70.c1 m_71.r, rS x_70.a2 x_70.c2 m_71.w, rS l_9a l_9c l_9]) rfl ?_
    refine ju (l_9.length - (j + 1)) (by omega) ⟨j + 1, x_70, m_71, by omega, (k_69.mono (by omega) (by omega)), (by rw [drop_at (getD_some (d := []) hlt)] at hR; simp only [MS.forkL, e_1, e_5, h_18, e_40, e_58, e_68, SB] at hR; (repeat (first | rw [if_pos (by omega)] at hR | rw [if_neg (by omega)] at hR)); exact hR), he_12, he_13, he_14, he_15, he_16, rfl, rfl, rfl⟩
  rw [List.drop_of_length_le (by omega)] at hR
  simp only [MS.forkL] at hR
  have hE := hR.symm
  refine jR (cB (dF h_18)) <| kB <| jm <| jm <| kC <| Done.none (.inr rfl) rfl (tS 4 _) ?_
  exact ⟨x, mm, (by simp only [MS.forkPages, e_1, e_5, h_18, hE, SB]; (repeat (first | rw [if_pos (by omega)] | rw [if_neg (by omega)])); all_goals (first | rfl | simp only [SB, e_1, e_5, h_18, hE])), (hkmm.mono (by omega) (by omega)), rfl, rfl⟩

end Go.Proofs.YtghfijncihbojaaGreatDoor

set_option linter.unusedSimpArgs false
set_option linter.unusedVariables false
set_option linter.unnecessarySimpa false
namespace Go.Proofs.YtghfijncihbojaaGreatDoor
open Go Go.RowKit
attribute [local irreducible] JL JC JQ JO LO PO JA JX Ct

theorem N_hex (s : Str) (hs : s.length ≤ 1000000000000) :
    Ct Tryz.prog 204 [str s] ([]) (fun _ => True) (fun v A' => ∃ r0 r1, hexP s = (r0, r1) ∧ r0.length ≤ 40000 ∧ v = .tuple #[str r0, .bool r1] ∧ A' = []) := by
  refine Ct.intro Tryz.func204 rfl Tryz.ntmps204 (lb rfl) fun w0 hpre => ?_
  refine jD <| jF <| jA (jG (v := str []) rfl) <| jA (jG (v := .bool false) rfl) <| jE <| jB <| jD <| jD <| jF <| jA (jC (v := str s) rfl) ?_
  refine jA (kM kf rfl) <| jA (kU rfl rfl) <| jE <| jB ?_
  by_cases h_1 : 20000 < (s.length : Int)
  · refine jQ (cB (dT h_1)) <| jD <| jF <| jA (jG (v := str []) rfl) <| jA (jG (v := .bool false) rfl) <| jE <| jB <| jM <| jb <| jn (.inl rfl) rfl (jN (v := str []) rfl) (jN (v := .bool false) rfl) (List.nil_sublist _) ?_
    exact ⟨[], false, (by first | exact hexP_yes (by assumption) | exact hexP_no (by assumption)), (by first | (rw [hexB_len]; omega) | (simp only [List.length_nil]; omega)), rfl, rfl⟩
  refine jR (cB (dF h_1)) <| jW <| jB <| jD <| jF <| jA (jC (v := str s) rfl) ?_
  refine jH rfl (JO.toBytes kf ks kx rfl (by unfold maxLen; omega)) ?_
  rintro _ _ ⟨a_2, c_3, rfl, rfl⟩
  refine jH rfl (jI [] Tryz.call221 rfl (N_hexEnc a_2 c_3 s (by omega)) rfl (fun w hw => hw.see (i := 0) rfl)) ?_
  rintro _ _ ⟨_, ⟨rfl, rfl⟩, rfl⟩
  refine jA (jG (v := str (hexB s)) rfl) <| jA (jG (v := .bool true) rfl) <| jE <| jB <| jM <| jn (.inl rfl) rfl (jN (v := str (hexB s)) rfl) (jN (v := .bool true) rfl) (List.nil_sublist _) ?_
  exact ⟨(hexB s), true, (by first | exact hexP_yes (by assumption) | exact hexP_no (by assumption)), (by first | (rw [hexB_len]; omega) | (simp only [List.length_nil]; omega)), rfl, rfl⟩

theorem N_hexOf (s : Str) (hs : s.length ≤ 1000000000000) :
    Ct Tryz.prog 177 [str s] ([]) (fun _ => True) (fun v A' => ∃ r0, hexS s = r0 ∧ r0.length ≤ 40000 ∧ v = str r0 ∧ A' = []) := by
  refine Ct.intro Tryz.func177 rfl Tryz.ntmps177 (lb rfl) fun w0 hpre => ?_
  refine jD <| jF <| jA (jG (v := str []) rfl) <| jE <| jB <| jD <| jF <| jA (jC (v := str s) rfl) ?_
  refine jH rfl (jI [] Tryz.call204 rfl (N_hex s (by omega)) rfl (fun _ _ => trivial)) ?_
  rintro _ _ ⟨_, ⟨u_3, b_5, e_1, f_4, rfl, rfl⟩, rfl⟩
  refine jA (jC (v := .tuple #[str u_3, .bool b_5]) rfl) <| jA (jS (v := str u_3) rfl rfl) <| jA (jS (v := .bool b_5) rfl rfl) <| jA (jG (v := str u_3) rfl) <| jA (jG (v := .bool b_5) rfl) <| jE <| jB <| jD <| jF <| jA (jC (v := str u_3) rfl) ?_
  refine jA (jG (v := str u_3) rfl) <| jE <| jB <| jM <| jU (.inl rfl) rfl (jN (v := str u_3) rfl) (List.nil_sublist _) ?_
  exact ⟨u_3, (by simp only [hexS_P, e_1, SB]; (repeat (first | rw [if_pos (by omega)] | rw [if_neg (by omega)])); all_goals (first | rfl | simp only [SB, e_1])), (by first | omega | (simp only [LE]; omega)), rfl, rfl⟩

theorem N_unhex (t : Str) (ht : t.length ≤ 1000000000000) :
    Ct Tryz.prog 220 [str t] ([]) (fun w => HexOk w) (fun v A' => ∃ r0 r1, unhex t = (r0, r1) ∧ r0.length ≤ 20000 ∧ v = .tuple #[str r0, .bool r1] ∧ A' = []) := by
  refine Ct.introL Tryz.func220 rfl Tryz.ntmps220 (lb rfl) fun w0 hpre hlow => ?_
  refine jD <| jF <| jA (jG (v := str []) rfl) <| jA (jG (v := .bool false) rfl) <| jE <| jB <| jD <| jF <| jA (jC (v := str t) rfl) ?_
  refine jH rfl (jI [] Tryz.call231 rfl (N_hexDec t (by omega)) rfl (fun w hw => hw.hex hlow hpre)) ?_
  rintro _ _ ⟨_, ⟨da, dc, dr, ⟨hd, rfl⟩ | ⟨hd, te, pe, rfl⟩, rfl⟩, rfl⟩
  · refine jA (jC (v := .tuple #[.slice da dr.length dc, .nilIface]) rfl) <| jA (jS (v := .slice da dr.length dc) rfl rfl) <| jA (jS (v := .nilIface) rfl rfl) <| jA (jG (v := .slice da dr.length dc) rfl) <| jA (jG (v := .nilIface) rfl) <| jE <| jB <| jD <| jD <| jF ?_
    refine jA (jC (v := .nilIface) rfl) <| jA (PO.neqIfN Tryz.underlying208 rfl rfl) <| jA (jC (v := .bool false) rfl) <| jX rfl rfl rfl (cB rfl) (jZ (jd (jC (v := .slice da dr.length dc) rfl))) ?_
    rintro _ _ ⟨rfl, rfl⟩
    refine jX rfl rfl rfl (cB rfl) (jZ (jd (jy ks rfl))) ?_
    rintro _ _ ⟨rfl, rfl⟩
    refine jX rfl rfl rfl (cB rfl) (jZ (jd (kU rfl rfl))) ?_
    rintro _ _ ⟨rfl, rfl⟩
    refine jA (js (v := .bool (decide (20000 < ((dr.length : Nat) : Int)))) (cB rfl) rfl) <| jA (jC (v := .bool (decide (20000 < ((dr.length : Nat) : Int)))) rfl) ?_
    by_cases h_1 : 20000 < ((dr.length : Nat) : Int)
    · refine jO (b := true) rfl rfl rfl (cB (dT h_1)) <| jO (b := true) rfl rfl rfl (cB (dT h_1)) <| jO (b := true) rfl rfl rfl (cB (dT h_1)) <| jO (b := true) rfl rfl rfl (cB (dT h_1)) <| jA (jw (v := .bool true) (cB (dT h_1)) rfl) <| jE <| jB <| jQ (cB rfl) <| jD <| jF ?_
      refine jA (jG (v := str []) rfl) <| jA (jG (v := .bool false) rfl) <| jE <| jB <| jM <| jb <| jn (.inl rfl) rfl (jN (v := str []) rfl) (jN (v := .bool false) rfl) (List.nil_sublist _) ?_
      exact ⟨[], false, (by first | exact unhex_err hd | exact unhex_long hd (by assumption) | exact unhex_ne hd (by assumption) | exact unhex_yes hd (by assumption) (by assumption)), (by first | omega | (simp only [LE]; omega)), rfl, rfl⟩
    refine jX rfl rfl rfl (cB (dF h_1)) (jZ (jd (jC (v := .slice da dr.length dc) rfl))) ?_
    rintro _ _ ⟨rfl, rfl⟩
    refine jX rfl rfl rfl (cB (dF h_1)) (jI [] Tryz.call221 rfl (N_hexEnc da dc dr (by omega)) rfl (fun w hw => hw.see (i := 0) rfl)) ?_
    rintro _ _ ⟨_, ⟨rfl, rfl⟩, rfl⟩
    refine jX rfl rfl rfl (cB (dF h_1)) (jZ (jd (jC (v := str t) rfl))) ?_
    rintro _ _ ⟨rfl, rfl⟩
    refine jX rfl rfl rfl (cB (dF h_1)) (jZ (jd (PO.neqS rfl rfl))) ?_
    rintro _ _ ⟨rfl, rfl⟩
    refine jA (js (v := .bool (!(decide ((hexB dr) = t)))) (cB (dF h_1)) rfl) <| jE <| jB ?_
    by_cases h_2 : (hexB dr) = t
    · refine jR (cB (cN (dT h_2))) <| jW <| jB <| jD <| jF <| jA (jC (v := .slice da dr.length dc) rfl) <| jT (LO.toStr 0 dr rfl ks kx kf rfl rfl) <| jA (jG (v := str dr) rfl) <| jA (jG (v := .bool true) rfl) <| jE ?_
      refine jB <| jM <| jn (.inl rfl) rfl (jN (v := str dr) rfl) (jN (v := .bool true) rfl) (List.nil_sublist _) ?_
      exact ⟨dr, true, (by first | exact unhex_err hd | exact unhex_long hd (by assumption) | exact unhex_ne hd (by assumption) | exact unhex_yes hd (by assumption) (by assumption)), (by first | omega | (simp only [LE]; omega)), rfl, rfl⟩
    refine jQ (cB (cN (dF h_2))) <| jD <| jF <| jA (jG (v := str []) rfl) <| jA (jG (v := .bool false) rfl) <| jE <| jB <| jM <| jb <| jn (.inl rfl) rfl (jN (v := str []) rfl) (jN (v := .bool false) rfl) (List.nil_sublist _) ?_
    exact ⟨[], false, (by first | exact unhex_err hd | exact unhex_long hd (by assumption) | exact unhex_ne hd (by assumption) | exact unhex_yes hd (by assumption) (by assumption)), (by first | omega | (simp only [LE]; omega)), rfl, rfl⟩
  refine jA (jC (v := .tuple #[.slice da dr.length dc, (.iface te pe)]) rfl) <| jA (jS (v := .slice da dr.length dc) rfl rfl) <| jA (jS (v := (.iface te pe)) rfl rfl) <| jA (jG (v := .slice da dr.length dc) rfl) <| jA (jG (v := (.iface te pe)) rfl) <| jE <| jB <| jD <| jD <| jF ?_
  refine jA (jC (v := (.iface te pe)) rfl) <| jA (PO.neqIfS Tryz.underlying208 rfl rfl) <| jA (jC (v := .bool true) rfl) <| jO (b := true) rfl rfl rfl (cB rfl) <| jO (b := true) rfl rfl rfl (cB rfl) <| jO (b := true) rfl rfl rfl (cB rfl) <| jA (jw (v := .bool true) (cB rfl) rfl) <| jA (jC (v := .bool true) rfl) <| jO (b := true) rfl rfl rfl (cB rfl) <| jO (b := true) rfl rfl rfl (cB rfl) ?_
  refine jO (b := true) rfl rfl rfl (cB rfl) <| jO (b := true) rfl rfl rfl (cB rfl) <| jA (jw (v := .bool true) (cB rfl) rfl) <| jE <| jB <| jQ (cB rfl) <| jD <| jF <| jA (jG (v := str []) rfl) <| jA (jG (v := .bool false) rfl) ?_
  refine jE <| jB <| jM <| jb <| jn (.inl rfl) rfl (jN (v := str []) rfl) (jN (v := .bool false) rfl) (List.nil_sublist _) ?_
  exact ⟨[], false, (by first | exact unhex_err hd | exact unhex_long hd (by assumption) | exact unhex_ne hd (by assumption) | exact unhex_yes hd (by assumption) (by assumption)), (by first | omega | (simp only [LE]; omega)), rfl, rfl⟩

theorem N_messageOf (q : Str) (hq : q.length ≤ 1000000000000) :
    Ct Tryz.prog 205 [str q] ([]) (fun w => HexOk w) (fun v A' => ∃ r0, messageOf q = r0 ∧ r0.length ≤ 20000 ∧ v = str r0 ∧ A' = []) := by
  refine Ct.introL Tryz.func205 rfl Tryz.ntmps205 (lb rfl) fun w0 hpre hlow => ?_
  refine jD <| jF <| jA (jG (v := str []) rfl) <| jE <| jB <| jD <| jF <| jA (jC (v := str q) rfl) ?_
  refine jH rfl (jI [] Tryz.call222 rfl (N_cutPrefix q [45]) rfl (fun _ _ => trivial)) ?_
  rintro _ _ ⟨_, ⟨u_3, b_5, e_1, f_4, rfl, rfl⟩, rfl⟩
  refine jA (jC (v := .tuple #[str u_3, .bool b_5]) rfl) <| jA (jS (v := str u_3) rfl rfl) <| jA (jS (v := .bool b_5) rfl rfl) <| jA (jG (v := str u_3) rfl) <| jA (jG (v := .bool b_5) rfl) <| jE <| jB <| jD <| jD <| jF ?_
  refine jA (jC (v := .bool b_5) rfl) <| jA (kF rfl) <| jE <| jB ?_
  rcases Bool.eq_false_or_eq_true (b_5) with h_6 | h_6
  · have hm := messageOf_cutT (e_1.trans (congrArg _ h_6))
    refine jR (cB (cN h_6)) <| jW <| jB <| jD <| jF <| jA (jC (v := str u_3) rfl) ?_
    refine jH rfl (jI [] Tryz.call220 rfl (N_unhex u_3 (by omega)) rfl (fun w hw => hw.hex hlow hpre)) ?_
    rintro _ _ ⟨_, ⟨u_9, b_11, e_7, f_10, rfl, rfl⟩, rfl⟩
    refine jA (jC (v := .tuple #[str u_9, .bool b_11]) rfl) <| jA (jS (v := str u_9) rfl rfl) <| jA (jS (v := .bool b_11) rfl rfl) <| jA (jG (v := str u_9) rfl) <| jA (jG (v := .bool b_11) rfl) <| jE <| jB <| jD <| jF <| jA (jC (v := str u_9) rfl) ?_
    refine jA (jG (v := str u_9) rfl) <| jE <| jB <| jM <| jU (.inl rfl) rfl (jN (v := str u_9) rfl) (List.nil_sublist _) ?_
    exact ⟨u_9, (by simp only [if_true, e_1, h_6, hm, e_7, SB]; (repeat (first | rw [if_pos (by omega)] | rw [if_neg (by omega)])); all_goals (first | rfl | simp only [SB, e_1, h_6, hm, e_7])), (by first | omega | (simp only [LE]; omega)), rfl, rfl⟩
  have hm := messageOf_cutF (e_1.trans (congrArg _ h_6))
  refine jQ (cB (cN h_6)) <| jD <| jF <| jA (jG (v := str []) rfl) <| jE <| jB <| jM <| jb <| jU (.inl rfl) rfl (jN (v := str []) rfl) (List.nil_sublist _) ?_
  exact ⟨[], (by simp only [if_true, e_1, h_6, hm, SB]; (repeat (first | rw [if_pos (by omega)] | rw [if_neg (by omega)])); all_goals (first | rfl | simp only [SB, e_1, h_6, hm])), (by first | omega | (simp only [LE]; omega)), rfl, rfl⟩

end Go.Proofs.YtghfijncihbojaaGreatDoor

set_option linter.unusedSimpArgs false
set_option linter.unusedVariables false
set_option linter.unnecessarySimpa false
namespace Go.Proofs.YtghfijncihbojaaGreatDoor
open Go Go.RowKit
attribute [local irreducible] JL JC JQ JO LO PO JA JX Ct

theorem N_message (p : Nat) (x : MA) (m : MS) {S T : Nat} (hk : m.ok S T) (hS : S ≤ 700000000) (hT : T ≤ 700000000) (key : Str) :
    Ct Tryz.prog 178 [.pointer (some ⟨p, 0, none⟩), str key] (mb p x m :: mr x m) (fun w => HexOk w) (fun v A' => ∃ x' m' r0, MS.message m key = (m', r0) ∧ m'.ok (S) (T + 1) ∧ r0.length ≤ 20000 ∧ v = str r0 ∧ A' = mb p x' m' :: mr x' m') := by
  refine Ct.introL Tryz.func178 rfl Tryz.ntmps178 (lb rfl) fun w0 hpre hlow => ?_
  refine jD <| jF <| jA (jG (v := str []) rfl) <| jE <| jB <| jD <| jF <| jA (jC (v := pv p) rfl) <| jA (jC (v := str key) rfl) ?_
  refine jH rfl (jI [0, 0, 0, 0] Tryz.call180 rfl (N_look p x m hk (by omega) (by omega) key) rfl (fun _ _ => trivial)) ?_
  rintro _ _ ⟨_, ⟨x_3, m_4, u_5, e_1, k_2, f_6, rfl, rfl⟩, rfl⟩
  refine jH rfl (jI [] Tryz.call205 rfl (N_messageOf u_5 (by omega)) rfl (fun w hw => hw.hex hlow hpre)) ?_
  rintro _ _ ⟨_, ⟨u_9, e_7, f_10, rfl, rfl⟩, rfl⟩
  refine jA (jG (v := str u_9) rfl) <| jE <| jB <| jM <| jU (.inl rfl) rfl (jN (v := str u_9) rfl) (List.Sublist.refl _) ?_
  exact ⟨x_3, m_4, u_9, (by simp only [MS.message, e_1, e_7, SB]; (repeat (first | rw [if_pos (by omega)] | rw [if_neg (by omega)])); all_goals (first | rfl | simp only [SB, e_1, e_7])), (k_2.mono (by omega) (by omega)), (by first | omega | (simp only [LE]; omega)), rfl, rfl⟩

theorem N_putOut (p : Nat) (x : MA) (m : MS) {S T : Nat} (hk : m.ok S T) (hS : S ≤ 300000000) (hT : T ≤ 300000000) (text : Str) (htext : text.length ≤ 1000000000000) :
    Ct Tryz.prog 121 [.pointer (some ⟨p, 0, none⟩), str text] (mb p x m :: mr x m) (fun _ => True) (fun v A' => ∃ x' m' r0, MS.putOut m text = (m', r0) ∧ m'.ok (S + 2) (T + 3) ∧ (0 ≤ r0 ∧ r0 ≤ 9) ∧ v = .int .i64 r0 ∧ A' = mb p x' m' :: mr x' m') := by
  refine Ct.intro Tryz.func121 rfl Tryz.ntmps121 (lb rfl) fun w0 hpre => ?_
  refine jD <| jF <| jA (jG (v := iv 0) rfl) <| jE <| jB <| jD <| jD <| jF <| jA (jC (v := str text) rfl) <| jA (kM kf rfl) ?_
  refine jH rfl (jI [] Tryz.call35 rfl (C_within (text.length : Int) 1 20) rfl (fun _ _ => trivial)) ?_
  rintro _ _ ⟨_, ⟨rfl, rfl⟩, rfl⟩
  refine jA (kF rfl) <| jE <| jB ?_
  rcases Bool.eq_false_or_eq_true (decide (1 ≤ (text.length : Int)) && decide ((text.length : Int) ≤ 20)) with h_1 | h_1
  · have h_1d := h_1
    simp only [Bool.and_eq_true, Bool.and_eq_false_iff, decide_eq_true_eq, decide_eq_false_iff_not] at h_1d
    refine jR (cB (cN h_1)) <| jW <| jB <| jD <| jF <| jA (jC (v := pv p) rfl) ?_
    refine jH rfl (jI [0, 0, 0, 0] Tryz.call160 rfl (N_num p x m hk (by omega) (by omega) [100, 47, 110]) rfl (fun _ _ => trivial)) ?_
    rintro _ _ ⟨_, ⟨x_4, m_5, n_6, e_2, k_3, f_7, rfl, rfl⟩, rfl⟩
    refine jA (jG (v := iv n_6) rfl) <| jE <| jB <| jD <| jD <| jF <| jA (jC (v := iv n_6) rfl) <| jA (kT rfl rfl) <| jE <| jB ?_
    by_cases h_8 : 40 ≤ n_6
    · refine jQ (cB (dT h_8)) <| jD <| jF <| jA (jG (v := iv 3) rfl) <| jE <| jB <| jM <| jb <| jU (.inl rfl) rfl (jN (v := iv 3) rfl) (List.Sublist.refl _) ?_
      exact ⟨x_4, m_5, 3, (by simp only [MS.putOut, h_1, e_2, h_8, SB]; (repeat (first | rw [if_pos (by omega)] | rw [if_neg (by omega)])); all_goals (first | rfl | simp only [SB, h_1, e_2, h_8])), (k_3.mono (by omega) (by omega)), (by first | omega | (simp only [LE]; omega)), rfl, rfl⟩
    refine jR (cB (dF h_8)) <| jW <| jB <| jD <| jF <| jA (jC (v := pv p) rfl) <| jA (jC (v := iv n_6) rfl) <| jA (ji (c := n_6 + 1) rfl rfl (wr (by omega))) ?_
    refine jH rfl (jI [0, 0, 0, 0] Tryz.call165 rfl (N_setNum p x_4 m_5 k_3 (by omega) (by omega) [100, 47, 110] (n_6 + 1) (by decide) (by omega)) rfl (fun _ _ => trivial)) ?_
    rintro _ _ ⟨_, ⟨x_11, m_12, e_9, k_10, rfl, rfl⟩, rfl⟩
    refine jE <| jB <| jD <| jF <| jA (jC (v := pv p) rfl) <| jA (jC (v := iv n_6) rfl) <| jA (ji (c := n_6 + 1) rfl rfl (wr (by omega))) ?_
    refine jH rfl (jI [] Tryz.call170 rfl (N_keyNum [100, 47] (n_6 + 1) [] (show List.length ([100, 47] : Str) ≤ 2 by decide) (by omega) (show List.length ([] : Str) ≤ 0 by decide) (by omega)) rfl (fun _ _ => trivial)) ?_
    rintro _ _ ⟨_, ⟨u_15, e_13, f_16, rfl, rfl⟩, rfl⟩
    refine jA (jC (v := str text) rfl) ?_
    refine jH rfl (jI [] Tryz.call177 rfl (N_hexOf text (by omega)) rfl (fun _ _ => trivial)) ?_
    rintro _ _ ⟨_, ⟨u_19, e_17, f_20, rfl, rfl⟩, rfl⟩
    refine jA (kS rfl rfl (by (try simp only [List.length_append, List.length_cons, List.length_nil, List.length_drop, List.length_take]); omega)) ?_
    refine jH rfl (jI [0, 0, 0, 0] Tryz.call168 rfl (N_lay p x_11 m_12 k_10 (by omega) (by omega) u_15 ([45] ++ u_19) (by omega)) rfl (fun _ _ => trivial)) ?_
    rintro _ _ ⟨_, ⟨x_23, m_24, e_21, k_22, rfl, rfl⟩, rfl⟩
    refine jE <| jB <| jD <| jF <| jA (jG (v := iv 0) rfl) <| jE <| jB <| jM <| jU (.inl rfl) rfl (jN (v := iv 0) rfl) (List.Sublist.refl _) ?_
    exact ⟨x_23, m_24, 0, (by simp only [MS.putOut, h_1, e_2, h_8, e_9, e_13, e_17, e_21, SB]; (repeat (first | rw [if_pos (by omega)] | rw [if_neg (by omega)])); all_goals (first | rfl | simp only [SB, h_1, e_2, h_8, e_9, e_13, e_17, e_21])), (k_22.mono (by omega) (by omega)), (by first | omega | (simp only [LE]; omega)), rfl, rfl⟩
  have h_1d := h_1
  simp only [Bool.and_eq_true, Bool.and_eq_false_iff, decide_eq_true_eq, decide_eq_false_iff_not] at h_1d
  refine jQ (cB (cN h_1)) <| jD <| jF <| jA (jG (v := iv 4) rfl) <| jE <| jB <| jM <| jb <| jU (.inl rfl) rfl (jN (v := iv 4) rfl) (List.Sublist.refl _) ?_
  exact ⟨x, m, 4, (by simp only [MS.putOut, h_1, SB]; (repeat (first | rw [if_pos (by omega)] | rw [if_neg (by omega)])); all_goals (first | rfl | simp only [SB, h_1])), (hk.mono (by omega) (by omega)), (by first | omega | (simp only [LE]; omega)), rfl, rfl⟩

theorem N_putPipe (p : Nat) (x : MA) (m : MS) {S T : Nat} (hk : m.ok S T) (hS : S ≤ 300000000) (hT : T ≤ 300000000) (id : Int) (text : Str) (hid : -9223372036854775808 ≤ id ∧ id ≤ 9223372036854775807) (htext : text.length ≤ 1000000000000) :
    Ct Tryz.prog 106 [.pointer (some ⟨p, 0, none⟩), .int .i64 id, str text] (mb p x m :: mr x m) (fun _ => True) (fun v A' => ∃ x' m' r0, MS.putPipe m id text = (m', r0) ∧ m'.ok (S + 2) (T + 5) ∧ (0 ≤ r0 ∧ r0 ≤ 9) ∧ v = .int .i64 r0 ∧ A' = mb p x' m' :: mr x' m') := by
  refine Ct.intro Tryz.func106 rfl Tryz.ntmps106 (lb rfl) fun w0 hpre => ?_
  refine jD <| jF <| jA (jG (v := iv 0) rfl) <| jE <| jB <| jD <| jD <| jF <| jA (jC (v := pv p) rfl) <| jA (jC (v := iv id) rfl) ?_
  refine jH rfl (jI [0, 0, 0, 0] Tryz.call176 rfl (N_isPipe p x m hk (by omega) (by omega) id (by omega)) rfl (fun _ _ => trivial)) ?_
  rintro _ _ ⟨_, ⟨x_3, m_4, b_5, e_1, k_2, rfl, rfl⟩, rfl⟩
  refine jA (kF rfl) <| jE <| jB ?_
  rcases Bool.eq_false_or_eq_true (b_5) with h_6 | h_6
  · refine jR (cB (cN h_6)) <| jW <| jB <| jD <| jD <| jF <| jA (jC (v := str text) rfl) <| jA (kM kf rfl) <| jA (kU rfl rfl) <| jE ?_
    refine jB ?_
    by_cases h_7 : 20 < (text.length : Int)
    · refine jQ (cB (dT h_7)) <| jD <| jF <| jA (jG (v := iv 4) rfl) <| jE <| jB <| jM <| jb <| jU (.inl rfl) rfl (jN (v := iv 4) rfl) (List.Sublist.refl _) ?_
      exact ⟨x_3, m_4, 4, (by simp only [MS.putPipe, e_1, h_6, h_7, SB]; (repeat (first | rw [if_pos (by omega)] | rw [if_neg (by omega)])); all_goals (first | rfl | simp only [SB, e_1, h_6, h_7])), (k_2.mono (by omega) (by omega)), (by first | omega | (simp only [LE]; omega)), rfl, rfl⟩
    refine jR (cB (dF h_7)) <| jW <| jB <| jD <| jF <| jA (jC (v := pv p) rfl) <| jA (jC (v := iv id) rfl) ?_
    refine jH rfl (jI [] Tryz.call175 rfl (N_pipeKey id [47, 116] (by omega) (show List.length ([47, 116] : Str) ≤ 2 by decide) (by omega)) rfl (fun _ _ => trivial)) ?_
    rintro _ _ ⟨_, ⟨u_10, e_8, f_11, rfl, rfl⟩, rfl⟩
    refine jH rfl (jI [0, 0, 0, 0] Tryz.call160 rfl (N_num p x_3 m_4 k_2 (by omega) (by omega) u_10) rfl (fun _ _ => trivial)) ?_
    rintro _ _ ⟨_, ⟨x_14, m_15, n_16, e_12, k_13, f_17, rfl, rfl⟩, rfl⟩
    refine jA (jG (v := iv n_16) rfl) <| jE <| jB <| jD <| jF <| jA (jC (v := pv p) rfl) <| jA (jC (v := iv id) rfl) ?_
    refine jH rfl (jI [] Tryz.call175 rfl (N_pipeKey id [47, 104] (by omega) (show List.length ([47, 104] : Str) ≤ 2 by decide) (by omega)) rfl (fun _ _ => trivial)) ?_
    rintro _ _ ⟨_, ⟨u_20, e_18, f_21, rfl, rfl⟩, rfl⟩
    refine jH rfl (jI [0, 0, 0, 0] Tryz.call160 rfl (N_num p x_14 m_15 k_13 (by omega) (by omega) u_20) rfl (fun _ _ => trivial)) ?_
    rintro _ _ ⟨_, ⟨x_24, m_25, n_26, e_22, k_23, f_27, rfl, rfl⟩, rfl⟩
    refine jA (jG (v := iv n_26) rfl) <| jE <| jB <| jD <| jl <| jD <| jF <| jA (jC (v := iv n_16) rfl) <| jA (jC (v := iv n_26) rfl) <| jA (kQ (c := n_16 - n_26) rfl rfl (wr (by omega))) ?_
    refine jA (kT rfl rfl) <| jA (jG (v := .bool (decide (4 ≤ (n_16 - n_26)))) rfl) <| jE <| jB ?_
    by_cases h_28 : 4 ≤ (n_16 - n_26)
    · refine jQ (cB (dT h_28)) <| jD <| jF <| jA (jG (v := iv 5) rfl) <| jE <| jB <| jM <| kA <| jb <| jU (.inl rfl) rfl (jN (v := iv 5) rfl) (List.Sublist.refl _) ?_
      exact ⟨x_24, m_25, 5, (by simp only [MS.putPipe, e_1, h_6, h_7, e_8, e_12, e_18, e_22, h_28, SB]; (repeat (first | rw [if_pos (by omega)] | rw [if_neg (by omega)])); all_goals (first | rfl | simp only [SB, e_1, h_6, h_7, e_8, e_12, e_18, e_22, h_28])), (k_23.mono (by omega) (by omega)), (by first | omega | (simp only [LE]; omega)), rfl, rfl⟩
    refine jR (cB (dF h_28)) <| jD <| jF <| jA (jC (v := iv n_16) rfl) <| jA (kT rfl rfl) <| jA (jG (v := .bool (decide (999 ≤ n_16))) rfl) <| jE <| jB ?_
    by_cases h_29 : 999 ≤ n_16
    · refine jQ (cB (dT h_29)) <| jD <| jF <| jA (jG (v := iv 3) rfl) <| jE <| jB <| jM <| kA <| jb <| jU (.inl rfl) rfl (jN (v := iv 3) rfl) (List.Sublist.refl _) ?_
      exact ⟨x_24, m_25, 3, (by simp only [MS.putPipe, e_1, h_6, h_7, e_8, e_12, e_18, e_22, h_28, h_29, SB]; (repeat (first | rw [if_pos (by omega)] | rw [if_neg (by omega)])); all_goals (first | rfl | simp only [SB, e_1, h_6, h_7, e_8, e_12, e_18, e_22, h_28, h_29])), (k_23.mono (by omega) (by omega)), (by first | omega | (simp only [LE]; omega)), rfl, rfl⟩
    refine jR (cB (dF h_29)) <| jW <| jk <| jB <| jD <| jF <| jA (jC (v := pv p) rfl) <| jA (jC (v := iv id) rfl) ?_
    refine jH rfl (jI [] Tryz.call175 rfl (N_pipeKey id [47, 116] (by omega) (show List.length ([47, 116] : Str) ≤ 2 by decide) (by omega)) rfl (fun _ _ => trivial)) ?_
    rintro _ _ ⟨_, ⟨u_32, e_30, f_33, rfl, rfl⟩, rfl⟩
    have hqe_30 := e_8.symm.trans e_30
    subst hqe_30
    refine jA (jC (v := iv n_16) rfl) <| jA (ji (c := n_16 + 1) rfl rfl (wr (by omega))) ?_
    refine jH rfl (jI [0, 0, 0, 0] Tryz.call165 rfl (N_setNum p x_24 m_25 k_23 (by omega) (by omega) u_10 (n_16 + 1) (by omega) (by omega)) rfl (fun _ _ => trivial)) ?_
    rintro _ _ ⟨_, ⟨x_36, m_37, e_34, k_35, rfl, rfl⟩, rfl⟩
    refine jE <| jB <| jD <| jF <| jA (jC (v := pv p) rfl) <| jA (jC (v := iv id) rfl) ?_
    refine jH rfl (jI [] Tryz.call175 rfl (N_pipeKey id [47, 113, 47] (by omega) (show List.length ([47, 113, 47] : Str) ≤ 3 by decide) (by omega)) rfl (fun _ _ => trivial)) ?_
    rintro _ _ ⟨_, ⟨u_40, e_38, f_41, rfl, rfl⟩, rfl⟩
    refine jA (jC (v := iv n_16) rfl) <| jA (ji (c := n_16 + 1) rfl rfl (wr (by omega))) ?_
    refine jH rfl (jI [] Tryz.call170 rfl (N_keyNum u_40 (n_16 + 1) [] (Nat.le_refl _) (by omega) (show List.length ([] : Str) ≤ 0 by decide) (by omega)) rfl (fun _ _ => trivial)) ?_
    rintro _ _ ⟨_, ⟨u_44, e_42, f_45, rfl, rfl⟩, rfl⟩
    refine jA (jC (v := str text) rfl) ?_
    refine jH rfl (jI [] Tryz.call177 rfl (N_hexOf text (by omega)) rfl (fun _ _ => trivial)) ?_
    rintro _ _ ⟨_, ⟨u_48, e_46, f_49, rfl, rfl⟩, rfl⟩
    refine jA (kS rfl rfl (by (try simp only [List.length_append, List.length_cons, List.length_nil, List.length_drop, List.length_take]); omega)) ?_
    refine jH rfl (jI [0, 0, 0, 0] Tryz.call168 rfl (N_lay p x_36 m_37 k_35 (by omega) (by omega) u_44 ([45] ++ u_48) (by omega)) rfl (fun _ _ => trivial)) ?_
    rintro _ _ ⟨_, ⟨x_52, m_53, e_50, k_51, rfl, rfl⟩, rfl⟩
    refine jE <| jB <| jD <| jF <| jA (jG (v := iv 0) rfl) <| jE <| jB <| jM <| jU (.inl rfl) rfl (jN (v := iv 0) rfl) (List.Sublist.refl _) ?_
    exact ⟨x_52, m_53, 0, (by simp only [MS.putPipe, e_1, h_6, h_7, e_8, e_12, e_18, e_22, h_28, h_29, e_34, e_38, e_42, e_46, e_50, SB]; (repeat (first | rw [if_pos (by omega)] | rw [if_neg (by omega)])); all_goals (first | rfl | simp only [SB, e_1, h_6, h_7, e_8, e_12, e_18, e_22, h_28, h_29, e_34, e_38, e_42, e_46, e_50])), (k_51.mono (by omega) (by omega)), (by first | omega | (simp only [LE]; omega)), rfl, rfl⟩
  refine jQ (cB (cN h_6)) <| jD <| jF <| jA (jG (v := iv 2) rfl) <| jE <| jB <| jM <| jb <| jU (.inl rfl) rfl (jN (v := iv 2) rfl) (List.Sublist.refl _) ?_
  exact ⟨x_3, m_4, 2, (by simp only [MS.putPipe, e_1, h_6, SB]; (repeat (first | rw [if_pos (by omega)] | rw [if_neg (by omega)])); all_goals (first | rfl | simp only [SB, e_1, h_6])), (k_2.mono (by omega) (by omega)), (by first | omega | (simp only [LE]; omega)), rfl, rfl⟩

theorem N_takePipe (p : Nat) (x : MA) (m : MS) {S T : Nat} (hk : m.ok S T) (hS : S ≤ 300000000) (hT : T ≤ 300000000) (id : Int) (hid : -9223372036854775808 ≤ id ∧ id ≤ 9223372036854775807) :
    Ct Tryz.prog 107 [.pointer (some ⟨p, 0, none⟩), .int .i64 id] (mb p x m :: mr x m) (fun w => HexOk w) (fun v A' => ∃ x' m' r0 r1, MS.takePipe m id = (m', r0, r1) ∧ m'.ok (S + 1) (T + 6) ∧ r0.length ≤ 20000 ∧ (0 ≤ r1 ∧ r1 ≤ 9) ∧ v = .tuple #[str r0, .int .i64 r1] ∧ A' = mb p x' m' :: mr x' m') := by
  refine Ct.introL Tryz.func107 rfl Tryz.ntmps107 (lb rfl) fun w0 hpre hlow => ?_
  refine jD <| jF <| jA (jG (v := str []) rfl) <| jA (jG (v := iv 0) rfl) <| jE <| jB <| jD <| jD <| jF <| jA (jC (v := pv p) rfl) ?_
  refine jA (jC (v := iv id) rfl) ?_
  refine jH rfl (jI [0, 0, 0, 0] Tryz.call176 rfl (N_isPipe p x m hk (by omega) (by omega) id (by omega)) rfl (fun _ _ => trivial)) ?_
  rintro _ _ ⟨_, ⟨x_3, m_4, b_5, e_1, k_2, rfl, rfl⟩, rfl⟩
  refine jA (kF rfl) <| jE <| jB ?_
  rcases Bool.eq_false_or_eq_true (b_5) with h_6 | h_6
  · refine jR (cB (cN h_6)) <| jW <| jB <| jD <| jF <| jA (jC (v := pv p) rfl) <| jA (jC (v := iv id) rfl) ?_
    refine jH rfl (jI [] Tryz.call175 rfl (N_pipeKey id [47, 104] (by omega) (show List.length ([47, 104] : Str) ≤ 2 by decide) (by omega)) rfl (fun _ _ => trivial)) ?_
    rintro _ _ ⟨_, ⟨u_9, e_7, f_10, rfl, rfl⟩, rfl⟩
    refine jH rfl (jI [0, 0, 0, 0] Tryz.call160 rfl (N_num p x_3 m_4 k_2 (by omega) (by omega) u_9) rfl (fun _ _ => trivial)) ?_
    rintro _ _ ⟨_, ⟨x_13, m_14, n_15, e_11, k_12, f_16, rfl, rfl⟩, rfl⟩
    refine jA (jG (v := iv n_15) rfl) <| jE <| jB <| jD <| jD <| jF <| jA (jC (v := pv p) rfl) <| jA (jC (v := iv id) rfl) ?_
    refine jH rfl (jI [] Tryz.call175 rfl (N_pipeKey id [47, 116] (by omega) (show List.length ([47, 116] : Str) ≤ 2 by decide) (by omega)) rfl (fun _ _ => trivial)) ?_
    rintro _ _ ⟨_, ⟨u_19, e_17, f_20, rfl, rfl⟩, rfl⟩
    refine jH rfl (jI [0, 0, 0, 0] Tryz.call160 rfl (N_num p x_13 m_14 k_12 (by omega) (by omega) u_19) rfl (fun _ _ => trivial)) ?_
    rintro _ _ ⟨_, ⟨x_23, m_24, n_25, e_21, k_22, f_26, rfl, rfl⟩, rfl⟩
    refine jA (jC (v := iv n_15) rfl) <| jA (jx rfl rfl) <| jE <| jB ?_
    by_cases h_27 : n_25 = n_15
    · refine jQ (cB (dT h_27)) <| jD <| jF <| jA (jG (v := str []) rfl) <| jA (jG (v := iv 5) rfl) <| jE <| jB <| jM <| jb <| jn (.inl rfl) rfl (jN (v := str []) rfl) (jN (v := iv 5) rfl) (List.Sublist.refl _) ?_
      exact ⟨x_23, m_24, [], 5, (by simp only [MS.takePipe, e_1, h_6, e_7, e_11, e_17, e_21, h_27, SB]; (repeat (first | rw [if_pos (by omega)] | rw [if_neg (by omega)])); all_goals (first | rfl | simp only [SB, e_1, h_6, e_7, e_11, e_17, e_21, h_27])), (k_22.mono (by omega) (by omega)), (by first | omega | (simp only [LE]; omega)), (by first | omega | (simp only [LE]; omega)), rfl, rfl⟩
    refine jR (cB (dF h_27)) <| jW <| jB <| jD <| jF <| jA (jC (v := iv id) rfl) ?_
    refine jH rfl (jI [] Tryz.call175 rfl (N_pipeKey id [47, 113, 47] (by omega) (show List.length ([47, 113, 47] : Str) ≤ 3 by decide) (by omega)) rfl (fun _ _ => trivial)) ?_
    rintro _ _ ⟨_, ⟨u_30, e_28, f_31, rfl, rfl⟩, rfl⟩
    refine jA (jC (v := iv n_15) rfl) <| jA (ji (c := n_15 + 1) rfl rfl (wr (by omega))) ?_
    refine jH rfl (jI [] Tryz.call170 rfl (N_keyNum u_30 (n_15 + 1) [] (Nat.le_refl _) (by omega) (show List.length ([] : Str) ≤ 0 by decide) (by omega)) rfl (fun _ _ => trivial)) ?_
    rintro _ _ ⟨_, ⟨u_34, e_32, f_35, rfl, rfl⟩, rfl⟩
    refine jA (jG (v := str u_34) rfl) <| jE <| jB <| jD <| jF <| jA (jC (v := pv p) rfl) <| jA (jC (v := str u_34) rfl) ?_
    refine jH rfl (jI [0, 0, 0, 0] Tryz.call178 rfl (N_message p x_23 m_24 k_22 (by omega) (by omega) u_34) rfl (fun w hw => hw.hex hlow hpre)) ?_
    rintro _ _ ⟨_, ⟨x_38, m_39, u_40, e_36, k_37, f_41, rfl, rfl⟩, rfl⟩
    refine jA (jG (v := str u_40) rfl) <| jE <| jB <| jD <| jF <| jA (jC (v := pv p) rfl) <| jA (jC (v := str u_34) rfl) ?_
    refine jH rfl (jI [0, 0, 0, 0] Tryz.call168 rfl (N_layNil p x_38 m_39 k_37 (by omega) (by omega) u_34 (by omega)) rfl (fun _ _ => trivial)) ?_
    rintro _ _ ⟨_, ⟨x_44, m_45, e_42, k_43, rfl, rfl⟩, rfl⟩
    refine jE <| jB <| jD <| jF <| jA (jC (v := pv p) rfl) <| jA (jC (v := iv id) rfl) ?_
    refine jH rfl (jI [] Tryz.call175 rfl (N_pipeKey id [47, 104] (by omega) (show List.length ([47, 104] : Str) ≤ 2 by decide) (by omega)) rfl (fun _ _ => trivial)) ?_
    rintro _ _ ⟨_, ⟨u_48, e_46, f_49, rfl, rfl⟩, rfl⟩
    have hqe_46 := e_7.symm.trans e_46
    subst hqe_46
    refine jA (jC (v := iv n_15) rfl) <| jA (ji (c := n_15 + 1) rfl rfl (wr (by omega))) ?_
    refine jH rfl (jI [0, 0, 0, 0] Tryz.call165 rfl (N_setNum p x_44 m_45 k_43 (by omega) (by omega) u_9 (n_15 + 1) (by omega) (by omega)) rfl (fun _ _ => trivial)) ?_
    rintro _ _ ⟨_, ⟨x_52, m_53, e_50, k_51, rfl, rfl⟩, rfl⟩
    refine jE <| jB <| jD <| jF <| jA (jC (v := str u_40) rfl) <| jA (jG (v := str u_40) rfl) <| jA (jG (v := iv 0) rfl) <| jE <| jB <| jM ?_
    refine jn (.inl rfl) rfl (jN (v := str u_40) rfl) (jN (v := iv 0) rfl) (List.Sublist.refl _) ?_
    exact ⟨x_52, m_53, u_40, 0, (by simp only [MS.takePipe, e_1, h_6, e_7, e_11, e_17, e_21, h_27, e_28, e_32, e_36, e_42, e_50, SB]; (repeat (first | rw [if_pos (by omega)] | rw [if_neg (by omega)])); all_goals (first | rfl | simp only [SB, e_1, h_6, e_7, e_11, e_17, e_21, h_27, e_28, e_32, e_36, e_42, e_50])), (k_51.mono (by omega) (by omega)), (by first | omega | (simp only [LE]; omega)), (by first | omega | (simp only [LE]; omega)), rfl, rfl⟩
  refine jQ (cB (cN h_6)) <| jD <| jF <| jA (jG (v := str []) rfl) <| jA (jG (v := iv 2) rfl) <| jE <| jB <| jM <| jb <| jn (.inl rfl) rfl (jN (v := str []) rfl) (jN (v := iv 2) rfl) (List.Sublist.refl _) ?_
  exact ⟨x_3, m_4, [], 2, (by simp only [MS.takePipe, e_1, h_6, SB]; (repeat (first | rw [if_pos (by omega)] | rw [if_neg (by omega)])); all_goals (first | rfl | simp only [SB, e_1, h_6])), (k_2.mono (by omega) (by omega)), (by first | omega | (simp only [LE]; omega)), (by first | omega | (simp only [LE]; omega)), rfl, rfl⟩

theorem N_storePage (p : Nat) (x : MA) (m : MS) {S T : Nat} (hk : m.ok S T) (hS : S ≤ 300000000) (hT : T ≤ 300000000) (id : Int) (page : Int) (text : Str) (hid : -9223372036854775808 ≤ id ∧ id ≤ 9223372036854775807) (hpage : -9223372036854775808 ≤ page ∧ page ≤ 9223372036854775807) (htext : text.length ≤ 1000000000000) :
    Ct Tryz.prog 119 [.pointer (some ⟨p, 0, none⟩), .int .i64 id, .int .i64 page, str text] (mb p x m :: mr x m) (fun _ => True) (fun v A' => ∃ x' m' r0, MS.storePage m id page text = (m', r0) ∧ m'.ok (S + 1) (T + 1) ∧ (0 ≤ r0 ∧ r0 ≤ 9) ∧ v = .int .i64 r0 ∧ A' = mb p x' m' :: mr x' m') := by
  refine Ct.intro Tryz.func119 rfl Tryz.ntmps119 (lb rfl) fun w0 hpre => ?_
  refine jD <| jF <| jA (jG (v := iv 0) rfl) <| jE <| jB <| jD <| jD <| jF <| jA (jC (v := iv page) rfl) ?_
  refine jH rfl (jI [] Tryz.call35 rfl (C_within page 0 3) rfl (fun _ _ => trivial)) ?_
  rintro _ _ ⟨_, ⟨rfl, rfl⟩, rfl⟩
  refine jA (kF rfl) <| jA (jC (v := .bool (!(decide (0 ≤ page) && decide (page ≤ 3)))) rfl) ?_
  rcases Bool.eq_false_or_eq_true (decide (0 ≤ page) && decide (page ≤ 3)) with h_1 | h_1
  · have h_1d := h_1
    simp only [Bool.and_eq_true, Bool.and_eq_false_iff, decide_eq_true_eq, decide_eq_false_iff_not] at h_1d
    refine jX rfl rfl rfl (cB (cN h_1)) (jZ (jd (jC (v := str text) rfl))) ?_
    rintro _ _ ⟨rfl, rfl⟩
    refine jX rfl rfl rfl (cB (cN h_1)) (jZ (jd (kM kf rfl))) ?_
    rintro _ _ ⟨rfl, rfl⟩
    refine jX rfl rfl rfl (cB (cN h_1)) (jZ (jd (kU rfl rfl))) ?_
    rintro _ _ ⟨rfl, rfl⟩
    refine jA (js (v := .bool (decide (20 < (text.length : Int)))) (cB (cN h_1)) rfl) <| jE <| jB ?_
    by_cases h_2 : 20 < (text.length : Int)
    · refine jQ (cB (dT h_2)) <| jD <| jF <| jA (jG (v := iv 4) rfl) <| jE <| jB <| jM <| jb <| jU (.inl rfl) rfl (jN (v := iv 4) rfl) (List.Sublist.refl _) ?_
      exact ⟨x, m, 4, (by simp only [MS.storePage, h_1, h_2, SB]; (repeat (first | rw [if_pos (by omega)] | rw [if_neg (by omega)])); all_goals (first | rfl | simp only [SB, h_1, h_2])), (hk.mono (by omega) (by omega)), (by first | omega | (simp only [LE]; omega)), rfl, rfl⟩
    refine jR (cB (dF h_2)) <| jW <| jB <| jD <| jF <| jA (jG (v := str []) rfl) <| jE <| jB <| jD <| jD ?_
    refine jF <| jA (jC (v := str text) rfl) <| jA (PO.neqS rfl rfl) <| jE <| jB ?_
    by_cases h_3 : text = []
    · have h_3l : text.length = 0 := by rw [h_3]; rfl
      refine jR (cB (cN (dT h_3))) <| jW <| jB <| jD <| jF <| jA (jC (v := pv p) rfl) <| jA (jC (v := iv id) rfl) ?_
      refine jH rfl (jI [] Tryz.call179 rfl (N_pagesKey id (by omega)) rfl (fun _ _ => trivial)) ?_
      rintro _ _ ⟨_, ⟨u_6, e_4, f_7, rfl, rfl⟩, rfl⟩
      refine jA (jC (v := iv page) rfl) ?_
      refine jH rfl (jI [] Tryz.call170 rfl (N_keyNum u_6 page [] (Nat.le_refl _) (by omega) (show List.length ([] : Str) ≤ 0 by decide) (by omega)) rfl (fun _ _ => trivial)) ?_
      rintro _ _ ⟨_, ⟨u_10, e_8, f_11, rfl, rfl⟩, rfl⟩
      refine jA (jC (v := str []) rfl) ?_
      refine jH rfl (jI [0, 0, 0, 0] Tryz.call168 rfl (N_layNil p x m hk (by omega) (by omega) u_10 (by omega)) rfl (fun _ _ => trivial)) ?_
      rintro _ _ ⟨_, ⟨x_14, m_15, e_12, k_13, rfl, rfl⟩, rfl⟩
      refine jE <| jB <| jD <| jF <| jA (jG (v := iv 0) rfl) <| jE <| jB <| jM <| jU (.inl rfl) rfl (jN (v := iv 0) rfl) (List.Sublist.refl _) ?_
      exact ⟨x_14, m_15, 0, (by simp only [MS.storePage, h_1, h_2, h_3, e_4, e_8, e_12, SB]; (repeat (first | rw [if_pos (by omega)] | rw [if_neg (by omega)])); all_goals (first | rfl | simp only [SB, h_1, h_2, h_3, e_4, e_8, e_12])), (k_13.mono (by omega) (by omega)), (by first | omega | (simp only [LE]; omega)), rfl, rfl⟩
    have h_3l := List.length_pos_iff.2 h_3
    refine jQ (cB (cN (dF h_3))) <| jF <| jA (jC (v := str text) rfl) ?_
    refine jH rfl (jI [] Tryz.call177 rfl (N_hexOf text (by omega)) rfl (fun _ _ => trivial)) ?_
    rintro _ _ ⟨_, ⟨u_18, e_16, f_19, rfl, rfl⟩, rfl⟩
    refine jA (kS rfl rfl (by (try simp only [List.length_append, List.length_cons, List.length_nil, List.length_drop, List.length_take]); omega)) <| jA (jG (v := str ([45] ++ u_18)) rfl) <| jE <| jB <| jD <| jF <| jA (jC (v := pv p) rfl) <| jA (jC (v := iv id) rfl) ?_
    refine jH rfl (jI [] Tryz.call179 rfl (N_pagesKey id (by omega)) rfl (fun _ _ => trivial)) ?_
    rintro _ _ ⟨_, ⟨u_22, e_20, f_23, rfl, rfl⟩, rfl⟩
    refine jA (jC (v := iv page) rfl) ?_
    refine jH rfl (jI [] Tryz.call170 rfl (N_keyNum u_22 page [] (Nat.le_refl _) (by omega) (show List.length ([] : Str) ≤ 0 by decide) (by omega)) rfl (fun _ _ => trivial)) ?_
    rintro _ _ ⟨_, ⟨u_26, e_24, f_27, rfl, rfl⟩, rfl⟩
    refine jA (jC (v := str ([45] ++ u_18)) rfl) ?_
    refine jH rfl (jI [0, 0, 0, 0] Tryz.call168 rfl (N_lay p x m hk (by omega) (by omega) u_26 ([45] ++ u_18) (by omega)) rfl (fun _ _ => trivial)) ?_
    rintro _ _ ⟨_, ⟨x_30, m_31, e_28, k_29, rfl, rfl⟩, rfl⟩
    refine jE <| jB <| jD <| jF <| jA (jG (v := iv 0) rfl) <| jE <| jB <| jM <| jU (.inl rfl) rfl (jN (v := iv 0) rfl) (List.Sublist.refl _) ?_
    exact ⟨x_30, m_31, 0, (by simp only [MS.storePage, h_1, h_2, h_3, e_16, e_20, e_24, e_28, SB]; (repeat (first | rw [if_pos (by omega)] | rw [if_neg (by omega)])); all_goals (first | rfl | simp only [SB, h_1, h_2, h_3, e_16, e_20, e_24, e_28])), (k_29.mono (by omega) (by omega)), (by first | omega | (simp only [LE]; omega)), rfl, rfl⟩
  have h_1d := h_1
  simp only [Bool.and_eq_true, Bool.and_eq_false_iff, decide_eq_true_eq, decide_eq_false_iff_not] at h_1d
  refine jO (b := true) rfl rfl rfl (cB (cN h_1)) <| jO (b := true) rfl rfl rfl (cB (cN h_1)) <| jO (b := true) rfl rfl rfl (cB (cN h_1)) <| jA (jw (v := .bool true) (cB (cN h_1)) rfl) <| jE <| jB <| jQ (cB rfl) <| jD <| jF <| jA (jG (v := iv 4) rfl) ?_
  refine jE <| jB <| jM <| jb <| jU (.inl rfl) rfl (jN (v := iv 4) rfl) (List.Sublist.refl _) ?_
  exact ⟨x, m, 4, (by simp only [MS.storePage, h_1, SB]; (repeat (first | rw [if_pos (by omega)] | rw [if_neg (by omega)])); all_goals (first | rfl | simp only [SB, h_1])), (hk.mono (by omega) (by omega)), (by first | omega | (simp only [LE]; omega)), rfl, rfl⟩

theorem N_loadPage (p : Nat) (x : MA) (m : MS) {S T : Nat} (hk : m.ok S T) (hS : S ≤ 300000000) (hT : T ≤ 300000000) (id : Int) (page : Int) (hid : -9223372036854775808 ≤ id ∧ id ≤ 9223372036854775807) (hpage : -9223372036854775808 ≤ page ∧ page ≤ 9223372036854775807) :
    Ct Tryz.prog 120 [.pointer (some ⟨p, 0, none⟩), .int .i64 id, .int .i64 page] (mb p x m :: mr x m) (fun w => HexOk w) (fun v A' => ∃ x' m' r0 r1, MS.loadPage m id page = (m', r0, r1) ∧ m'.ok (S) (T + 1) ∧ r0.length ≤ 20000 ∧ (0 ≤ r1 ∧ r1 ≤ 9) ∧ v = .tuple #[str r0, .int .i64 r1] ∧ A' = mb p x' m' :: mr x' m') := by
  refine Ct.introL Tryz.func120 rfl Tryz.ntmps120 (lb rfl) fun w0 hpre hlow => ?_
  refine jD <| jF <| jA (jG (v := str []) rfl) <| jA (jG (v := iv 0) rfl) <| jE <| jB <| jD <| jD <| jF <| jA (jC (v := iv page) rfl) ?_
  refine jH rfl (jI [] Tryz.call35 rfl (C_within page 0 3) rfl (fun _ _ => trivial)) ?_
  rintro _ _ ⟨_, ⟨rfl, rfl⟩, rfl⟩
  refine jA (kF rfl) <| jE <| jB ?_
  rcases Bool.eq_false_or_eq_true (decide (0 ≤ page) && decide (page ≤ 3)) with h_1 | h_1
  · have h_1d := h_1
    simp only [Bool.and_eq_true, Bool.and_eq_false_iff, decide_eq_true_eq, decide_eq_false_iff_not] at h_1d
    refine jR (cB (cN h_1)) <| jW <| jB <| jD <| jF <| jA (jC (v := pv p) rfl) <| jA (jC (v := iv id) rfl) ?_
    refine jH rfl (jI [] Tryz.call179 rfl (N_pagesKey id (by omega)) rfl (fun _ _ => trivial)) ?_
    rintro _ _ ⟨_, ⟨u_4, e_2, f_5, rfl, rfl⟩, rfl⟩
    refine jA (jC (v := iv page) rfl) ?_
    refine jH rfl (jI [] Tryz.call170 rfl (N_keyNum u_4 page [] (Nat.le_refl _) (by omega) (show List.length ([] : Str) ≤ 0 by decide) (by omega)) rfl (fun _ _ => trivial)) ?_
    rintro _ _ ⟨_, ⟨u_8, e_6, f_9, rfl, rfl⟩, rfl⟩
    refine jH rfl (jI [0, 0, 0, 0] Tryz.call178 rfl (N_message p x m hk (by omega) (by omega) u_8) rfl (fun w hw => hw.hex hlow hpre)) ?_
    rintro _ _ ⟨_, ⟨x_12, m_13, u_14, e_10, k_11, f_15, rfl, rfl⟩, rfl⟩
    refine jA (jG (v := str u_14) rfl) <| jA (jG (v := iv 0) rfl) <| jE <| jB <| jM <| jn (.inl rfl) rfl (jN (v := str u_14) rfl) (jN (v := iv 0) rfl) (List.Sublist.refl _) ?_
    exact ⟨x_12, m_13, u_14, 0, (by simp only [MS.loadPage, h_1, e_2, e_6, e_10, SB]; (repeat (first | rw [if_pos (by omega)] | rw [if_neg (by omega)])); all_goals (first | rfl | simp only [SB, h_1, e_2, e_6, e_10])), (k_11.mono (by omega) (by omega)), (by first | omega | (simp only [LE]; omega)), (by first | omega | (simp only [LE]; omega)), rfl, rfl⟩
  have h_1d := h_1
  simp only [Bool.and_eq_true, Bool.and_eq_false_iff, decide_eq_true_eq, decide_eq_false_iff_not] at h_1d
  refine jQ (cB (cN h_1)) <| jD <| jF <| jA (jG (v := str []) rfl) <| jA (jG (v := iv 4) rfl) <| jE <| jB <| jM <| jb <| jn (.inl rfl) rfl (jN (v := str []) rfl) (jN (v := iv 4) rfl) (List.Sublist.refl _) ?_
  exact ⟨x, m, [], 4, (by simp only [MS.loadPage, h_1, SB]; (repeat (first | rw [if_pos (by omega)] | rw [if_neg (by omega)])); all_goals (first | rfl | simp only [SB, h_1])), (hk.mono (by omega) (by omega)), (by first | omega | (simp only [LE]; omega)), (by first | omega | (simp only [LE]; omega)), rfl, rfl⟩

end Go.Proofs.YtghfijncihbojaaGreatDoor

set_option linter.unusedSimpArgs false
set_option linter.unusedVariables false
set_option linter.unnecessarySimpa false
namespace Go.Proofs.YtghfijncihbojaaGreatDoor
open Go Go.RowKit

/-- What stands between two places. -/
def piece (b : Str) (lo hi : Nat) : Str := (b.drop lo).take (hi - lo)
theorem piece_nil {b : Str} {lo hi : Nat} (h : hi ≤ lo) : piece b lo hi = [] := by
  unfold piece
  rw [show hi - lo = 0 by omega]
  simp
/-- A byte put at a place, with noughts between. -/
def setPad (b : Str) (i : Nat) (c : UInt8) : Str := (b ++ List.replicate (i + 1 - b.length) 0).set i c
theorem pad_step {c : Str} {n : Nat} (h : c.length < n + 1) : (c ++ [0]) ++ List.replicate (n + 1 - (c.length + 1)) (0 : UInt8) = c ++ List.replicate (n + 1 - c.length) 0 := by
  rw [show n + 1 - c.length = (n + 1 - (c.length + 1)) + 1 by omega, List.replicate_succ]
  simp
def overTo (text : Str) (a f : Nat) (b : Str) : Nat → Str
  | 0 => b
  | k + 1 => setPad (overTo text a f b k) (a - f + k) (text.getD (f + (a - f + k) - a) 0)
theorem overTo_step {text b c d : Str} {a f j : Nat} (h : max a f ≤ j) (hc : c = overTo text a f b (j - max a f)) (hd : d = c ++ List.replicate (j - f + 1 - c.length) 0) :
    d.set (j - f) (text.getD (j - a) 0) = overTo text a f b (j + 1 - max a f) := by
  rw [show j + 1 - max a f = (j - max a f) + 1 by omega, overTo, ← hc, show a - f + (j - max a f) = j - f by omega, show f + (j - f) - a = j - a by omega, setPad, ← hd]
namespace MS
def blockKey (id : Int) (p : Nat) : Str := keyNum (keyNum ([105, 47] : Str) id ([47, 98, 47] : Str)) (p : Int) []
def readL (id : Int) (a e : Nat) : Nat → Nat → MS → Str → MS × Str
  | 0, _, m, out => (m, out)
  | k + 1, p, m, out => if p * 8 < e then
      match m.block id (p : Int) with
      | (m, b) => readL id a e k (p + 1) m (out ++ piece b (a - p * 8) (min (min (e - p * 8) 8) b.length))
    else (m, out)
theorem readL_stop {id : Int} {a e k p : Nat} {m : MS} {out : Str} (h : ¬ p * 8 < e) : readL id a e k p m out = (m, out) := by
  cases k with
  | zero => rfl
  | succ k => rw [readL, if_neg h]
def readFile (m : MS) (id at_ n : Int) : MS × Str :=
  match m.sizeOf id with
  | (m, size) => if at_ < 0 ∨ n < 1 ∨ size ≤ at_ then (m, []) else
    readL id at_.toNat (at_ + min n (size - at_)).toNat (130 - at_.toNat / 8) (at_.toNat / 8) m []
def writeL (id : Int) (text : Str) (a e : Nat) : Nat → Nat → MS → MS
  | 0, _, m => m
  | k + 1, p, m => if p * 8 < e then
      match m.block id (p : Int) with
      | (m, b) => writeL id text a e k (p + 1) (m.lay (blockKey id p) (hexS (overTo text a (p * 8) b (min e (p * 8 + 8) - max a (p * 8)))))
    else m
theorem writeL_stop {id : Int} {text : Str} {a e k p : Nat} {m : MS} (h : ¬ p * 8 < e) : writeL id text a e k p m = m := by
  cases k with
  | zero => rfl
  | succ k => rw [writeL, if_neg h]
def writeFile (m : MS) (id at_ : Int) (text : Str) : MS × Int :=
  match m.sizeOf id with
  | (m, size) => if at_ < 0 ∨ size < at_ ∨ (text.length : Int) = 0 then (m, 4) else
    if 64 < at_ + (text.length : Int) then (m, 3) else
    if size < at_ + (text.length : Int) then ((writeL id text at_.toNat (at_.toNat + text.length) (130 - at_.toNat / 8) (at_.toNat / 8) m).setNum (keyNum ([105, 47] : Str) id ([47, 115] : Str)) ((at_.toNat + text.length : Nat) : Int), 0)
    else (writeL id text at_.toNat (at_.toNat + text.length) (130 - at_.toNat / 8) (at_.toNat / 8) m, 0)
def cutL (id : Int) (z : Nat) : Nat → Nat → MS → MS
  | 0, _, m => m
  | k + 1, p, m => if p * 8 < z then cutL id z k (p + 1) (m.lay (blockKey id p) []) else m
theorem cutL_stop {id : Int} {z k p : Nat} {m : MS} (h : ¬ p * 8 < z) : cutL id z k p m = m := by
  cases k with
  | zero => rfl
  | succ k => rw [cutL, if_neg h]
def cutFile (m : MS) (id n : Int) : MS × Int :=
  match m.sizeOf id with
  | (m, size) => if n < 0 ∨ size < n then (m, 4) else
    if 0 < n.toNat % 8 then
      match m.block id ((n.toNat / 8 : Nat) : Int) with
      | (m, b) => ((cutL id size.toNat (130 - (n.toNat / 8 + 1)) (n.toNat / 8 + 1) (m.lay (blockKey id (n.toNat / 8)) (hexS (b.take (min (n.toNat % 8) b.length))))).setNum (keyNum ([105, 47] : Str) id ([47, 115] : Str)) n, 0)
    else ((cutL id size.toNat (130 - n.toNat / 8) (n.toNat / 8) m).setNum (keyNum ([105, 47] : Str) id ([47, 115] : Str)) n, 0)
end MS
end Go.Proofs.YtghfijncihbojaaGreatDoor

set_option linter.unusedSimpArgs false
set_option linter.unusedVariables false
set_option linter.unnecessarySimpa false
namespace Go.Proofs.YtghfijncihbojaaGreatDoor
open Go Go.RowKit
section
variable {P : Program} {n : Nat} {e : Env} {d : Option Tmp} {ty : TypeId} {pos : String} {aft : Array Edge} {gd : Option (Nat × Bool)}
theorem PO.min2 {x y : Operand} {a b c : Int} {ts : Array TypeId} (hx : rd n e x = .int .i64 a) (hy : rd n e y = .int .i64 b) (hc : min a b = c) : PO P n e ⟨d, .call ⟨.builtin .min, #[x, y], ts⟩, ty, pos, aft, gd⟩ (.int .i64 c) := fun w => by
  subst hc
  simp [execOp, resolve, invoke, builtin, hx, hy, Lib.run_min_ints]
theorem PO.max2 {x y : Operand} {a b c : Int} {ts : Array TypeId} (hx : rd n e x = .int .i64 a) (hy : rd n e y = .int .i64 b) (hc : max a b = c) : PO P n e ⟨d, .call ⟨.builtin .max, #[x, y], ts⟩, ty, pos, aft, gd⟩ (.int .i64 c) := fun w => by
  subst hc
  simp [execOp, resolve, invoke, builtin, hx, hy, Lib.run_max_ints]
theorem PO.min3 {x y z : Operand} {a b q c : Int} {ts : Array TypeId} (hx : rd n e x = .int .i64 a) (hy : rd n e y = .int .i64 b) (hz : rd n e z = .int .i64 q) (hc : min (min a b) q = c) : PO P n e ⟨d, .call ⟨.builtin .min, #[x, y, z], ts⟩, ty, pos, aft, gd⟩ (.int .i64 c) := fun w => by
  have e1 : (if b < a then b else a) = min a b := by
    rw [Int.min_def]
    split <;> split <;> omega
  have e2 : (if q < min a b then q else min a b) = min (min a b) q := by
    generalize min a b = r
    rw [Int.min_def]
    split <;> split <;> omega
  subst hc
  simp [execOp, resolve, invoke, builtin, hx, hy, hz, Builtin.min_, Builtin.min2, e1, e2]
end
attribute [local irreducible] JL JC JQ JO LO PO JA JX Ct

theorem N_block (p : Nat) (x : MA) (m : MS) {S T : Nat} (hk : m.ok S T) (hS : S ≤ 700000000) (hT : T ≤ 700000000) (id : Int) (place : Int) (hid : -9223372036854775808 ≤ id ∧ id ≤ 9223372036854775807) (hplace : -9223372036854775808 ≤ place ∧ place ≤ 9223372036854775807) :
    Ct Tryz.prog 202 [.pointer (some ⟨p, 0, none⟩), .int .i64 id, .int .i64 place] (mb p x m :: mr x m) (fun w => HexOk w) (fun v A' => ∃ x' m' r0, MS.block m id place = (m', r0) ∧ m'.ok (S) (T + 1) ∧ r0.length ≤ 20000 ∧ v = str r0 ∧ A' = mb p x' m' :: mr x' m') := by
  refine Ct.introL Tryz.func202 rfl Tryz.ntmps202 (lb rfl) fun w0 hpre hlow => ?_
  refine jD <| jF <| jA (jG (v := str []) rfl) <| jE <| jB <| jD <| jF <| jA (jC (v := pv p) rfl) <| jA (jC (v := iv id) rfl) <| jA (jC (v := iv place) rfl) ?_
  refine jH rfl (jI [] Tryz.call203 rfl (N_blockKey id place (by omega) (by omega)) rfl (fun _ _ => trivial)) ?_
  rintro _ _ ⟨_, ⟨u_3, e_1, f_4, rfl, rfl⟩, rfl⟩
  refine jH rfl (jI [0, 0, 0, 0] Tryz.call180 rfl (N_look p x m hk (by omega) (by omega) u_3) rfl (fun _ _ => trivial)) ?_
  rintro _ _ ⟨_, ⟨x_7, m_8, u_9, e_5, k_6, f_10, rfl, rfl⟩, rfl⟩
  refine jH rfl (jI [] Tryz.call220 rfl (N_unhex u_9 (by omega)) rfl (fun w hw => hw.hex hlow hpre)) ?_
  rintro _ _ ⟨_, ⟨u_13, b_15, e_11, f_14, rfl, rfl⟩, rfl⟩
  refine jA (jC (v := .tuple #[str u_13, .bool b_15]) rfl) <| jA (jS (v := str u_13) rfl rfl) <| jA (jS (v := .bool b_15) rfl rfl) <| jA (jG (v := str u_13) rfl) <| jA (jG (v := .bool b_15) rfl) <| jE <| jB <| jD <| jF <| jA (jC (v := str u_13) rfl) ?_
  refine jA (jG (v := str u_13) rfl) <| jE <| jB <| jM <| jU (.inl rfl) rfl (jN (v := str u_13) rfl) (List.Sublist.refl _) ?_
  exact ⟨x_7, m_8, u_13, (by simp only [MS.block, e_1, e_5, e_11, SB]; (repeat (first | rw [if_pos (by omega)] | rw [if_neg (by omega)])); all_goals (first | rfl | simp only [SB, e_1, e_5, e_11])), (k_6.mono (by omega) (by omega)), (by first | omega | (simp only [LE]; omega)), rfl, rfl⟩

theorem N_readFile (p : Nat) (x : MA) (m : MS) {S T : Nat} (hk : m.ok S T) (hS : S ≤ 300000000) (hT : T ≤ 300000000) (id : Int) (at_ : Int) (n : Int) (hid : -9223372036854775808 ≤ id ∧ id ≤ 9223372036854775807) (hat_ : -9223372036854775808 ≤ at_ ∧ at_ ≤ 9223372036854775807) (hn : -9223372036854775808 ≤ n ∧ n ≤ 9223372036854775807) :
    Ct Tryz.prog 172 [.pointer (some ⟨p, 0, none⟩), .int .i64 id, .int .i64 at_, .int .i64 n] (mb p x m :: mr x m) (fun w => HexOk w) (fun v A' => ∃ x' m' r0, MS.readFile m id at_ n = (m', r0) ∧ m'.ok (S) (T + 130) ∧ r0.length ≤ 1016 ∧ v = str r0 ∧ A' = mb p x' m' :: mr x' m') := by
  refine Ct.introL Tryz.func172 rfl Tryz.ntmps172 (lb rfl) fun w0 hpre hlow => ?_
  refine jD <| jF <| jA (jG (v := str []) rfl) <| jE <| jB <| jD <| jF <| jA (jC (v := pv p) rfl) <| jA (jC (v := iv id) rfl) ?_
  refine jH rfl (jI [] Tryz.call201 rfl (N_sizeKey id (by omega)) rfl (fun _ _ => trivial)) ?_
  rintro _ _ ⟨_, ⟨u_3, e_1, f_4, rfl, rfl⟩, rfl⟩
  refine jH rfl (jI [0, 0, 0, 0] Tryz.call160 rfl (N_num p x m hk (by omega) (by omega) u_3) rfl (fun _ _ => trivial)) ?_
  rintro _ _ ⟨_, ⟨x_7, m_8, n_9, e_5, k_6, f_10, rfl, rfl⟩, rfl⟩
  refine jA (jG (v := iv n_9) rfl) <| jE <| jB <| jD <| jD <| jF <| jA (jC (v := iv at_) rfl) <| jA (jr rfl rfl) <| jA (jC (v := .bool (decide (at_ < 0))) rfl) ?_
  by_cases h_11 : at_ < 0
  · refine jO (b := true) rfl rfl rfl (cB (dT h_11)) <| jO (b := true) rfl rfl rfl (cB (dT h_11)) <| jA (jw (v := .bool true) (cB (dT h_11)) rfl) <| jA (jC (v := .bool true) rfl) <| jO (b := true) rfl rfl rfl (cB rfl) <| jO (b := true) rfl rfl rfl (cB rfl) <| jO (b := true) rfl rfl rfl (cB rfl) <| jA (jw (v := .bool true) (cB rfl) rfl) <| jE <| jB ?_
    refine jQ (cB rfl) <| jD <| jF <| jA (jG (v := str []) rfl) <| jE <| jB <| jM <| jb <| jU (.inl rfl) rfl (jN (v := str []) rfl) (List.Sublist.refl _) ?_
    exact ⟨x_7, m_8, [], (by simp only [MS.readFile, Int.toNat_natCast, true_or, or_true, false_or, or_false, MS.sizeOf, e_1, e_5, h_11, SB]; (repeat (first | rw [if_pos (by omega)] | rw [if_neg (by omega)])); all_goals (first | rfl | simp only [SB, e_1, e_5, h_11])), (k_6.mono (by omega) (by omega)), (by first | omega | (simp only [LE]; omega)), rfl, rfl⟩
  obtain ⟨a, hat⟩ : ∃ a : Nat, at_ = ((a : Nat) : Int) := ⟨at_.toNat, by omega⟩
  refine jX rfl rfl rfl (cB (dF h_11)) (jZ (jd (jC (v := iv n) rfl))) ?_
  rintro _ _ ⟨rfl, rfl⟩
  refine jX rfl rfl rfl (cB (dF h_11)) (jZ (jd (jr rfl rfl))) ?_
  rintro _ _ ⟨rfl, rfl⟩
  refine jA (js (v := .bool (decide (n < 1))) (cB (dF h_11)) rfl) <| jA (jC (v := .bool (decide (n < 1))) rfl) ?_
  by_cases h_12 : n < 1
  · refine jO (b := true) rfl rfl rfl (cB (dT h_12)) <| jO (b := true) rfl rfl rfl (cB (dT h_12)) <| jO (b := true) rfl rfl rfl (cB (dT h_12)) <| jA (jw (v := .bool true) (cB (dT h_12)) rfl) <| jE <| jB <| jQ (cB rfl) <| jD <| jF <| jA (jG (v := str []) rfl) ?_
    refine jE <| jB <| jM <| jb <| jU (.inl rfl) rfl (jN (v := str []) rfl) (List.Sublist.refl _) ?_
    exact ⟨x_7, m_8, [], (by simp only [MS.readFile, Int.toNat_natCast, true_or, or_true, false_or, or_false, MS.sizeOf, e_1, e_5, h_11, hat, h_12, SB]; (repeat (first | rw [if_pos (by omega)] | rw [if_neg (by omega)])); all_goals (first | rfl | simp only [SB, e_1, e_5, h_11, hat, h_12])), (k_6.mono (by omega) (by omega)), (by first | omega | (simp only [LE]; omega)), rfl, rfl⟩
  refine jX rfl rfl rfl (cB (dF h_12)) (jZ (jd (jC (v := nv a) (congrArg (Value.int .i64) hat)))) ?_
  rintro _ _ ⟨rfl, rfl⟩
  refine jX rfl rfl rfl (cB (dF h_12)) (jZ (jd (jC (v := iv n_9) rfl))) ?_
  rintro _ _ ⟨rfl, rfl⟩
  refine jX rfl rfl rfl (cB (dF h_12)) (jZ (jd (kT rfl rfl))) ?_
  rintro _ _ ⟨rfl, rfl⟩
  refine jA (js (v := .bool (decide (n_9 ≤ ((a : Nat) : Int)))) (cB (dF h_12)) rfl) <| jE <| jB ?_
  by_cases h_13 : n_9 ≤ ((a : Nat) : Int)
  · refine jQ (cB (dT h_13)) <| jD <| jF <| jA (jG (v := str []) rfl) <| jE <| jB <| jM <| jb <| jU (.inl rfl) rfl (jN (v := str []) rfl) (List.Sublist.refl _) ?_
    exact ⟨x_7, m_8, [], (by simp only [MS.readFile, Int.toNat_natCast, true_or, or_true, false_or, or_false, MS.sizeOf, e_1, e_5, h_11, hat, h_12, h_13, SB]; (repeat (first | rw [if_pos (by omega)] | rw [if_neg (by omega)])); all_goals (first | rfl | simp only [SB, e_1, e_5, h_11, hat, h_12, h_13])), (k_6.mono (by omega) (by omega)), (by first | omega | (simp only [LE]; omega)), rfl, rfl⟩
  refine jR (cB (dF h_13)) <| jW <| jB <| jD <| jF <| jA (jC (v := nv a) (congrArg (Value.int .i64) hat)) <| jA (jC (v := iv n) rfl) <| jA (jC (v := iv n_9) rfl) <| jA (jC (v := nv a) (congrArg (Value.int .i64) hat)) <| jA (kQ (c := n_9 - ((a : Nat) : Int)) rfl rfl (wr (by omega))) ?_
  refine jA (PO.min2 (c := min n (n_9 - ((a : Nat) : Int))) rfl rfl rfl) <| jA (ji (c := ((a : Nat) : Int) + (min n (n_9 - ((a : Nat) : Int)))) rfl rfl (wr (by omega))) <| jA (jG (v := iv (((a : Nat) : Int) + (min n (n_9 - ((a : Nat) : Int))))) rfl) <| jE <| jB <| jD <| jF <| jA (jG (v := str []) rfl) <| jE <| jB ?_
  refine jD <| jD <| jF <| jA (jC (v := nv a) (congrArg (Value.int .i64) hat)) <| jA (PO.quoN (c := ((a / 8 : Nat) : Int)) rfl rfl (by omega) (by omega) (by omega) (wr (by omega))) <| jA (jG (v := iv ((a / 8 : Nat) : Int)) rfl) <| jE <| jB <| jl ?_
  obtain ⟨E, hE, hE2⟩ : ∃ E : Nat, ((a : Nat) : Int) + min n (n_9 - ((a : Nat) : Int)) = (E : Int) ∧ ((a : Nat) : Int) + (min n (n_9 - ((a : Nat) : Int))) = (E : Int) := ⟨(((a : Nat) : Int) + (min n (n_9 - ((a : Nat) : Int)))).toNat, by omega, by omega⟩
  have hE3 : a < E ∧ E ≤ 999 := by omega
  refine kE (fun k_ e_ L_ => ∃ p_ : Nat, ∃ x1 : MA, ∃ mm : MS, ∃ o_ : Str, (mm.ok (S) (T + 2 + p_)) ∧ (a / 8 ≤ p_ ∧ p_ ≤ 125) ∧ (o_.length + 8 * (a / 8) ≤ 8 * p_) ∧ (MS.readL id a E (130 - p_) p_ mm o_ = MS.readL id a E (130 - a / 8) (a / 8) m_8 []) ∧ e_ 0 = pv p ∧ e_ 1 = iv id ∧ e_ 2 = nv a ∧ e_ 8 = str [] ∧ e_ 10 = nv E ∧ e_ 11 = str o_ ∧ e_ 12 = nv p_ ∧ L_ = [mb p x1 mm, rC x1.a0 x1.c0 mm.s, rS x1.a1 x1.c1 mm.r, rS x1.a2 x1.c2 mm.w] ∧ k_ = 126 - p_) _ ⟨(a / 8), x_7, m_8, [], (k_6.mono (by omega) (by omega)), (by omega), (by simp only [List.length_nil]; omega), rfl, rfl, rfl, (congrArg (Value.int .i64) hat), rfl, (congrArg (Value.int .i64) hE2), rfl, rfl, rfl, rfl⟩ ?_
  rintro _ e_14 _ ⟨p_, x1, mm, o_, hkmm, hp0, ho, hR, he_15, he_16, he_17, he_18, he_19, he_20, he_21, rfl, rfl⟩
  refine jD <| jD <| jF <| jA (jC (v := nv p_) he_21) <| jA (PO.mul (c := ((p_ * 8 : Nat) : Int)) rfl rfl (wr (by omega))) <| jA (jC (v := nv E) he_19) <| jA (jr rfl rfl) <| jE <| jB ?_
  by_cases h_22 : ((p_ * 8 : Nat) : Int) < ((E : Nat) : Int)
  · refine jQ (cB (dT h_22)) <| jW <| jB <| jD <| jl <| jD <| jF <| jA (jC (v := pv p) he_15) <| jA (jC (v := iv id) he_16) <| jA (jC (v := nv p_) he_21) ?_
    refine jH rfl (jI [0, 0, 0, 0] Tryz.call202 rfl (N_block p x1 mm hkmm (by omega) (by omega) id ((p_ : Nat) : Int) (by omega) (by omega)) rfl (fun w hw => hw.hex hlow hpre)) ?_
    rintro _ _ ⟨_, ⟨x_25, m_26, u_27, e_23, k_24, f_28, rfl, rfl⟩, rfl⟩
    refine jA (jG (v := str u_27) rfl) <| jE <| jB <| jD <| jF <| jA (jC (v := nv a) he_17) <| jA (jC (v := nv p_) he_21) <| jA (PO.mul (c := ((p_ * 8 : Nat) : Int)) rfl rfl (wr (by omega))) <| jA (kQ (c := ((a : Nat) : Int) - ((p_ * 8 : Nat) : Int)) rfl rfl (wr (by omega))) <| jA (PO.max2 (c := ((a - p_ * 8 : Nat) : Int)) rfl rfl (by omega)) ?_
    refine jA (jG (v := iv ((a - p_ * 8 : Nat) : Int)) rfl) <| jE <| jB <| jD <| jF <| jA (jC (v := nv E) he_19) <| jA (jC (v := nv p_) he_21) <| jA (PO.mul (c := ((p_ * 8 : Nat) : Int)) rfl rfl (wr (by omega))) <| jA (kQ (c := ((E : Nat) : Int) - ((p_ * 8 : Nat) : Int)) rfl rfl (wr (by omega))) <| jA (jC (v := str u_27) rfl) ?_
    refine jA (kM kf rfl) <| jA (PO.min3 (c := ((min (min (E - p_ * 8) 8) u_27.length : Nat) : Int)) rfl rfl rfl (by omega)) <| jA (jG (v := iv ((min (min (E - p_ * 8) 8) u_27.length : Nat) : Int)) rfl) <| jE <| jB <| jD <| jF <| jA (jC (v := iv ((a - p_ * 8 : Nat) : Int)) rfl) <| jA (jC (v := iv ((min (min (E - p_ * 8) 8) u_27.length : Nat) : Int)) rfl) <| jA (jr rfl rfl) ?_
    refine jE <| jB ?_
    by_cases h_29 : ((a - p_ * 8 : Nat) : Int) < ((min (min (E - p_ * 8) 8) u_27.length : Nat) : Int)
    · have hp : piece u_27 (a - p_ * 8) (min (min (E - p_ * 8) 8) u_27.length) = (u_27.drop (a - p_ * 8)).take ((min (min (E - p_ * 8) 8) u_27.length) - (a - p_ * 8)) := rfl
      refine jQ (cB (dT h_29)) <| jF <| jA (jC (v := str o_) he_20) <| jA (jC (v := str u_27) rfl) <| jA (jC (v := iv ((a - p_ * 8 : Nat) : Int)) rfl) <| jA (jC (v := iv ((min (min (E - p_ * 8) 8) u_27.length : Nat) : Int)) rfl) <| jA (PO.sliceS (i := (a - p_ * 8)) (j := (min (min (E - p_ * 8) 8) u_27.length)) kf rfl rfl rfl (by omega) (by omega)) <| jA (kS rfl rfl (by (try simp only [List.length_append, List.length_cons, List.length_nil, List.length_drop, List.length_take]); omega)) <| jA (jG (v := str (o_ ++ ((u_27.drop (a - p_ * 8)).take ((min (min (E - p_ * 8) 8) u_27.length) - (a - p_ * 8))))) rfl) <| jE ?_
      refine jk <| jB <| jF <| jA (jC (v := nv p_) he_21) <| jA (ji (c := ((p_ + 1 : Nat) : Int)) rfl rfl (wr (by omega))) <| jA (jG (v := iv ((p_ + 1 : Nat) : Int)) rfl) <| jE <| jt [0, 0, 0, 0] (A := [mb p x_25 m_26, rC x_25.a0 x_25.c0 m_26.s, rS x_25.a1 x_25.c1 m_26.r, rS x_25.a2 x_25.c2 m_26.w]) rfl ?_
      refine ju (126 - (p_ + 1)) (by omega) ⟨(p_ + 1), x_25, m_26, (o_ ++ ((u_27.drop (a - p_ * 8)).take ((min (min (E - p_ * 8) 8) u_27.length) - (a - p_ * 8)))), (k_24.mono (by omega) (by omega)), (by omega), (by first | omega | (simp only [List.length_append, List.length_take, List.length_drop]; omega)), (by rw [show 130 - p_ = (130 - (p_ + 1)) + 1 by omega, MS.readL, if_pos (by omega)] at hR; simp only [e_1, e_5, e_23, hp, List.append_nil] at hR; exact hR), he_15, he_16, he_17, he_18, he_19, rfl, rfl, rfl, rfl⟩
    have hp : piece u_27 (a - p_ * 8) (min (min (E - p_ * 8) 8) u_27.length) = [] := piece_nil (by omega)
    refine jR (cB (dF h_29)) <| jW <| jk <| jB <| jF <| jA (jC (v := nv p_) he_21) <| jA (ji (c := ((p_ + 1 : Nat) : Int)) rfl rfl (wr (by omega))) <| jA (jG (v := iv ((p_ + 1 : Nat) : Int)) rfl) <| jE <| jt [0, 0, 0, 0] (A := [mb p x_25 m_26, rC x_25.a0 x_25.c0 m_26.s, rS x_25.a1 x_25.c1 m_26.r, rS x_25.a2 x_25.c2 m_26.w]) rfl ?_
    refine ju (126 - (p_ + 1)) (by omega) ⟨(p_ + 1), x_25, m_26, o_, (k_24.mono (by omega) (by omega)), (by omega), (by first | omega | (simp only [List.length_append, List.length_take, List.length_drop]; omega)), (by rw [show 130 - p_ = (130 - (p_ + 1)) + 1 by omega, MS.readL, if_pos (by omega)] at hR; simp only [e_1, e_5, e_23, hp, List.append_nil] at hR; exact hR), he_15, he_16, he_17, he_18, he_19, he_20, rfl, rfl, rfl⟩
  rw [MS.readL_stop (by omega)] at hR
  have hRE := hR.symm
  refine jR (cB (dF h_22)) <| kB <| jm <| jm <| kC <| jB <| jD <| jF <| jA (jC (v := str o_) he_20) <| jA (jG (v := str o_) rfl) ?_
  refine jE <| jB <| jM <| jU (.inl rfl) rfl (jN (v := str o_) rfl) (List.Sublist.refl _) ?_
  exact ⟨x1, mm, o_, (by simp only [MS.readFile, Int.toNat_natCast, true_or, or_true, false_or, or_false, MS.sizeOf, e_1, e_5, h_11, hat, h_12, h_13, hE, h_22, hRE, SB]; (repeat (first | rw [if_pos (by omega)] | rw [if_neg (by omega)])); all_goals (first | rfl | simp only [SB, e_1, e_5, h_11, hat, h_12, h_13, hE, h_22, hRE])), (hkmm.mono (by omega) (by omega)), (by first | omega | (simp only [LE]; omega)), rfl, rfl⟩

theorem N_writeFile (p : Nat) (x : MA) (m : MS) {S T : Nat} (hk : m.ok S T) (hS : S ≤ 300000000) (hT : T ≤ 300000000) (id : Int) (at_ : Int) (text : Str) (hid : -9223372036854775808 ≤ id ∧ id ≤ 9223372036854775807) (hat_ : -9223372036854775808 ≤ at_ ∧ at_ ≤ 9223372036854775807) (htext : text.length ≤ 1000000000000) :
    Ct Tryz.prog 173 [.pointer (some ⟨p, 0, none⟩), .int .i64 id, .int .i64 at_, str text] (mb p x m :: mr x m) (fun w => HexOk w) (fun v A' => ∃ x' m' r0, MS.writeFile m id at_ text = (m', r0) ∧ m'.ok (S + 12) (T + 30) ∧ (0 ≤ r0 ∧ r0 ≤ 9) ∧ v = .int .i64 r0 ∧ A' = mb p x' m' :: mr x' m') := by
  refine Ct.introL Tryz.func173 rfl Tryz.ntmps173 (lb rfl) fun w0 hpre hlow => ?_
  refine jD <| jF <| jA (jG (v := iv 0) rfl) <| jE <| jB <| jD <| jF <| jA (jC (v := pv p) rfl) <| jA (jC (v := iv id) rfl) ?_
  refine jH rfl (jI [] Tryz.call201 rfl (N_sizeKey id (by omega)) rfl (fun _ _ => trivial)) ?_
  rintro _ _ ⟨_, ⟨u_3, e_1, f_4, rfl, rfl⟩, rfl⟩
  refine jH rfl (jI [0, 0, 0, 0] Tryz.call160 rfl (N_num p x m hk (by omega) (by omega) u_3) rfl (fun _ _ => trivial)) ?_
  rintro _ _ ⟨_, ⟨x_7, m_8, n_9, e_5, k_6, f_10, rfl, rfl⟩, rfl⟩
  refine jA (jG (v := iv n_9) rfl) <| jE <| jB <| jD <| jD <| jF <| jA (jC (v := iv at_) rfl) <| jA (jC (v := iv n_9) rfl) ?_
  refine jH rfl (jI [] Tryz.call35 rfl (C_within at_ 0 n_9) rfl (fun _ _ => trivial)) ?_
  rintro _ _ ⟨_, ⟨rfl, rfl⟩, rfl⟩
  refine jA (kF rfl) <| jA (jC (v := .bool (!(decide (0 ≤ at_) && decide (at_ ≤ n_9)))) rfl) ?_
  rcases Bool.eq_false_or_eq_true (decide (0 ≤ at_) && decide (at_ ≤ n_9)) with h_11 | h_11
  · have h_11d := h_11
    simp only [Bool.and_eq_true, Bool.and_eq_false_iff, decide_eq_true_eq, decide_eq_false_iff_not] at h_11d
    obtain ⟨a, hat⟩ : ∃ a : Nat, at_ = ((a : Nat) : Int) := ⟨at_.toNat, by omega⟩
    refine jX rfl rfl rfl (cB (cN h_11)) (jZ (jd (jC (v := str text) rfl))) ?_
    rintro _ _ ⟨rfl, rfl⟩
    refine jX rfl rfl rfl (cB (cN h_11)) (jZ (jd (PO.eqlS rfl rfl))) ?_
    rintro _ _ ⟨rfl, rfl⟩
    refine jA (js (v := .bool (decide (text = []))) (cB (cN h_11)) rfl) <| jE <| jB ?_
    by_cases h_12 : text = []
    · have h_12l : text.length = 0 := by rw [h_12]; rfl
      refine jQ (cB (dT h_12)) <| jD <| jF <| jA (jG (v := iv 4) rfl) <| jE <| jB <| jM <| jb <| jU (.inl rfl) rfl (jN (v := iv 4) rfl) (List.Sublist.refl _) ?_
      exact ⟨x_7, m_8, 4, (by simp only [MS.writeFile, List.length_nil, Int.toNat_natCast, true_or, or_true, false_or, or_false, MS.sizeOf, e_1, e_5, h_11, hat, h_12, SB]; (repeat (first | rw [if_pos (by omega)] | rw [if_neg (by omega)])); all_goals (first | rfl | simp only [SB, e_1, e_5, h_11, hat, h_12])), (k_6.mono (by omega) (by omega)), (by first | omega | (simp only [LE]; omega)), rfl, rfl⟩
    have h_12l := List.length_pos_iff.2 h_12
    refine jR (cB (dF h_12)) <| jW <| jB <| jD <| jF <| jA (jC (v := nv a) (congrArg (Value.int .i64) hat)) <| jA (jC (v := str text) rfl) <| jA (kM kf rfl) <| jA (ji (c := ((a + text.length : Nat) : Int)) rfl rfl (wr (by omega))) <| jA (jG (v := iv ((a + text.length : Nat) : Int)) rfl) ?_
    refine jE <| jB <| jD <| jD <| jF <| jA (jC (v := iv ((a + text.length : Nat) : Int)) rfl) <| jA (kU rfl rfl) <| jE <| jB ?_
    by_cases h_13 : 64 < ((a + text.length : Nat) : Int)
    · refine jQ (cB (dT h_13)) <| jD <| jF <| jA (jG (v := iv 3) rfl) <| jE <| jB <| jM <| jb <| jU (.inl rfl) rfl (jN (v := iv 3) rfl) (List.Sublist.refl _) ?_
      exact ⟨x_7, m_8, 3, (by simp only [MS.writeFile, List.length_nil, Int.toNat_natCast, true_or, or_true, false_or, or_false, MS.sizeOf, e_1, e_5, h_11, hat, h_12, h_13, SB]; (repeat (first | rw [if_pos (by omega)] | rw [if_neg (by omega)])); all_goals (first | rfl | simp only [SB, e_1, e_5, h_11, hat, h_12, h_13])), (k_6.mono (by omega) (by omega)), (by first | omega | (simp only [LE]; omega)), rfl, rfl⟩
    refine jR (cB (dF h_13)) <| jW <| jB <| jD <| jD <| jF <| jA (jC (v := nv a) (congrArg (Value.int .i64) hat)) <| jA (PO.quoN (c := ((a / 8 : Nat) : Int)) rfl rfl (by omega) (by omega) (by omega) (wr (by omega))) <| jA (jG (v := iv ((a / 8 : Nat) : Int)) rfl) <| jE ?_
    refine jB <| jl <| kE (fun k_ e_ L_ => ∃ p_ : Nat, ∃ x1 : MA, ∃ mm : MS, (mm.ok (S + p_) (T + 2 + 2 * p_)) ∧ (a / 8 ≤ p_ ∧ p_ ≤ 9) ∧ (MS.writeL id text a (a + text.length) (130 - p_) p_ mm = MS.writeL id text a (a + text.length) (130 - a / 8) (a / 8) m_8) ∧ e_ 0 = pv p ∧ e_ 1 = iv id ∧ e_ 2 = nv a ∧ e_ 3 = str text ∧ e_ 8 = iv 0 ∧ e_ 9 = iv n_9 ∧ e_ 10 = iv ((a + text.length : Nat) : Int) ∧ e_ 11 = nv p_ ∧ L_ = [mb p x1 mm, rC x1.a0 x1.c0 mm.s, rS x1.a1 x1.c1 mm.r, rS x1.a2 x1.c2 mm.w] ∧ k_ = 70 - p_) _ ⟨(a / 8), x_7, m_8, (k_6.mono (by omega) (by omega)), (by omega), rfl, rfl, rfl, (congrArg (Value.int .i64) hat), rfl, rfl, rfl, rfl, rfl, rfl, rfl⟩ ?_
    rintro _ e_14 _ ⟨p_, x1, mm, hkmm, hp0, hR, he_15, he_16, he_17, he_18, he_19, he_20, he_21, he_22, rfl, rfl⟩
    refine jD <| jD <| jF <| jA (jC (v := nv p_) he_22) <| jA (PO.mul (c := ((p_ * 8 : Nat) : Int)) rfl rfl (wr (by omega))) <| jA (jC (v := iv ((a + text.length : Nat) : Int)) he_21) <| jA (jr rfl rfl) <| jE <| jB ?_
    by_cases h_23 : ((p_ * 8 : Nat) : Int) < ((a + text.length : Nat) : Int)
    · refine jQ (cB (dT h_23)) <| jW <| jB <| jD <| jl <| jD <| jF <| jA (jC (v := pv p) he_15) <| jA (jC (v := iv id) he_16) <| jA (jC (v := nv p_) he_22) ?_
      refine jH rfl (jI [0, 0, 0, 0] Tryz.call202 rfl (N_block p x1 mm hkmm (by omega) (by omega) id ((p_ : Nat) : Int) (by omega) (by omega)) rfl (fun w hw => hw.hex hlow hpre)) ?_
      rintro _ _ ⟨_, ⟨x_26, m_27, u_28, e_24, k_25, f_29, rfl, rfl⟩, rfl⟩
      refine jH rfl (JO.toBytes kf ks kx rfl (by unfold maxLen; omega)) ?_
      rintro _ _ ⟨a_30, c_31, rfl, rfl⟩
      refine jA (jG (v := .slice a_30 u_28.length c_31) rfl) <| jE <| jB <| jD <| jF <| jA (jC (v := nv p_) he_22) <| jA (PO.mul (c := ((p_ * 8 : Nat) : Int)) rfl rfl (wr (by omega))) <| jA (jG (v := iv ((p_ * 8 : Nat) : Int)) rfl) <| jE <| jB ?_
      refine jD <| jD <| jF <| jA (jC (v := nv a) he_17) <| jA (jC (v := iv ((p_ * 8 : Nat) : Int)) rfl) <| jA (PO.max2 (c := ((max a (p_ * 8) : Nat) : Int)) rfl rfl (by omega)) <| jA (jG (v := iv ((max a (p_ * 8) : Nat) : Int)) rfl) <| jE <| jB <| jl ?_
      refine kE (fun k_ e_ L_ => ∃ j_ : Nat, ∃ bba : Option Addr, ∃ bbc : Nat, ∃ bbn : Nat, ∃ bb : Str, (bb.length = bbn) ∧ (max a (p_ * 8) ≤ j_ ∧ j_ ≤ min (a + text.length) (p_ * 8 + 8)) ∧ (bb = overTo text a (p_ * 8) u_28 (j_ - max a (p_ * 8))) ∧ (bb.length ≤ 20008) ∧ e_ 0 = pv p ∧ e_ 1 = iv id ∧ e_ 2 = nv a ∧ e_ 3 = str text ∧ e_ 8 = iv 0 ∧ e_ 9 = iv n_9 ∧ e_ 10 = iv ((a + text.length : Nat) : Int) ∧ e_ 11 = nv p_ ∧ e_ 12 = .slice bba bbn bbc ∧ e_ 13 = iv ((p_ * 8 : Nat) : Int) ∧ e_ 14 = nv j_ ∧ L_ = [Res.row (.slice bba bbn bbc) 5 1 bbn (bb.map encB), mb p x_26 m_27, rC x_26.a0 x_26.c0 m_27.s, rS x_26.a1 x_26.c1 m_27.r, rS x_26.a2 x_26.c2 m_27.w] ∧ k_ = 100 - j_) _ ⟨(max a (p_ * 8)), a_30, c_31, u_28.length, u_28, (by first | rfl | omega | (simp only [List.length_append, List.length_cons, List.length_nil, List.length_set]; omega) | simp), (by omega), (by rw [Nat.sub_self]; rfl), (by omega), he_15, he_16, he_17, he_18, he_19, he_20, he_21, he_22, rfl, rfl, rfl, rfl, rfl⟩ ?_
      rintro _ e_32 _ ⟨j_, bba, bbc, bbn, bb, hbbn, hj, hb, hbl, he_33, he_34, he_35, he_36, he_37, he_38, he_39, he_40, he_41, he_42, he_43, rfl, rfl⟩
      refine jD <| jD <| jF <| jA (jC (v := nv j_) he_43) <| jA (jC (v := iv ((a + text.length : Nat) : Int)) he_39) <| jA (jC (v := iv ((p_ * 8 : Nat) : Int)) he_42) <| jA (ji (c := (((p_ * 8) + 8 : Nat) : Int)) rfl rfl (wr (by omega))) <| jA (PO.min2 (c := ((min (a + text.length) (p_ * 8 + 8) : Nat) : Int)) rfl rfl (by omega)) <| jA (jr rfl rfl) <| jE ?_
      refine jB ?_
      by_cases h_44 : ((j_ : Nat) : Int) < ((min (a + text.length) (p_ * 8 + 8) : Nat) : Int)
      · refine jQ (cB (dT h_44)) <| jW <| jB <| jD <| jl <| jD <| jl <| kE (fun k_ e_ L_ => ∃ g_ : Nat, ∃ cca : Option Addr, ∃ ccc : Nat, ∃ ccn : Nat, ∃ cc : Str, (cc.length = ccn) ∧ (cc ++ List.replicate (j_ - p_ * 8 + 1 - cc.length) 0 = bb ++ List.replicate (j_ - p_ * 8 + 1 - bb.length) 0) ∧ (cc.length = bb.length + g_) ∧ e_ 0 = pv p ∧ e_ 1 = iv id ∧ e_ 2 = nv a ∧ e_ 3 = str text ∧ e_ 8 = iv 0 ∧ e_ 9 = iv n_9 ∧ e_ 10 = iv ((a + text.length : Nat) : Int) ∧ e_ 11 = nv p_ ∧ e_ 12 = .slice cca ccn ccc ∧ e_ 13 = iv ((p_ * 8 : Nat) : Int) ∧ e_ 14 = nv j_ ∧ L_ = [Res.row (.slice cca ccn ccc) 5 1 ccn (cc.map encB), mb p x_26 m_27, rC x_26.a0 x_26.c0 m_27.s, rS x_26.a1 x_26.c1 m_27.r, rS x_26.a2 x_26.c2 m_27.w] ∧ k_ = 21000 - g_) _ ⟨0, bba, bbc, bbn, bb, (by first | rfl | omega | (simp only [List.length_append, List.length_cons, List.length_nil, List.length_set]; omega) | simp), rfl, (by omega), he_33, he_34, he_35, he_36, he_37, he_38, he_39, he_40, he_41, he_42, he_43, rfl, rfl⟩ ?_
        rintro _ e_45 _ ⟨g_, cca, ccc, ccn, cc, hccn, hc, hcl, he_46, he_47, he_48, he_49, he_50, he_51, he_52, he_53, he_54, he_55, he_56, rfl, rfl⟩
        refine jD <| jD <| jF <| jA (jC (v := .slice cca ccn ccc) he_54) <| jA (jy ks rfl) <| jA (jC (v := nv j_) he_56) <| jA (jC (v := iv ((p_ * 8 : Nat) : Int)) he_55) <| jA (kQ (c := ((j_ - (p_ * 8) : Nat) : Int)) rfl rfl (wr (by omega))) <| jA (PO.leq rfl rfl) <| jE ?_
        refine jB ?_
        by_cases h_57 : ((ccn : Nat) : Int) ≤ ((j_ - (p_ * 8) : Nat) : Int)
        · refine jQ (cB (dT h_57)) <| jW <| jB <| jl <| jF <| jA (jC (v := .slice cca ccn ccc) he_54) ?_
          refine jH rfl (kH (ps := [(0, .int .u8 0)]) (cur := #[.int .u8 0]) ks gI gO rfl (by kernel_rfl) (by decide) (by decide)) ?_
          rintro _ _ ⟨a_58, rfl, rfl⟩
          refine jH rfl (kG 1 (q := 1) (news := ([0] : List UInt8).map encB) (n' := (cc ++ ([0] : List UInt8)).length) (cs' := (cc ++ ([0] : List UInt8)).map encB) rfl ks ks Tryz.typeInfo5 rfl (by' := 1) rfl rfl rfl rfl rfl (fun w hw => Src.sees (hw.see (i := 0) rfl) (oneB _)) (by (try simp only [LE]); omega) (by (try simp only [LE]); omega) (by simp only [List.length_append, List.length_take, List.length_drop, List.length_cons, List.length_nil] <;> first | rfl | omega) (by simp only [List.map_append])) ?_
          rintro _ _ ⟨a_59, c_60, rfl, rfl⟩
          refine jA (jG (v := .slice a_59 ((cc ++ ([0] : List UInt8)).length) c_60) rfl) <| jE <| jk <| jt [1, 1, 1, 1, 1] (A := [Res.row (.slice a_59 ((cc ++ ([0] : List UInt8)).length) c_60) 5 1 ((cc ++ ([0] : List UInt8)).length) ((cc ++ ([0] : List UInt8)).map encB), mb p x_26 m_27, rC x_26.a0 x_26.c0 m_27.s, rS x_26.a1 x_26.c1 m_27.r, rS x_26.a2 x_26.c2 m_27.w]) rfl ?_
          refine ju (21000 - (g_ + 1)) (by omega) ⟨(g_ + 1), a_59, c_60, ((cc ++ ([0] : List UInt8)).length), (cc ++ ([0] : List UInt8)), (by first | rfl | omega | (simp only [List.length_append, List.length_cons, List.length_nil, List.length_set]; omega) | simp), (by rw [List.length_append, ← hc]; exact pad_step (by omega)), (by simp only [List.length_append, List.length_cons, List.length_nil]; omega), he_46, he_47, he_48, he_49, he_50, he_51, he_52, he_53, rfl, he_55, he_56, rfl, rfl⟩
        have hcd : cc = bb ++ List.replicate (j_ - p_ * 8 + 1 - bb.length) 0 := by rw [← hc, show j_ - p_ * 8 + 1 - cc.length = 0 by omega]; simp
        refine jR (cB (dF h_57)) <| kB <| jm <| jm <| kC <| jB <| jF <| jA (jC (v := .slice cca ccn ccc) he_54) <| jA (jC (v := nv j_) he_56) <| jA (jC (v := iv ((p_ * 8 : Nat) : Int)) he_55) ?_
        refine jA (kQ (c := ((j_ - (p_ * 8) : Nat) : Int)) rfl rfl (wr (by omega))) <| jA (jC (v := str text) he_49) <| jA (jC (v := nv j_) he_56) <| jA (jC (v := nv a) he_48) <| jA (kQ (c := ((j_ - a : Nat) : Int)) rfl rfl (wr (by omega))) <| jA (kY (i := j_ - a) (c := text.getD (j_ - a) 0) kf rfl rfl (getD_some (by omega))) ?_
        have hu_61 := UInt8.toNat_lt (text.getD (j_ - a) 0)
        refine kW fun hst => ?_
        obtain ⟨hr_62, hr_62b, -⟩ := row_some 0 rfl (by omega) hst
        refine jA (kD (i := (j_ - (p_ * 8))) ks gI hr_62 hr_62b rfl rfl (by omega)) ?_
        refine jH rfl (JO.storeR 0 (vs := [.int .u8 ((text.getD (j_ - a) 0).toNat : Int)]) (cs' := (cc.set (j_ - (p_ * 8)) (text.getD (j_ - a) 0)).map encB) rfl rfl rfl rfl gI rfl rfl (by decide) (by rw [List.length_map]; omega) (setB (by omega))) ?_
        rintro _ _ rfl
        refine jE <| jk <| jB <| jF <| jA (jC (v := nv j_) he_56) <| jA (ji (c := ((j_ + 1 : Nat) : Int)) rfl rfl (wr (by omega))) <| jA (jG (v := iv ((j_ + 1 : Nat) : Int)) rfl) <| jE <| jt [0, 0, 0, 0, 0] (A := [Res.row (.slice cca ccn ccc) 5 1 ccn ((cc.set (j_ - (p_ * 8)) (text.getD (j_ - a) 0)).map encB), mb p x_26 m_27, rC x_26.a0 x_26.c0 m_27.s, rS x_26.a1 x_26.c1 m_27.r, rS x_26.a2 x_26.c2 m_27.w]) rfl ?_
        refine ju (100 - (j_ + 1)) (by omega) ⟨(j_ + 1), cca, ccc, ccn, (cc.set (j_ - (p_ * 8)) (text.getD (j_ - a) 0)), (by first | rfl | omega | (simp only [List.length_append, List.length_cons, List.length_nil, List.length_set]; omega) | simp), (by omega), (overTo_step (by omega) hb hcd), (by have hl_ := congrArg List.length hcd; simp only [List.length_append, List.length_replicate] at hl_; simp only [List.length_set]; omega), he_46, he_47, he_48, he_49, he_50, he_51, he_52, he_53, he_54, he_55, rfl, rfl, rfl⟩
      have hb2 : overTo text a (p_ * 8) u_28 (min (a + text.length) (p_ * 8 + 8) - max a (p_ * 8)) = bb := by rw [hb, show j_ - max a (p_ * 8) = min (a + text.length) (p_ * 8 + 8) - max a (p_ * 8) by omega]
      refine jR (cB (dF h_44)) <| kB <| jm <| jm <| kC <| jB <| jq [] 1000 mixed (by simp) <| jJ 0 rfl (jC (v := pv p) he_33) <| jJ 1 rfl (jC (v := iv id) he_34) <| jJ 2 rfl (jC (v := nv p_) he_40) ?_
      refine jJ 4 rfl (jC (v := .slice bba bbn bbc) he_41) ?_
      refine kL (i := 3) (j := 5) (by kernel_rfl) ?_ ?_
      · refine jP rfl rfl (jI [] Tryz.call203 rfl (N_blockKey id ((p_ : Nat) : Int) (by omega) (by omega)) rfl (fun _ _ => trivial)) ?_
        rintro _ _ ⟨_, ⟨u_73, e_71, f_74, rfl, rfl⟩, rfl⟩
        refine ⟨(fun _ h => by cases h), ?_⟩
        refine jK (i := 5) ?_
        refine jP rfl rfl (jZ (LO.toStr 0 bb rfl ks kx kf rfl rfl)) ?_
        rintro _ _ ⟨rfl, rfl⟩
        refine ⟨(fun _ h => by cases h), ?_⟩
        refine jK (i := 6) ?_
        refine jP rfl rfl (jI [] Tryz.call177 rfl (N_hexOf bb (by omega)) rfl (fun _ _ => trivial)) ?_
        rintro _ _ ⟨_, ⟨u_81, e_79, f_82, rfl, rfl⟩, rfl⟩
        refine ⟨(fun _ h => by cases h), ?_⟩
        refine jK (i := 7) ?_
        refine jP rfl rfl (jI [1, 1, 1, 1] Tryz.call168 rfl (N_lay p x_26 m_27 k_25 (by omega) (by omega) u_73 u_81 (by omega)) rfl (fun _ _ => trivial)) ?_
        rintro _ _ ⟨_, ⟨x_89, m_90, e_87, k_88, rfl, rfl⟩, rfl⟩
        refine ⟨(fun _ h => by cases h), ?_⟩
        refine kI (by kernel_rfl) <| jk <| jB <| jF <| jA (jC (v := nv p_) he_40) <| jA (ji (c := ((p_ + 1 : Nat) : Int)) rfl rfl (wr (by omega))) <| jA (jG (v := iv ((p_ + 1 : Nat) : Int)) rfl) <| jE <| jt [0, 0, 0, 0] (A := [mb p x_89 m_90, rC x_89.a0 x_89.c0 m_90.s, rS x_89.a1 x_89.c1 m_90.r, rS x_89.a2 x_89.c2 m_90.w]) rfl ?_
        refine ju (70 - (p_ + 1)) (by omega) ⟨(p_ + 1), x_89, m_90, (k_88.mono (by omega) (by omega)), (by omega), (by rw [show 130 - p_ = (130 - (p_ + 1)) + 1 by omega, MS.writeL, if_pos (by omega)] at hR; simp only [MS.blockKey, e_1, e_5, e_24, e_71, e_79, e_87, hb2] at hR; exact hR), he_33, he_34, he_35, he_36, he_37, he_38, he_39, rfl, rfl, rfl⟩
      refine jP rfl rfl (jZ (LO.toStr 0 bb rfl ks kx kf rfl rfl)) ?_
      rintro _ _ ⟨rfl, rfl⟩
      refine ⟨(fun _ h => by cases h), ?_⟩
      refine jK (i := 3) ?_
      refine jP rfl rfl (jI [] Tryz.call203 rfl (N_blockKey id ((p_ : Nat) : Int) (by omega) (by omega)) rfl (fun _ _ => trivial)) ?_
      rintro _ _ ⟨_, ⟨u_97, e_95, f_98, rfl, rfl⟩, rfl⟩
      refine ⟨(fun _ h => by cases h), ?_⟩
      refine jK (i := 6) ?_
      refine jP rfl rfl (jI [] Tryz.call177 rfl (N_hexOf bb (by omega)) rfl (fun _ _ => trivial)) ?_
      rintro _ _ ⟨_, ⟨u_105, e_103, f_106, rfl, rfl⟩, rfl⟩
      refine ⟨(fun _ h => by cases h), ?_⟩
      refine jK (i := 7) ?_
      refine jP rfl rfl (jI [1, 1, 1, 1] Tryz.call168 rfl (N_lay p x_26 m_27 k_25 (by omega) (by omega) u_97 u_105 (by omega)) rfl (fun _ _ => trivial)) ?_
      rintro _ _ ⟨_, ⟨x_113, m_114, e_111, k_112, rfl, rfl⟩, rfl⟩
      refine ⟨(fun _ h => by cases h), ?_⟩
      refine kI (by kernel_rfl) <| jk <| jB <| jF <| jA (jC (v := nv p_) he_40) <| jA (ji (c := ((p_ + 1 : Nat) : Int)) rfl rfl (wr (by omega))) <| jA (jG (v := iv ((p_ + 1 : Nat) : Int)) rfl) <| jE <| jt [0, 0, 0, 0] (A := [mb p x_113 m_114, rC x_113.a0 x_113.c0 m_114.s, rS x_113.a1 x_113.c1 m_114.r, rS x_113.a2 x_113.c2 m_114.w]) rfl ?_
      refine ju (70 - (p_ + 1)) (by omega) ⟨(p_ + 1), x_113, m_114, (k_112.mono (by omega) (by omega)), (by omega), (by rw [show 130 - p_ = (130 - (p_ + 1)) + 1 by omega, MS.writeL, if_pos (by omega)] at hR; simp only [MS.blockKey, e_1, e_5, e_24, e_95, e_103, e_111, hb2] at hR; exact hR), he_33, he_34, he_35, he_36, he_37, he_38, he_39, rfl, rfl, rfl⟩
    rw [MS.writeL_stop (by omega)] at hR
    have hRE := hR.symm
    refine jR (cB (dF h_23)) <| kB <| jm <| jm <| kC <| jB <| jD <| jD <| jF <| jA (jC (v := iv ((a + text.length : Nat) : Int)) he_21) ?_
    refine jA (jC (v := iv n_9) he_20) <| jA (kU rfl rfl) <| jE <| jB ?_
    by_cases h_115 : n_9 < ((a + text.length : Nat) : Int)
    · refine jQ (cB (dT h_115)) <| jF <| jA (jC (v := pv p) he_15) <| jA (jC (v := iv id) he_16) ?_
      refine jH rfl (jI [] Tryz.call201 rfl (N_sizeKey id (by omega)) rfl (fun _ _ => trivial)) ?_
      rintro _ _ ⟨_, ⟨u_118, e_116, f_119, rfl, rfl⟩, rfl⟩
      have hqe_116 := e_1.symm.trans e_116
      subst hqe_116
      refine jA (jC (v := iv ((a + text.length : Nat) : Int)) he_21) ?_
      refine jH rfl (jI [0, 0, 0, 0] Tryz.call165 rfl (N_setNum p x1 mm hkmm (by omega) (by omega) u_3 ((a + text.length : Nat) : Int) (by omega) (by omega)) rfl (fun _ _ => trivial)) ?_
      rintro _ _ ⟨_, ⟨x_122, m_123, e_120, k_121, rfl, rfl⟩, rfl⟩
      refine jE <| jB <| jD <| jF <| jA (jG (v := iv 0) rfl) <| jE <| jB <| jM <| jU (.inl rfl) rfl (jN (v := iv 0) rfl) (List.Sublist.refl _) ?_
      exact ⟨x_122, m_123, 0, (by simp only [MS.writeFile, List.length_nil, Int.toNat_natCast, true_or, or_true, false_or, or_false, MS.sizeOf, e_1, e_5, h_11, hat, h_12, h_13, h_23, hRE, h_115, e_120, SB]; (repeat (first | rw [if_pos (by omega)] | rw [if_neg (by omega)])); all_goals (first | rfl | simp only [SB, e_1, e_5, h_11, hat, h_12, h_13, h_23, hRE, h_115, e_120])), (k_121.mono (by omega) (by omega)), (by first | omega | (simp only [LE]; omega)), rfl, rfl⟩
    refine jR (cB (dF h_115)) <| jW <| jB <| jD <| jF <| jA (jG (v := iv 0) rfl) <| jE <| jB <| jM <| jU (.inl rfl) rfl (jN (v := iv 0) rfl) (List.Sublist.refl _) ?_
    exact ⟨x1, mm, 0, (by simp only [MS.writeFile, List.length_nil, Int.toNat_natCast, true_or, or_true, false_or, or_false, MS.sizeOf, e_1, e_5, h_11, hat, h_12, h_13, h_23, hRE, h_115, SB]; (repeat (first | rw [if_pos (by omega)] | rw [if_neg (by omega)])); all_goals (first | rfl | simp only [SB, e_1, e_5, h_11, hat, h_12, h_13, h_23, hRE, h_115])), (hkmm.mono (by omega) (by omega)), (by first | omega | (simp only [LE]; omega)), rfl, rfl⟩
  have h_11d := h_11
  simp only [Bool.and_eq_true, Bool.and_eq_false_iff, decide_eq_true_eq, decide_eq_false_iff_not] at h_11d
  refine jO (b := true) rfl rfl rfl (cB (cN h_11)) <| jO (b := true) rfl rfl rfl (cB (cN h_11)) <| jA (jw (v := .bool true) (cB (cN h_11)) rfl) <| jE <| jB <| jQ (cB rfl) <| jD <| jF <| jA (jG (v := iv 4) rfl) <| jE ?_
  refine jB <| jM <| jb <| jU (.inl rfl) rfl (jN (v := iv 4) rfl) (List.Sublist.refl _) ?_
  exact ⟨x_7, m_8, 4, (by simp only [MS.writeFile, List.length_nil, Int.toNat_natCast, true_or, or_true, false_or, or_false, MS.sizeOf, e_1, e_5, h_11, SB]; (repeat (first | rw [if_pos (by omega)] | rw [if_neg (by omega)])); all_goals (first | rfl | simp only [SB, e_1, e_5, h_11])), (k_6.mono (by omega) (by omega)), (by first | omega | (simp only [LE]; omega)), rfl, rfl⟩

theorem N_cutFile (p : Nat) (x : MA) (m : MS) {S T : Nat} (hk : m.ok S T) (hS : S ≤ 300000000) (hT : T ≤ 300000000) (id : Int) (n : Int) (hid : -9223372036854775808 ≤ id ∧ id ≤ 9223372036854775807) (hn : -9223372036854775808 ≤ n ∧ n ≤ 9223372036854775807) :
    Ct Tryz.prog 174 [.pointer (some ⟨p, 0, none⟩), .int .i64 id, .int .i64 n] (mb p x m :: mr x m) (fun w => HexOk w) (fun v A' => ∃ x' m' r0, MS.cutFile m id n = (m', r0) ∧ m'.ok (S + 3) (T + 140) ∧ (0 ≤ r0 ∧ r0 ≤ 9) ∧ v = .int .i64 r0 ∧ A' = mb p x' m' :: mr x' m') := by
  refine Ct.introL Tryz.func174 rfl Tryz.ntmps174 (lb rfl) fun w0 hpre hlow => ?_
  refine jD <| jF <| jA (jG (v := iv 0) rfl) <| jE <| jB <| jD <| jF <| jA (jC (v := pv p) rfl) <| jA (jC (v := iv id) rfl) ?_
  refine jH rfl (jI [] Tryz.call201 rfl (N_sizeKey id (by omega)) rfl (fun _ _ => trivial)) ?_
  rintro _ _ ⟨_, ⟨u_3, e_1, f_4, rfl, rfl⟩, rfl⟩
  refine jH rfl (jI [0, 0, 0, 0] Tryz.call160 rfl (N_num p x m hk (by omega) (by omega) u_3) rfl (fun _ _ => trivial)) ?_
  rintro _ _ ⟨_, ⟨x_7, m_8, n_9, e_5, k_6, f_10, rfl, rfl⟩, rfl⟩
  refine jA (jG (v := iv n_9) rfl) <| jE <| jB <| jD <| jD <| jF <| jA (jC (v := iv n) rfl) <| jA (jC (v := iv n_9) rfl) ?_
  refine jH rfl (jI [] Tryz.call35 rfl (C_within n 0 n_9) rfl (fun _ _ => trivial)) ?_
  rintro _ _ ⟨_, ⟨rfl, rfl⟩, rfl⟩
  refine jA (kF rfl) <| jE <| jB ?_
  rcases Bool.eq_false_or_eq_true (decide (0 ≤ n) && decide (n ≤ n_9)) with h_11 | h_11
  · have h_11d := h_11
    simp only [Bool.and_eq_true, Bool.and_eq_false_iff, decide_eq_true_eq, decide_eq_false_iff_not] at h_11d
    obtain ⟨a, hat⟩ : ∃ a : Nat, n = ((a : Nat) : Int) := ⟨n.toNat, by omega⟩
    obtain ⟨Z, hZ⟩ : ∃ Z : Nat, n_9 = ((Z : Nat) : Int) := ⟨n_9.toNat, by omega⟩
    refine jR (cB (cN h_11)) <| jW <| jB <| jD <| jF <| jA (jC (v := nv a) (congrArg (Value.int .i64) hat)) <| jA (PO.quoN (c := ((a / 8 : Nat) : Int)) rfl rfl (by omega) (by omega) (by omega) (wr (by omega))) <| jA (jG (v := iv ((a / 8 : Nat) : Int)) rfl) <| jE <| jB ?_
    refine jD <| jD <| jF <| jA (jC (v := nv a) (congrArg (Value.int .i64) hat)) <| jA (PO.remN (c := ((a % 8 : Nat) : Int)) rfl rfl (by omega) (by omega) (by omega)) <| jA (kU rfl rfl) <| jE <| jB ?_
    by_cases h_12 : 0 < ((a % 8 : Nat) : Int)
    · refine jQ (cB (dT h_12)) <| jD <| jF <| jA (jC (v := pv p) rfl) <| jA (jC (v := iv id) rfl) <| jA (jC (v := iv ((a / 8 : Nat) : Int)) rfl) ?_
      refine jH rfl (jI [0, 0, 0, 0] Tryz.call202 rfl (N_block p x_7 m_8 k_6 (by omega) (by omega) id ((a / 8 : Nat) : Int) (by omega) (by omega)) rfl (fun w hw => hw.hex hlow hpre)) ?_
      rintro _ _ ⟨_, ⟨x_15, m_16, u_17, e_13, k_14, f_18, rfl, rfl⟩, rfl⟩
      refine jA (jG (v := str u_17) rfl) <| jE <| jB <| jD <| jq [] 11 mixed (by simp) <| jJ 0 rfl (jC (v := pv p) rfl) <| jJ 1 rfl (jC (v := iv id) rfl) <| jJ 2 rfl (jC (v := iv ((a / 8 : Nat) : Int)) rfl) <| jJ 4 rfl (jC (v := str u_17) rfl) <| jJ 5 rfl (jC (v := nv a) (congrArg (Value.int .i64) hat)) ?_
      refine jJ 6 rfl (PO.remN (c := ((a % 8 : Nat) : Int)) rfl rfl (by omega) (by omega) (by omega)) <| jJ 7 rfl (jC (v := str u_17) rfl) <| jJ 8 rfl (kM kf rfl) <| jJ 9 rfl (PO.min2 (c := ((min (a % 8) u_17.length : Nat) : Int)) rfl rfl (by omega)) <| jJ 10 rfl (PO.sliceSh (j := (min (a % 8) u_17.length)) kf rfl rfl (by omega)) <| jK (i := 3) ?_
      refine jP rfl rfl (jI [] Tryz.call203 rfl (N_blockKey id ((a / 8 : Nat) : Int) (by omega) (by omega)) rfl (fun _ _ => trivial)) ?_
      rintro _ _ ⟨_, ⟨u_53, e_51, f_54, rfl, rfl⟩, rfl⟩
      refine ⟨(fun _ h => by cases h), ?_⟩
      refine jK (i := 11) ?_
      refine jp rfl (jI [] Tryz.call177 rfl (N_hexOf (u_17.take (min (a % 8) u_17.length)) (by first | omega | (simp only [LE]; omega))) rfl (fun _ _ => trivial)) ?_
      rintro _ _ ⟨_, ⟨u_61, e_59, f_62, rfl, rfl⟩, rfl⟩
      refine jK (i := 12) ?_
      refine jo rfl (jI [0, 0, 0, 0] Tryz.call168 rfl (N_lay p x_15 m_16 k_14 (by omega) (by omega) u_53 u_61 (by omega)) rfl (fun _ _ => trivial)) ?_
      rintro _ _ ⟨_, ⟨x_69, m_70, e_67, k_68, rfl, rfl⟩, rfl⟩
      refine jB <| jF <| jA (jC (v := iv ((a / 8 : Nat) : Int)) rfl) <| jA (ji (c := (((a / 8) + 1 : Nat) : Int)) rfl rfl (wr (by omega))) <| jA (jG (v := iv (((a / 8) + 1 : Nat) : Int)) rfl) <| jE <| jB <| jD <| jl <| kE (fun k_ e_ L_ => ∃ p_ : Nat, ∃ x1 : MA, ∃ mm : MS, (mm.ok (S + 1) (T + 4 + p_)) ∧ (p_ ≤ 126) ∧ (MS.cutL id Z (130 - p_) p_ mm = MS.cutL id Z (130 - ((a / 8) + 1)) ((a / 8) + 1) m_70) ∧ e_ 0 = pv p ∧ e_ 1 = iv id ∧ e_ 2 = nv a ∧ e_ 6 = iv 0 ∧ e_ 7 = nv Z ∧ e_ 8 = nv p_ ∧ L_ = [mb p x1 mm, rC x1.a0 x1.c0 mm.s, rS x1.a1 x1.c1 mm.r, rS x1.a2 x1.c2 mm.w] ∧ k_ = 130 - p_) _ ⟨((a / 8) + 1), x_69, m_70, (k_68.mono (by omega) (by omega)), (by omega), rfl, rfl, rfl, (congrArg (Value.int .i64) hat), rfl, (congrArg (Value.int .i64) hZ), rfl, rfl, rfl⟩ ?_
      rintro _ e_71 _ ⟨p_, x1, mm, hkmm, hp0, hR, he_72, he_73, he_74, he_75, he_76, he_77, rfl, rfl⟩
      refine jD <| jD <| jF <| jA (jC (v := nv p_) he_77) <| jA (PO.mul (c := ((p_ * 8 : Nat) : Int)) rfl rfl (wr (by omega))) <| jA (jC (v := nv Z) he_76) <| jA (jr rfl rfl) <| jE <| jB ?_
      by_cases h_78 : ((p_ * 8 : Nat) : Int) < ((Z : Nat) : Int)
      · refine jQ (cB (dT h_78)) <| jW <| jB <| jD <| jl <| jF <| jA (jC (v := pv p) he_72) <| jA (jC (v := iv id) he_73) <| jA (jC (v := nv p_) he_77) ?_
        refine jH rfl (jI [] Tryz.call203 rfl (N_blockKey id ((p_ : Nat) : Int) (by omega) (by omega)) rfl (fun _ _ => trivial)) ?_
        rintro _ _ ⟨_, ⟨u_81, e_79, f_82, rfl, rfl⟩, rfl⟩
        refine jH rfl (jI [0, 0, 0, 0] Tryz.call168 rfl (N_layNil p x1 mm hkmm (by omega) (by omega) u_81 (by omega)) rfl (fun _ _ => trivial)) ?_
        rintro _ _ ⟨_, ⟨x_85, m_86, e_83, k_84, rfl, rfl⟩, rfl⟩
        refine jE <| jk <| jB <| jF <| jA (jC (v := nv p_) he_77) <| jA (ji (c := ((p_ + 1 : Nat) : Int)) rfl rfl (wr (by omega))) <| jA (jG (v := iv ((p_ + 1 : Nat) : Int)) rfl) <| jE <| jt [0, 0, 0, 0] (A := [mb p x_85 m_86, rC x_85.a0 x_85.c0 m_86.s, rS x_85.a1 x_85.c1 m_86.r, rS x_85.a2 x_85.c2 m_86.w]) rfl ?_
        refine ju (130 - (p_ + 1)) (by omega) ⟨(p_ + 1), x_85, m_86, (k_84.mono (by omega) (by omega)), (by omega), (by rw [show 130 - p_ = (130 - (p_ + 1)) + 1 by omega, MS.cutL, if_pos (by omega)] at hR; simp only [MS.blockKey, e_1, e_5, e_13, e_51, e_59, e_67, e_79, e_83] at hR; exact hR), he_72, he_73, he_74, he_75, he_76, rfl, rfl, rfl⟩
      rw [MS.cutL_stop (by omega)] at hR
      have hRE := hR.symm
      refine jR (cB (dF h_78)) <| kB <| jm <| jm <| kC <| jB <| jD <| jF <| jA (jC (v := pv p) he_72) <| jA (jC (v := iv id) he_73) ?_
      refine jH rfl (jI [] Tryz.call201 rfl (N_sizeKey id (by omega)) rfl (fun _ _ => trivial)) ?_
      rintro _ _ ⟨_, ⟨u_89, e_87, f_90, rfl, rfl⟩, rfl⟩
      have hqe_87 := e_1.symm.trans e_87
      subst hqe_87
      refine jA (jC (v := nv a) he_74) ?_
      refine jH rfl (jI [0, 0, 0, 0] Tryz.call165 rfl (N_setNum p x1 mm hkmm (by omega) (by omega) u_3 ((a : Nat) : Int) (by omega) (by omega)) rfl (fun _ _ => trivial)) ?_
      rintro _ _ ⟨_, ⟨x_93, m_94, e_91, k_92, rfl, rfl⟩, rfl⟩
      refine jE <| jB <| jD <| jF <| jA (jG (v := iv 0) rfl) <| jE <| jB <| jM <| jU (.inl rfl) rfl (jN (v := iv 0) rfl) (List.Sublist.refl _) ?_
      exact ⟨x_93, m_94, 0, (by simp only [MS.cutFile, Int.toNat_natCast, true_or, or_true, false_or, or_false, MS.blockKey, MS.sizeOf, e_1, e_5, h_11, hat, hZ, h_12, e_13, e_51, e_59, e_67, h_78, hRE, e_91, SB]; (repeat (first | rw [if_pos (by omega)] | rw [if_neg (by omega)])); all_goals (first | rfl | simp only [SB, e_1, e_5, h_11, hat, hZ, h_12, e_13, e_51, e_59, e_67, h_78, hRE, e_91])), (k_92.mono (by omega) (by omega)), (by first | omega | (simp only [LE]; omega)), rfl, rfl⟩
    refine jR (cB (dF h_12)) <| jW <| jB <| jD <| jl <| kE (fun k_ e_ L_ => ∃ p_ : Nat, ∃ x1 : MA, ∃ mm : MS, (mm.ok (S + 1) (T + 4 + p_)) ∧ (p_ ≤ 126) ∧ (MS.cutL id Z (130 - p_) p_ mm = MS.cutL id Z (130 - (a / 8)) (a / 8) m_8) ∧ e_ 0 = pv p ∧ e_ 1 = iv id ∧ e_ 2 = nv a ∧ e_ 6 = iv 0 ∧ e_ 7 = nv Z ∧ e_ 8 = nv p_ ∧ L_ = [mb p x1 mm, rC x1.a0 x1.c0 mm.s, rS x1.a1 x1.c1 mm.r, rS x1.a2 x1.c2 mm.w] ∧ k_ = 130 - p_) _ ⟨(a / 8), x_7, m_8, (k_6.mono (by omega) (by omega)), (by omega), rfl, rfl, rfl, (congrArg (Value.int .i64) hat), rfl, (congrArg (Value.int .i64) hZ), rfl, rfl, rfl⟩ ?_
    rintro _ e_95 _ ⟨p_, x1, mm, hkmm, hp0, hR, he_96, he_97, he_98, he_99, he_100, he_101, rfl, rfl⟩
    refine jD <| jD <| jF <| jA (jC (v := nv p_) he_101) <| jA (PO.mul (c := ((p_ * 8 : Nat) : Int)) rfl rfl (wr (by omega))) <| jA (jC (v := nv Z) he_100) <| jA (jr rfl rfl) <| jE <| jB ?_
    by_cases h_102 : ((p_ * 8 : Nat) : Int) < ((Z : Nat) : Int)
    · refine jQ (cB (dT h_102)) <| jW <| jB <| jD <| jl <| jF <| jA (jC (v := pv p) he_96) <| jA (jC (v := iv id) he_97) <| jA (jC (v := nv p_) he_101) ?_
      refine jH rfl (jI [] Tryz.call203 rfl (N_blockKey id ((p_ : Nat) : Int) (by omega) (by omega)) rfl (fun _ _ => trivial)) ?_
      rintro _ _ ⟨_, ⟨u_105, e_103, f_106, rfl, rfl⟩, rfl⟩
      refine jH rfl (jI [0, 0, 0, 0] Tryz.call168 rfl (N_layNil p x1 mm hkmm (by omega) (by omega) u_105 (by omega)) rfl (fun _ _ => trivial)) ?_
      rintro _ _ ⟨_, ⟨x_109, m_110, e_107, k_108, rfl, rfl⟩, rfl⟩
      refine jE <| jk <| jB <| jF <| jA (jC (v := nv p_) he_101) <| jA (ji (c := ((p_ + 1 : Nat) : Int)) rfl rfl (wr (by omega))) <| jA (jG (v := iv ((p_ + 1 : Nat) : Int)) rfl) <| jE <| jt [0, 0, 0, 0] (A := [mb p x_109 m_110, rC x_109.a0 x_109.c0 m_110.s, rS x_109.a1 x_109.c1 m_110.r, rS x_109.a2 x_109.c2 m_110.w]) rfl ?_
      refine ju (130 - (p_ + 1)) (by omega) ⟨(p_ + 1), x_109, m_110, (k_108.mono (by omega) (by omega)), (by omega), (by rw [show 130 - p_ = (130 - (p_ + 1)) + 1 by omega, MS.cutL, if_pos (by omega)] at hR; simp only [MS.blockKey, e_1, e_5, e_103, e_107] at hR; exact hR), he_96, he_97, he_98, he_99, he_100, rfl, rfl, rfl⟩
    rw [MS.cutL_stop (by omega)] at hR
    have hRE := hR.symm
    refine jR (cB (dF h_102)) <| kB <| jm <| jm <| kC <| jB <| jD <| jF <| jA (jC (v := pv p) he_96) <| jA (jC (v := iv id) he_97) ?_
    refine jH rfl (jI [] Tryz.call201 rfl (N_sizeKey id (by omega)) rfl (fun _ _ => trivial)) ?_
    rintro _ _ ⟨_, ⟨u_113, e_111, f_114, rfl, rfl⟩, rfl⟩
    have hqe_111 := e_1.symm.trans e_111
    subst hqe_111
    refine jA (jC (v := nv a) he_98) ?_
    refine jH rfl (jI [0, 0, 0, 0] Tryz.call165 rfl (N_setNum p x1 mm hkmm (by omega) (by omega) u_3 ((a : Nat) : Int) (by omega) (by omega)) rfl (fun _ _ => trivial)) ?_
    rintro _ _ ⟨_, ⟨x_117, m_118, e_115, k_116, rfl, rfl⟩, rfl⟩
    refine jE <| jB <| jD <| jF <| jA (jG (v := iv 0) rfl) <| jE <| jB <| jM <| jU (.inl rfl) rfl (jN (v := iv 0) rfl) (List.Sublist.refl _) ?_
    exact ⟨x_117, m_118, 0, (by simp only [MS.cutFile, Int.toNat_natCast, true_or, or_true, false_or, or_false, MS.blockKey, MS.sizeOf, e_1, e_5, h_11, hat, hZ, h_12, h_102, hRE, e_115, SB]; (repeat (first | rw [if_pos (by omega)] | rw [if_neg (by omega)])); all_goals (first | rfl | simp only [SB, e_1, e_5, h_11, hat, hZ, h_12, h_102, hRE, e_115])), (k_116.mono (by omega) (by omega)), (by first | omega | (simp only [LE]; omega)), rfl, rfl⟩
  have h_11d := h_11
  simp only [Bool.and_eq_true, Bool.and_eq_false_iff, decide_eq_true_eq, decide_eq_false_iff_not] at h_11d
  refine jQ (cB (cN h_11)) <| jD <| jF <| jA (jG (v := iv 4) rfl) <| jE <| jB <| jM <| jb <| jU (.inl rfl) rfl (jN (v := iv 4) rfl) (List.Sublist.refl _) ?_
  exact ⟨x_7, m_8, 4, (by simp only [MS.cutFile, Int.toNat_natCast, true_or, or_true, false_or, or_false, MS.blockKey, MS.sizeOf, e_1, e_5, h_11, SB]; (repeat (first | rw [if_pos (by omega)] | rw [if_neg (by omega)])); all_goals (first | rfl | simp only [SB, e_1, e_5, h_11])), (k_6.mono (by omega) (by omega)), (by first | omega | (simp only [LE]; omega)), rfl, rfl⟩

end Go.Proofs.YtghfijncihbojaaGreatDoor

set_option linter.unusedSimpArgs false
set_option linter.unusedVariables false
set_option linter.unnecessarySimpa false
namespace Go.Proofs.YtghfijncihbojaaGreatDoor
open Go Go.RowKit
attribute [local irreducible] JL JC JQ JO LO PO JA JX Ct

theorem D_dPlaces (pa : Option Addr) (pc : Nat) (p : Str) (hp : p.length ≤ 1048576)  :
    Ct Tryz.prog 7 [.slice pa p.length pc] [] (fun w => Sees w (.slice pa p.length pc) 1 p.length (p.map encB)) (fun v A' => ∃ r0a r0c r0, (r0.length = 12 ∧ ∀ x ∈ r0, 0 ≤ x ∧ x ≤ 9999) ∧ v = .slice r0a r0.length r0c ∧ A' = [rI r0a r0c r0]) := by
  refine Ct.intro Tryz.func7 rfl Tryz.ntmps7 (lb rfl) fun w0 hpre => ?_
  have hs_pa : Sees w0 _ _ _ _ := hpre
  refine jD <| jF <| jA (jG (v := .slice none 0 0) rfl) <| jE <| jB <| jD <| jF <| jA (jC (v := .slice pa p.length pc) rfl) ?_
  refine jH rfl (jI [] Tryz.call27 rfl (D_new pa pc p (by omega)) rfl (fun w hw => hw.seeOut_ hs_pa nM)) ?_
  rintro _ _ ⟨_, ⟨c_1, qs_2, -, rfl, rfl⟩, rfl⟩
  refine jA (jG (v := .pointer (some ⟨c_1, 0, none⟩)) rfl) <| jE <| jB <| jD <| jF ?_
  refine jH rfl (kH (ps := []) (cur := #[]) kv ko Tryz.zeroValue3 rfl (by kernel_rfl) (by decide) (by decide)) ?_
  rintro _ _ ⟨a_4, rfl, rfl⟩
  refine jA (jG (v := .slice a_4 0 0) rfl) <| jE <| jB <| jD <| jD <| jF <| jA (jG (v := iv 0) rfl) <| jE <| jB <| jl ?_
  refine kE (fun k_ e_ L_ => ∃ i_ : Nat, ∃ p_q : Nat, ∃ s_q : Int, ∃ o_a : Option Addr, ∃ o_c : Nat, ∃ o_ : List Int, (p_q ≤ p.length) ∧ (i_ ≤ 12) ∧ (o_.length = i_) ∧ (∀ x ∈ o_, 0 ≤ x ∧ x ≤ 9999) ∧ e_ 2 = .slice none 0 0 ∧ e_ 3 = .pointer (some ⟨c_1, 0, none⟩) ∧ e_ 4 = .slice o_a o_.length o_c ∧ e_ 5 = nv i_ ∧ L_ = [rI o_a o_c o_, cb c_1 pa pc p p_q s_q] ∧ k_ = 13 - i_) _ ⟨0, 0, qs_2, a_4, 0, ([] : List Int), (by omega), (by omega), (by rfl), (by simp), rfl, rfl, rfl, rfl, rfl, rfl⟩ ?_
  rintro _ e_5 _ ⟨i_, p_q, s_q, o_a, o_c, o_, hpq_, hi, hol, ho, he_6, he_7, he_8, he_9, rfl, rfl⟩
  refine jD <| jD <| jF <| jA (jC (v := nv i_) he_9) <| jA (jr rfl rfl) <| jE <| jB ?_
  by_cases h_10 : ((i_ : Nat) : Int) < 12
  · refine jQ (cB (dT h_10)) <| jW <| jB <| jD <| jl <| jF <| jA (jC (v := .slice o_a o_.length o_c) he_8) <| jA (jC (v := .pointer (some ⟨c_1, 0, none⟩)) he_7) ?_
    refine jH rfl (jI [1] Tryz.call28 rfl (D_below c_1 pa pc p p_q s_q (by omega) (by omega) 10000 (by omega)) rfl (fun w hw => ⟨hw.seeOut_ hs_pa nM, hw.apart hs_pa nM (by simp)⟩)) ?_
    rintro _ _ ⟨_, ⟨qp_11, qs_12, n_14, fq_13, f_15, rfl, rfl⟩, rfl⟩
    refine jH rfl (kH (ps := [(0, nv n_14)]) (cur := #[nv n_14]) kv ko Tryz.zeroValue3 rfl (by kernel_rfl) (by decide) (by decide)) ?_
    rintro _ _ ⟨a_17, rfl, rfl⟩
    refine jH rfl (kG 2 (q := 1) (news := ([((n_14 : Nat) : Int)] : List Int).map (Value.int .i64)) (n' := (o_ ++ ([((n_14 : Nat) : Int)] : List Int)).length) (cs' := (o_ ++ ([((n_14 : Nat) : Int)] : List Int)).map (Value.int .i64)) rfl kv kv Tryz.typeInfo3 rfl (by' := 8) rfl rfl rfl rfl rfl (fun w hw => Src.sees (hw.see (i := 0) rfl) (oneI _)) (by (try simp only [LE]); omega) (by (try simp only [LE]); omega) (by simp only [List.length_append, List.length_take, List.length_drop, List.length_cons, List.length_nil] <;> first | rfl | omega) (by simp only [List.map_append])) ?_
    rintro _ _ ⟨a_18, c_19, rfl, rfl⟩
    refine jA (jG (v := .slice a_18 ((o_ ++ ([((n_14 : Nat) : Int)] : List Int)).length) c_19) rfl) <| jE <| jk <| jB <| jF <| jA (jC (v := nv i_) he_9) <| jA (ji (c := ((i_ + 1 : Nat) : Int)) rfl rfl (wr (by omega))) <| jA (jG (v := iv ((i_ + 1 : Nat) : Int)) rfl) <| jE <| jt [2, 1] (A := [rI a_18 c_19 (o_ ++ ([((n_14 : Nat) : Int)] : List Int)), cb c_1 pa pc p qp_11 qs_12]) rfl ?_
    refine ju (13 - (i_ + 1)) (by omega) ⟨(i_ + 1), qp_11, qs_12, a_18, c_19, (o_ ++ ([((n_14 : Nat) : Int)] : List Int)), (by omega), (by omega), (by first | omega | (simp only [List.length_append, List.length_cons, List.length_nil, List.length_set]; omega)), (fun x hx => by rcases List.mem_append.1 hx with hx | hx; exact ho x hx; simp only [List.mem_cons, List.not_mem_nil, or_false] at hx; subst hx; omega), he_6, he_7, rfl, rfl, rfl, rfl⟩
  refine jR (cB (dF h_10)) <| kB <| jm <| jm <| kC <| jB <| jD <| jF <| jA (jC (v := .slice o_a o_.length o_c) he_8) <| jA (jG (v := .slice o_a o_.length o_c) rfl) ?_
  refine jE <| jB <| jM <| jU (.inl rfl) rfl (jN (v := .slice o_a o_.length o_c) rfl) (tS 1 _) ?_
  exact ⟨o_a, o_c, o_, ⟨by omega, by assumption⟩, rfl, rfl⟩

end Go.Proofs.YtghfijncihbojaaGreatDoor

set_option linter.unusedSimpArgs false
set_option linter.unusedVariables false
set_option linter.unnecessarySimpa false
namespace Go.Proofs.YtghfijncihbojaaGreatDoor
open Go Go.RowKit

/-- A call; what it is answered. -/
structure CL where
  kind : Int
  name : Str
  to_ : Str
  a : Int
  b : Int
  text : Str
structure AN where
  code : Int
  n : Int
  text : Str
structure CL.ok (c : CL) (B : Nat) : Prop where
  h1 : -9223372036854775808 ≤ c.kind ∧ c.kind ≤ 9223372036854775807
  h2 : -9223372036854775808 ≤ c.a ∧ c.a ≤ 9223372036854775807
  h3 : -9223372036854775808 ≤ c.b ∧ c.b ≤ 9223372036854775807
  h4 : c.name.length ≤ B
  h5 : c.to_.length ≤ B
  h6 : c.text.length ≤ B
def bro (x : Int) (y : Nat) : Nat := min x.toNat y
theorem bro_le (x : Int) (y : Nat) : bro x y ≤ y := Nat.min_le_right _ _
end Go.Proofs.YtghfijncihbojaaGreatDoor

set_option linter.unusedSimpArgs false
set_option linter.unusedVariables false
set_option linter.unnecessarySimpa false
namespace Go.Proofs.YtghfijncihbojaaGreatDoor
open Go Go.RowKit

def callOk (c : CL) : Bool := decide ((1 ≤ c.kind ∧ c.kind ≤ 22) ∧ (c.name.length : Int) ≤ 20 ∧ (c.to_.length : Int) ≤ 20 ∧ (c.text.length : Int) ≤ 64)
theorem callOk_range {c : CL} (h : callOk c = true) : (1 ≤ c.kind ∧ c.kind ≤ 22) ∧ (c.name.length : Int) ≤ 20 ∧ (c.to_.length : Int) ≤ 20 ∧ (c.text.length : Int) ≤ 64 := of_decide_eq_true h
def joinL : List Str → Str → Str
  | [], out => out
  | x :: l, out => joinL l (out ++ (x ++ [32]))
def joinD : List Int → Str → Str
  | [], out => out
  | x :: l, out => joinD l (out ++ (dec x ++ [32]))
theorem dropAcc_ok {n k : Nat} : ∀ (l out : List Str), okL n k out → (∀ x ∈ l, x.length ≤ 1048576) → out.length + l.length ≤ n → k = 0 → okL n k (dropAcc 2 l out)
  | [], out, h, _, _, _ => h
  | x :: l, out, h, hx, hn, hk => by
    unfold dropAcc
    refine dropAcc_ok l _ ⟨by simp only [List.length_append, List.length_cons, List.length_nil] at *; omega, fun j hj => ?_⟩ (fun y hy => hx y (List.mem_cons_of_mem _ hy)) (by simp only [List.length_append, List.length_cons, List.length_nil] at *; omega) hk
    subst hk
    refine ⟨Nat.zero_le _, ?_⟩
    by_cases hjo : j < out.length
    · rw [List.getD_eq_getElem?_getD, List.getElem?_append_left hjo, ← List.getD_eq_getElem?_getD]
      exact (h.2 j hjo).2
    · simp only [List.length_append, List.length_cons, List.length_nil] at hj
      rw [show j = out.length by omega, List.getD_eq_getElem?_getD, List.getElem?_append_right (Nat.le_refl _), Nat.sub_self]
      have := hx x (List.mem_cons_self ..)
      simp only [List.getElem?_cons_zero, Option.getD_some, List.length_drop]
      omega
theorem names_ok {S T : Nat} {m m' : MS} {l : List Str} (h : m.ok S T) (e : m.names = (m', l)) : okL S 0 l := by
  unfold MS.names at e
  rcases hu : m.under ([110, 47] : Str) with ⟨m1, k⟩
  rw [hu] at e
  simp only [Prod.mk.injEq] at e
  obtain ⟨rfl, rfl⟩ := e
  have hk : k = keysUnder m.s ([110, 47] : Str) := (congrArg Prod.snd hu).symm
  have h1 := keysUnder_ok h ([110, 47] : Str)
  rw [← hk] at h1
  refine dropAcc_ok k [] ⟨by simp, fun j hj => by simp at hj⟩ (fun x hx => ?_) (by simpa using h1.1) rfl
  obtain ⟨j, hj, rfl⟩ := List.getElem_of_mem hx
  have := (h1.2 j hj).2
  rwa [List.getD_eq_getElem?_getD, List.getElem?_eq_getElem hj] at this
theorem kidsL_ok {parent : Int} : ∀ (l : List Str) (m m' : MS) (out r : List Int), (∀ x ∈ out, 0 ≤ x ∧ x ≤ 999) → MS.kidsL parent l m out = (m', r) → ∀ x ∈ r, 0 ≤ x ∧ x ≤ 999
  | [], m, m', out, r, h, e => by
    simp only [MS.kidsL, Prod.mk.injEq] at e
    rw [← e.2]; exact h
  | k :: l, m, m', out, r, h, e => by
    unfold MS.kidsL at e
    split at e
    · rcases hn : m.num k with ⟨m1, n⟩
      rw [hn] at e
      simp only at e
      split at e
      · refine kidsL_ok l _ _ _ _ (fun x hx => ?_) e
        rcases List.mem_append.1 hx with hx | hx
        · exact h x hx
        · simp only [List.mem_cons, List.not_mem_nil, or_false] at hx
          rw [hx]; exact numOf_lo _
      · exact kidsL_ok l _ _ _ _ h e
    · exact kidsL_ok l _ _ _ _ h e
theorem kids_ok {m m' : MS} {parent : Int} {l : List Int} (e : m.kids parent = (m', l)) : ∀ x ∈ l, 0 ≤ x ∧ x ≤ 999 := by
  unfold MS.kids at e
  rcases hu : m.under ([114, 47] : Str) with ⟨m1, k⟩
  rw [hu] at e
  exact kidsL_ok k m1 m' [] l (by simp) e
namespace MS
def doFile (m : MS) (c : CL) : MS × AN :=
  match m.fileOf c.name with
  | (m, id) => if id = 0 then (m, ⟨2, 0, []⟩) else
    if c.kind = 6 then match m.readFile id c.a c.b with | (m, t) => (m, ⟨0, 0, t⟩) else
    if c.kind = 7 then match m.writeFile id c.a c.text with | (m, k) => (m, ⟨k, 0, []⟩) else
    match m.cutFile id c.a with | (m, k) => (m, ⟨k, 0, []⟩)
def doNames (m : MS) : MS × AN := match m.names with | (m, l) => (m, ⟨0, 0, joinL l []⟩)
def doProc (m : MS) (proc : Int) (c : CL) : MS × AN :=
  if c.kind = 12 then match m.spawn proc with | (m, id, k) => (if k = 0 then (m.forkPages proc id, ⟨k, id, []⟩) else (m, ⟨k, id, []⟩)) else
  if c.kind = 13 then match m.endProc proc c.a with | (m, k) => (if k = 0 then (m.dropPages proc, ⟨k, 0, []⟩) else (m, ⟨k, 0, []⟩)) else
  if c.kind = 14 then match m.reap proc c.a with | (m, n, k) => (m, ⟨k, n, []⟩) else
  match m.kids proc with | (m, l) => (m, ⟨0, 0, joinD l []⟩)
def doKind (m : MS) (proc : Int) (c : CL) : MS × AN :=
  if c.kind = 1 then match m.makeName c.name with | (m, n, k) => (m, ⟨k, n, []⟩) else
  if c.kind = 2 then match m.linkName c.name c.to_ with | (m, k) => (m, ⟨k, 0, []⟩) else
  if c.kind = 3 then match m.unlinkName c.name with | (m, k) => (m, ⟨k, 0, []⟩) else
  if c.kind = 4 then match m.renameName c.name c.to_ with | (m, k) => (m, ⟨k, 0, []⟩) else
  if c.kind = 5 then m.doNames else
  if c.kind = 6 then m.doFile c else
  if c.kind = 7 then m.doFile c else
  if c.kind = 8 then m.doFile c else
  if c.kind = 9 then match m.makePipe with | (m, n, k) => (m, ⟨k, n, []⟩) else
  if c.kind = 10 then match m.putPipe c.a c.text with | (m, k) => (m, ⟨k, 0, []⟩) else
  if c.kind = 11 then match m.takePipe c.a with | (m, t, k) => (m, ⟨k, 0, t⟩) else
  if c.kind = 16 then match m.send c.a c.b with | (m, k) => (m, ⟨k, 0, []⟩) else
  if c.kind = 17 then match m.takeSignal proc with | (m, n, k) => (m, ⟨k, n, []⟩) else
  if c.kind = 18 then match m.setTimer proc c.a with | (m, k) => (m, ⟨k, 0, []⟩) else
  if c.kind = 19 then match m.tick c.a with | (m, n, k) => (m, ⟨k, n, []⟩) else
  if c.kind = 20 then match m.storePage proc c.a c.text with | (m, k) => (m, ⟨k, 0, []⟩) else
  if c.kind = 21 then match m.loadPage proc c.a with | (m, t, k) => (m, ⟨k, 0, t⟩) else
  if c.kind = 22 then match m.putOut c.text with | (m, k) => (m, ⟨k, 0, []⟩) else
  m.doProc proc c
def doCall (m : MS) (proc : Int) (c : CL) : MS × AN :=
  match m.state proc with
  | (m, s) => if s = 1 then (if callOk c = true then m.doKind proc c else (m, ⟨4, 0, []⟩)) else (m, ⟨2, 0, []⟩)
end MS
end Go.Proofs.YtghfijncihbojaaGreatDoor
