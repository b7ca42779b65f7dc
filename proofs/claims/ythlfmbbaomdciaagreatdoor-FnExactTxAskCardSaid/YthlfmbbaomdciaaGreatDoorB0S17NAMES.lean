/-
Texts of the walk, joined: what each one proves stands at its theorems.
-/
import Derived.Test.YthlfmbbaomdciaaGreatDoorB0S14MACH
set_option linter.unusedSimpArgs false
set_option linter.unusedVariables false
set_option linter.unnecessarySimpa false
set_option maxHeartbeats 4000000
set_option maxRecDepth 4000
namespace Go.Proofs.YthlfmbbaomdciaaGreatDoor
open Go Go.RowKit
attribute [local irreducible] JL JC JQ JO LO PO JA JX Ct
theorem N_fileOf (p : Nat) (x : MA) (m : MS) {S T : Nat} (hk : m.ok S T) (hS : S ≤ 600000000) (hT : T ≤ 1550000000) (name : Str) (hname : name.length ≤ 100000000) :
   Ct Tryz.prog 292 [.pointer (some ⟨p, 0, none⟩), str name] (mb p x m :: mr x m) (fun _ => True) (fun v A' => ∃ x' m' r0, MS.fileOf m name = (m', r0) ∧ m'.ok (S) (T + 1) ∧ (0 ≤ r0 ∧ r0 ≤ 999) ∧ v = .int .i64 r0 ∧ A' = mb p x' m' :: mr x' m') := by
 refine Ct.intro Tryz.func292 rfl Tryz.ntmps292 (lb rfl) fun w0 hpre => ?_
 refine go ?_
 refine jA [] (N_nameOk name (by omega)) ?_
 rintro _ _ ⟨b_3, e_1, rfl, rfl⟩
 refine go ?_
 rcases Bool.eq_false_or_eq_true (b_3) with h_4 | h_4
 · refine go ?_
   refine jA [] (N_nameKey name (by omega)) ?_
   rintro _ _ ⟨u_7, e_5, f_8, rfl, rfl⟩
   refine jA [0, 0, 0, 0] (N_num p x m hk (by omega) (by omega) u_7) ?_
   rintro _ _ ⟨x_11, m_12, n_13, e_9, k_10, f_14, rfl, rfl⟩
   refine go ?_
   refine jE (.inl rfl) rfl (jC (v := iv n_13) rfl) (List.Sublist.refl _) ?_
   exact ⟨x_11, m_12, n_13, (by simp only [MS.fileOf, e_1, h_4, e_5, e_9, SB]; (repeat (first | rw [if_pos (by omega)] | rw [if_neg (by omega)])); all_goals (first | rfl | simp only [SB, e_1, h_4, e_5, e_9])), (k_10.mono (by omega) (by omega)), (by first | omega | (simp only [LE]; omega)), rfl, rfl⟩
 refine go ?_
 refine jE (.inl rfl) rfl (jC (v := iv 0) rfl) (List.Sublist.refl _) ?_
 exact ⟨x, m, 0, (by simp only [MS.fileOf, e_1, h_4, SB]; (repeat (first | rw [if_pos (by omega)] | rw [if_neg (by omega)])); all_goals (first | rfl | simp only [SB, e_1, h_4])), (hk.mono (by omega) (by omega)), (by first | omega | (simp only [LE]; omega)), rfl, rfl⟩

theorem M_fileOf (x : MA) (m : MS) {S T : Nat} (hk : m.ok S T) (hS : S ≤ 600000000) (hT : T ≤ 1550000000) (name : Str) (hname : name.length ≤ 100000000) :
   Ct Tryz.prog 312 [mv x m, str name] (mr x m) (fun _ => True) (fun v A' => ∃ x' m' r0, MS.fileOf m name = (m', r0) ∧ m'.ok (S) (T + 1) ∧ (0 ≤ r0 ∧ r0 ≤ 999) ∧ v = .tuple #[mv x' m', .int .i64 r0] ∧ A' = mr x' m') := by
 refine Ct.intro Tryz.func312 rfl Tryz.ntmps312 (lb rfl) fun w0 hpre => ?_
 refine go ?_
 refine jM (mc x m) fun b_1 => ?_
 refine jG zC fun b_2 => ?_
 refine go ?_
 refine jA [] (N_sNameOk name (by omega)) ?_
 rintro _ _ ⟨b_5, e_3, rfl, rfl⟩
 refine go ?_
 rcases Bool.eq_false_or_eq_true (b_5) with h_6 | h_6
 · refine go ?_
   refine jA [2, 2, 2] (N_sNumAt x m hk (by omega) (by omega) ([110, 47] ++ name)) ?_
   rintro _ _ ⟨x_9, m_10, n_11, e_7, k_8, f_12, rfl, rfl⟩
   refine go ?_
   refine jD 3 (mc x_9 m_10) ?_
   refine go ?_
   exact jQ [0, 0, 0] ⟨x_9, m_10, n_11, (by simp only [MS.fileOf, e_3, h_6, e_7, SB]; (repeat (first | rw [if_pos (by omega)] | rw [if_neg (by omega)])); all_goals (first | rfl | simp only [SB, e_3, h_6, e_7])), (k_8.mono (by omega) (by omega)), (by first | omega | (simp only [LE]; omega)), rfl, rfl⟩
 refine go ?_
 refine jD 0 (mc x m) ?_
 refine go ?_
 exact jQ [2, 2, 2] ⟨x, m, 0, (by simp only [MS.fileOf, e_3, h_6, SB]; (repeat (first | rw [if_pos (by omega)] | rw [if_neg (by omega)])); all_goals (first | rfl | simp only [SB, e_3, h_6])), (hk.mono (by omega) (by omega)), (by first | omega | (simp only [LE]; omega)), rfl, rfl⟩

theorem N_makeName (p : Nat) (x : MA) (m : MS) {S T : Nat} (hk : m.ok S T) (hS : S ≤ 250000000) (hT : T ≤ 1200000000) (name : Str) (hname : name.length ≤ 100000000) :
   Ct Tryz.prog 208 [.pointer (some ⟨p, 0, none⟩), str name] (mb p x m :: mr x m) (fun _ => True) (fun v A' => ∃ x' m' r0 r1, MS.makeName m name = (m', r0, r1) ∧ m'.ok (S + 3) (T + 5) ∧ (0 ≤ r0 ∧ r0 ≤ 999) ∧ (0 ≤ r1 ∧ r1 ≤ 9) ∧ v = .tuple #[.int .i64 r0, .int .i64 r1] ∧ A' = mb p x' m' :: mr x' m') := by
 refine Ct.intro Tryz.func208 rfl Tryz.ntmps208 (lb rfl) fun w0 hpre => ?_
 refine go ?_
 refine jA [] (N_nameOk name (by omega)) ?_
 rintro _ _ ⟨b_3, e_1, rfl, rfl⟩
 refine go ?_
 rcases Bool.eq_false_or_eq_true (b_3) with h_4 | h_4
 · refine go ?_
   refine jA [0, 0, 0, 0] (N_fileOf p x m hk (by omega) (by omega) name (by omega)) ?_
   rintro _ _ ⟨x_7, m_8, n_9, e_5, k_6, f_10, rfl, rfl⟩
   refine go ?_
   by_cases h_11 : n_9 = 0
   · refine go ?_
     refine jA [0, 0, 0, 0] (N_num p x_7 m_8 k_6 (by omega) (by omega) [99, 47, 102, 105, 108, 101]) ?_
     rintro _ _ ⟨x_14, m_15, n_16, e_12, k_13, f_17, rfl, rfl⟩
     refine go ?_
     by_cases h_18 : 20 ≤ n_16
     · refine go ?_
       refine ji (.inl rfl) rfl (jC (v := iv 0) rfl) (jC (v := iv 3) rfl) (List.Sublist.refl _) ?_
       exact ⟨x_14, m_15, 0, 3, (by simp only [MS.makeName, e_1, h_4, e_5, h_11, e_12, h_18, SB]; (repeat (first | rw [if_pos (by omega)] | rw [if_neg (by omega)])); all_goals (first | rfl | simp only [SB, e_1, h_4, e_5, h_11, e_12, h_18])), (k_13.mono (by omega) (by omega)), (by first | omega | (simp only [LE]; omega)), (by first | omega | (simp only [LE]; omega)), rfl, rfl⟩
     refine go ?_
     refine jA [0, 0, 0, 0] (N_bump p x_14 m_15 k_13 (by omega) (by omega) [99, 47, 102, 105, 108, 101] (by decide)) ?_
     rintro _ _ ⟨x_21, m_22, n_23, e_19, k_20, f_24, rfl, rfl⟩
     refine go ?_
     refine jA [] (N_nameKey name (by omega)) ?_
     rintro _ _ ⟨u_27, e_25, f_28, rfl, rfl⟩
     refine go ?_
     refine jA [0, 0, 0, 0] (N_setNum p x_21 m_22 k_20 (by omega) (by omega) u_27 n_23 (by omega) (by omega)) ?_
     rintro _ _ ⟨x_31, m_32, e_29, k_30, rfl, rfl⟩
     refine go ?_
     refine jA [] (N_linksKey n_23 (by omega)) ?_
     rintro _ _ ⟨u_35, e_33, f_36, rfl, rfl⟩
     refine jA [0, 0, 0, 0] (N_setNum p x_31 m_32 k_30 (by omega) (by omega) u_35 1 (by omega) (by omega)) ?_
     rintro _ _ ⟨x_39, m_40, e_37, k_38, rfl, rfl⟩
     refine go ?_
     refine ji (.inl rfl) rfl (jC (v := iv n_23) rfl) (jC (v := iv 0) rfl) (List.Sublist.refl _) ?_
     exact ⟨x_39, m_40, n_23, 0, (by simp only [MS.makeName, e_1, h_4, e_5, h_11, e_12, h_18, e_19, e_25, e_29, e_33, e_37, SB]; (repeat (first | rw [if_pos (by omega)] | rw [if_neg (by omega)])); all_goals (first | rfl | simp only [SB, e_1, h_4, e_5, h_11, e_12, h_18, e_19, e_25, e_29, e_33, e_37])), (k_38.mono (by omega) (by omega)), (by first | omega | (simp only [LE]; omega)), (by first | omega | (simp only [LE]; omega)), rfl, rfl⟩
   refine go ?_
   refine ji (.inl rfl) rfl (jC (v := iv 0) rfl) (jC (v := iv 1) rfl) (List.Sublist.refl _) ?_
   exact ⟨x_7, m_8, 0, 1, (by simp only [MS.makeName, e_1, h_4, e_5, h_11, SB]; (repeat (first | rw [if_pos (by omega)] | rw [if_neg (by omega)])); all_goals (first | rfl | simp only [SB, e_1, h_4, e_5, h_11])), (k_6.mono (by omega) (by omega)), (by first | omega | (simp only [LE]; omega)), (by first | omega | (simp only [LE]; omega)), rfl, rfl⟩
 refine go ?_
 refine ji (.inl rfl) rfl (jC (v := iv 0) rfl) (jC (v := iv 4) rfl) (List.Sublist.refl _) ?_
 exact ⟨x, m, 0, 4, (by simp only [MS.makeName, e_1, h_4, SB]; (repeat (first | rw [if_pos (by omega)] | rw [if_neg (by omega)])); all_goals (first | rfl | simp only [SB, e_1, h_4])), (hk.mono (by omega) (by omega)), (by first | omega | (simp only [LE]; omega)), (by first | omega | (simp only [LE]; omega)), rfl, rfl⟩

theorem M_makeName (x : MA) (m : MS) {S T : Nat} (hk : m.ok S T) (hS : S ≤ 250000000) (hT : T ≤ 1200000000) (name : Str) (hname : name.length ≤ 100000000) :
   Ct Tryz.prog 231 [mv x m, str name] (mr x m) (fun _ => True) (fun v A' => ∃ x' m' r0 r1, MS.makeName m name = (m', r0, r1) ∧ m'.ok (S + 3) (T + 5) ∧ (0 ≤ r0 ∧ r0 ≤ 999) ∧ (0 ≤ r1 ∧ r1 ≤ 9) ∧ v = .tuple #[mv x' m', .int .i64 r0, .int .i64 r1] ∧ A' = mr x' m') := by
 refine Ct.intro Tryz.func231 rfl Tryz.ntmps231 (lb rfl) fun w0 hpre => ?_
 refine go ?_
 refine jM (mc x m) fun b_1 => ?_
 refine jG zC fun b_2 => ?_
 refine go ?_
 refine jA [] (N_sNameOk name (by omega)) ?_
 rintro _ _ ⟨b_5, e_3, rfl, rfl⟩
 refine go ?_
 rcases Bool.eq_false_or_eq_true (b_5) with h_6 | h_6
 · refine go ?_
   refine jA [2, 2, 2] (M_fileOf x m hk (by omega) (by omega) name (by omega)) ?_
   rintro _ _ ⟨x_9, m_10, n_11, e_7, k_8, f_12, rfl, rfl⟩
   refine go ?_
   refine jD 4 (mc x_9 m_10) ?_
   refine go ?_
   by_cases h_13 : n_11 = 0
   · refine go ?_
     refine jA [0, 0, 0] (N_sNumAt x_9 m_10 k_8 (by omega) (by omega) [99, 47, 102, 105, 108, 101]) ?_
     rintro _ _ ⟨x_16, m_17, n_18, e_14, k_15, f_19, rfl, rfl⟩
     refine go ?_
     refine jD 4 (mc x_16 m_17) ?_
     refine go ?_
     by_cases h_20 : 20 ≤ n_18
     · refine go ?_
       refine jD 3 (mc x_16 m_17) ?_
       refine go ?_
       exact jt [0, 0, 0] ⟨x_16, m_17, 0, 3, (by simp only [MS.makeName, e_3, h_6, e_7, h_13, e_14, h_20, SB]; (repeat (first | rw [if_pos (by omega)] | rw [if_neg (by omega)])); all_goals (first | rfl | simp only [SB, e_3, h_6, e_7, h_13, e_14, h_20])), (k_15.mono (by omega) (by omega)), (by first | omega | (simp only [LE]; omega)), (by first | omega | (simp only [LE]; omega)), rfl, rfl⟩
     refine go ?_
     refine jA [0, 0, 0] (N_sBump x_16 m_17 k_15 (by omega) (by omega) [99, 47, 102, 105, 108, 101] (by decide)) ?_
     rintro _ _ ⟨x_23, m_24, n_25, e_21, k_22, f_26, rfl, rfl⟩
     refine go ?_
     refine jD 4 (mc x_23 m_24) ?_
     refine go ?_
     refine jA [0, 0, 0] (N_sSetNum x_23 m_24 k_22 (by omega) (by omega) ([110, 47] ++ name) n_25 (by first | omega | (simp only [LE]; omega)) (by omega)) ?_
     rintro _ _ ⟨x_29, m_30, e_27, k_28, rfl, rfl⟩
     refine jD 4 (mc x_29 m_30) ?_
     refine go ?_
     refine jH [4] 5 ?_
     refine go ?_
     refine jB (i := 2) ?_
     refine jI [] (N_sKeyNum [105, 47] n_25 [47, 108] (show List.length ([105, 47] : Str) ≤ 2 by decide) (by omega) (show List.length ([47, 108] : Str) ≤ 2 by decide) (by omega)) ?_
     rintro _ _ ⟨u_41, e_39, f_42, rfl, rfl⟩
     refine jB (i := 3) ?_
     refine jI [0, 0, 0] (N_sSetNum x_29 m_30 k_28 (by omega) (by omega) u_41 1 (by omega) (by omega)) ?_
     rintro _ _ ⟨x_49, m_50, e_47, k_48, rfl, rfl⟩
     refine jB (i := 5) ?_
     refine jf 3 (mc x_49 m_50) ?_
     refine go ?_
     exact jt [0, 0, 0] ⟨x_49, m_50, n_25, 0, (by simp only [MS.makeName, e_3, h_6, e_7, h_13, e_14, h_20, e_21, e_27, e_39, e_47, SB]; (repeat (first | rw [if_pos (by omega)] | rw [if_neg (by omega)])); all_goals (first | rfl | simp only [SB, e_3, h_6, e_7, h_13, e_14, h_20, e_21, e_27, e_39, e_47])), (k_48.mono (by omega) (by omega)), (by first | omega | (simp only [LE]; omega)), (by first | omega | (simp only [LE]; omega)), rfl, rfl⟩
   refine go ?_
   refine jD 3 (mc x_9 m_10) ?_
   refine go ?_
   exact jt [0, 0, 0] ⟨x_9, m_10, 0, 1, (by simp only [MS.makeName, e_3, h_6, e_7, h_13, SB]; (repeat (first | rw [if_pos (by omega)] | rw [if_neg (by omega)])); all_goals (first | rfl | simp only [SB, e_3, h_6, e_7, h_13])), (k_8.mono (by omega) (by omega)), (by first | omega | (simp only [LE]; omega)), (by first | omega | (simp only [LE]; omega)), rfl, rfl⟩
 refine go ?_
 refine jD 0 (mc x m) ?_
 refine go ?_
 exact jt [2, 2, 2] ⟨x, m, 0, 4, (by simp only [MS.makeName, e_3, h_6, SB]; (repeat (first | rw [if_pos (by omega)] | rw [if_neg (by omega)])); all_goals (first | rfl | simp only [SB, e_3, h_6])), (hk.mono (by omega) (by omega)), (by first | omega | (simp only [LE]; omega)), (by first | omega | (simp only [LE]; omega)), rfl, rfl⟩

theorem N_linkName (p : Nat) (x : MA) (m : MS) {S T : Nat} (hk : m.ok S T) (hS : S ≤ 250000000) (hT : T ≤ 1200000000) (from_ : Str) (to_ : Str) (hfrom_ : from_.length ≤ 100000000) (hto_ : to_.length ≤ 100000000) :
   Ct Tryz.prog 209 [.pointer (some ⟨p, 0, none⟩), str from_, str to_] (mb p x m :: mr x m) (fun _ => True) (fun v A' => ∃ x' m' r0, MS.linkName m from_ to_ = (m', r0) ∧ m'.ok (S + 2) (T + 5) ∧ (0 ≤ r0 ∧ r0 ≤ 9) ∧ v = .int .i64 r0 ∧ A' = mb p x' m' :: mr x' m') := by
 refine Ct.intro Tryz.func209 rfl Tryz.ntmps209 (lb rfl) fun w0 hpre => ?_
 refine go ?_
 refine jA [] (N_nameOk from_ (by omega)) ?_
 rintro _ _ ⟨b_3, e_1, rfl, rfl⟩
 refine go ?_
 rcases Bool.eq_false_or_eq_true (b_3) with h_4 | h_4
 · refine go ?_
   refine jW rfl rfl rfl (cB (cN h_4)) (jO [] Tryz.call291 rfl (N_nameOk to_ (by omega)) rfl (fun _ _ => trivial)) ?_
   rintro _ _ ⟨_, ⟨b_7, e_5, rfl, rfl⟩, rfl⟩
   refine go ?_
   rcases Bool.eq_false_or_eq_true (b_7) with h_8 | h_8
   · refine go ?_
     refine jA [0, 0, 0, 0] (N_fileOf p x m hk (by omega) (by omega) from_ (by omega)) ?_
     rintro _ _ ⟨x_11, m_12, n_13, e_9, k_10, f_14, rfl, rfl⟩
     refine go ?_
     by_cases h_15 : n_13 = 0
     · refine go ?_
       refine jE (.inl rfl) rfl (jC (v := iv 2) rfl) (List.Sublist.refl _) ?_
       exact ⟨x_11, m_12, 2, (by simp only [MS.linkName, e_1, h_4, e_5, h_8, e_9, h_15, SB]; (repeat (first | rw [if_pos (by omega)] | rw [if_neg (by omega)])); all_goals (first | rfl | simp only [SB, e_1, h_4, e_5, h_8, e_9, h_15])), (k_10.mono (by omega) (by omega)), (by first | omega | (simp only [LE]; omega)), rfl, rfl⟩
     refine go ?_
     refine jA [0, 0, 0, 0] (N_fileOf p x_11 m_12 k_10 (by omega) (by omega) to_ (by omega)) ?_
     rintro _ _ ⟨x_18, m_19, n_20, e_16, k_17, f_21, rfl, rfl⟩
     refine go ?_
     by_cases h_22 : n_20 = 0
     · refine go ?_
       refine jA [] (N_linksKey n_13 (by omega)) ?_
       rintro _ _ ⟨u_25, e_23, f_26, rfl, rfl⟩
       refine jA [0, 0, 0, 0] (N_num p x_18 m_19 k_17 (by omega) (by omega) u_25) ?_
       rintro _ _ ⟨x_29, m_30, n_31, e_27, k_28, f_32, rfl, rfl⟩
       refine go ?_
       by_cases h_33 : 4 ≤ n_31
       · refine go ?_
         refine jE (.inl rfl) rfl (jC (v := iv 3) rfl) (List.Sublist.refl _) ?_
         exact ⟨x_29, m_30, 3, (by simp only [MS.linkName, e_1, h_4, e_5, h_8, e_9, h_15, e_16, h_22, e_23, e_27, h_33, SB]; (repeat (first | rw [if_pos (by omega)] | rw [if_neg (by omega)])); all_goals (first | rfl | simp only [SB, e_1, h_4, e_5, h_8, e_9, h_15, e_16, h_22, e_23, e_27, h_33])), (k_28.mono (by omega) (by omega)), (by first | omega | (simp only [LE]; omega)), rfl, rfl⟩
       refine go ?_
       refine jA [] (N_nameKey to_ (by omega)) ?_
       rintro _ _ ⟨u_36, e_34, f_37, rfl, rfl⟩
       refine go ?_
       refine jA [0, 0, 0, 0] (N_setNum p x_29 m_30 k_28 (by omega) (by omega) u_36 n_13 (by omega) (by omega)) ?_
       rintro _ _ ⟨x_40, m_41, e_38, k_39, rfl, rfl⟩
       refine go ?_
       refine jA [] (N_linksKey n_13 (by omega)) ?_
       rintro _ _ ⟨u_44, e_42, f_45, rfl, rfl⟩
       have hqe_42 := e_23.symm.trans e_42
       subst hqe_42
       refine go ?_
       refine jA [0, 0, 0, 0] (N_setNum p x_40 m_41 k_39 (by omega) (by omega) u_25 (n_31 + 1) (by omega) (by omega)) ?_
       rintro _ _ ⟨x_48, m_49, e_46, k_47, rfl, rfl⟩
       refine go ?_
       refine jE (.inl rfl) rfl (jC (v := iv 0) rfl) (List.Sublist.refl _) ?_
       exact ⟨x_48, m_49, 0, (by simp only [MS.linkName, e_1, h_4, e_5, h_8, e_9, h_15, e_16, h_22, e_23, e_27, h_33, e_34, e_38, e_46, SB]; (repeat (first | rw [if_pos (by omega)] | rw [if_neg (by omega)])); all_goals (first | rfl | simp only [SB, e_1, h_4, e_5, h_8, e_9, h_15, e_16, h_22, e_23, e_27, h_33, e_34, e_38, e_46])), (k_47.mono (by omega) (by omega)), (by first | omega | (simp only [LE]; omega)), rfl, rfl⟩
     refine go ?_
     refine jE (.inl rfl) rfl (jC (v := iv 1) rfl) (List.Sublist.refl _) ?_
     exact ⟨x_18, m_19, 1, (by simp only [MS.linkName, e_1, h_4, e_5, h_8, e_9, h_15, e_16, h_22, SB]; (repeat (first | rw [if_pos (by omega)] | rw [if_neg (by omega)])); all_goals (first | rfl | simp only [SB, e_1, h_4, e_5, h_8, e_9, h_15, e_16, h_22])), (k_17.mono (by omega) (by omega)), (by first | omega | (simp only [LE]; omega)), rfl, rfl⟩
   refine go ?_
   refine jE (.inl rfl) rfl (jC (v := iv 4) rfl) (List.Sublist.refl _) ?_
   exact ⟨x, m, 4, (by simp only [MS.linkName, e_1, h_4, e_5, h_8, SB]; (repeat (first | rw [if_pos (by omega)] | rw [if_neg (by omega)])); all_goals (first | rfl | simp only [SB, e_1, h_4, e_5, h_8])), (hk.mono (by omega) (by omega)), (by first | omega | (simp only [LE]; omega)), rfl, rfl⟩
 refine go ?_
 refine jE (.inl rfl) rfl (jC (v := iv 4) rfl) (List.Sublist.refl _) ?_
 exact ⟨x, m, 4, (by simp only [MS.linkName, e_1, h_4, SB]; (repeat (first | rw [if_pos (by omega)] | rw [if_neg (by omega)])); all_goals (first | rfl | simp only [SB, e_1, h_4])), (hk.mono (by omega) (by omega)), (by first | omega | (simp only [LE]; omega)), rfl, rfl⟩

theorem M_linkName (x : MA) (m : MS) {S T : Nat} (hk : m.ok S T) (hS : S ≤ 250000000) (hT : T ≤ 1200000000) (from_ : Str) (to_ : Str) (hfrom_ : from_.length ≤ 100000000) (hto_ : to_.length ≤ 100000000) :
   Ct Tryz.prog 232 [mv x m, str from_, str to_] (mr x m) (fun _ => True) (fun v A' => ∃ x' m' r0, MS.linkName m from_ to_ = (m', r0) ∧ m'.ok (S + 2) (T + 5) ∧ (0 ≤ r0 ∧ r0 ≤ 9) ∧ v = .tuple #[mv x' m', .int .i64 r0] ∧ A' = mr x' m') := by
 refine Ct.intro Tryz.func232 rfl Tryz.ntmps232 (lb rfl) fun w0 hpre => ?_
 refine go ?_
 refine jM (mc x m) fun b_1 => ?_
 refine jG zC fun b_2 => ?_
 refine go ?_
 refine jA [] (N_sNameOk from_ (by omega)) ?_
 rintro _ _ ⟨b_5, e_3, rfl, rfl⟩
 refine go ?_
 rcases Bool.eq_false_or_eq_true (b_5) with h_6 | h_6
 · refine go ?_
   refine jW rfl rfl rfl (cB (cN h_6)) (jO [] Tryz.call311 rfl (N_sNameOk to_ (by omega)) rfl (fun _ _ => trivial)) ?_
   rintro _ _ ⟨_, ⟨b_9, e_7, rfl, rfl⟩, rfl⟩
   refine go ?_
   rcases Bool.eq_false_or_eq_true (b_9) with h_10 | h_10
   · refine go ?_
     refine jA [2, 2, 2] (M_fileOf x m hk (by omega) (by omega) from_ (by omega)) ?_
     rintro _ _ ⟨x_13, m_14, n_15, e_11, k_12, f_16, rfl, rfl⟩
     refine go ?_
     refine jD 4 (mc x_13 m_14) ?_
     refine go ?_
     by_cases h_17 : n_15 = 0
     · refine go ?_
       refine jD 3 (mc x_13 m_14) ?_
       refine go ?_
       exact jQ [0, 0, 0] ⟨x_13, m_14, 2, (by simp only [MS.linkName, e_3, h_6, e_7, h_10, e_11, h_17, SB]; (repeat (first | rw [if_pos (by omega)] | rw [if_neg (by omega)])); all_goals (first | rfl | simp only [SB, e_3, h_6, e_7, h_10, e_11, h_17])), (k_12.mono (by omega) (by omega)), (by first | omega | (simp only [LE]; omega)), rfl, rfl⟩
     refine go ?_
     refine jA [0, 0, 0] (M_fileOf x_13 m_14 k_12 (by omega) (by omega) to_ (by omega)) ?_
     rintro _ _ ⟨x_20, m_21, n_22, e_18, k_19, f_23, rfl, rfl⟩
     refine go ?_
     refine jD 4 (mc x_20 m_21) ?_
     refine go ?_
     by_cases h_24 : n_22 = 0
     · refine go ?_
       refine jH [4] 7 ?_
       refine go ?_
       refine jB (i := 2) ?_
       refine jI [] (N_sKeyNum [105, 47] n_15 [47, 108] (show List.length ([105, 47] : Str) ≤ 2 by decide) (by omega) (show List.length ([47, 108] : Str) ≤ 2 by decide) (by omega)) ?_
       rintro _ _ ⟨u_31, e_29, f_32, rfl, rfl⟩
       refine jB (i := 3) ?_
       refine jI [0, 0, 0] (N_sNumAt x_20 m_21 k_19 (by omega) (by omega) u_31) ?_
       rintro _ _ ⟨x_41, m_42, n_43, e_39, k_40, f_44, rfl, rfl⟩
       refine go ?_
       refine jB (i := 7) ?_
       refine jf 4 (mc x_41 m_42) ?_
       refine go ?_
       by_cases h_45 : 4 ≤ n_43
       · refine go ?_
         refine jD 3 (mc x_41 m_42) ?_
         refine go ?_
         exact jQ [0, 0, 0] ⟨x_41, m_42, 3, (by simp only [MS.linkName, e_3, h_6, e_7, h_10, e_11, h_17, e_18, h_24, e_29, e_39, h_45, SB]; (repeat (first | rw [if_pos (by omega)] | rw [if_neg (by omega)])); all_goals (first | rfl | simp only [SB, e_3, h_6, e_7, h_10, e_11, h_17, e_18, h_24, e_29, e_39, h_45])), (k_40.mono (by omega) (by omega)), (by first | omega | (simp only [LE]; omega)), rfl, rfl⟩
       refine go ?_
       refine jA [0, 0, 0] (N_sSetNum x_41 m_42 k_40 (by omega) (by omega) ([110, 47] ++ to_) n_15 (by first | omega | (simp only [LE]; omega)) (by omega)) ?_
       rintro _ _ ⟨x_48, m_49, e_46, k_47, rfl, rfl⟩
       refine jD 4 (mc x_48 m_49) ?_
       refine go ?_
       refine jH [4] 5 ?_
       refine go ?_
       refine jB (i := 2) ?_
       refine ja rfl rfl (jO [] Tryz.call282 rfl (N_sKeyNum [105, 47] n_15 [47, 108] (show List.length ([105, 47] : Str) ≤ 2 by decide) (by omega) (show List.length ([47, 108] : Str) ≤ 2 by decide) (by omega)) rfl (fun _ _ => trivial)) ?_
       rintro _ _ ⟨_, ⟨u_64, e_62, f_65, rfl, rfl⟩, rfl⟩
       have hqe_62 := e_29.symm.trans e_62
       subst hqe_62
       refine ⟨all_go, ?_⟩
       refine jB (i := 5) ?_
       refine kE [0, 0, 0] (N_sSetNum x_48 m_49 k_47 (by omega) (by omega) u_31 (n_43 + 1) (by omega) (by omega)) ?_
       rintro _ _ ⟨x_72, m_73, e_70, k_71, rfl, rfl⟩
       refine jB (i := 6) ?_
       refine jf 3 (mc x_72 m_73) ?_
       refine go ?_
       exact jQ [0, 0, 0] ⟨x_72, m_73, 0, (by simp only [MS.linkName, e_3, h_6, e_7, h_10, e_11, h_17, e_18, h_24, e_29, e_39, h_45, e_46, e_70, SB]; (repeat (first | rw [if_pos (by omega)] | rw [if_neg (by omega)])); all_goals (first | rfl | simp only [SB, e_3, h_6, e_7, h_10, e_11, h_17, e_18, h_24, e_29, e_39, h_45, e_46, e_70])), (k_71.mono (by omega) (by omega)), (by first | omega | (simp only [LE]; omega)), rfl, rfl⟩
     refine go ?_
     refine jD 3 (mc x_20 m_21) ?_
     refine go ?_
     exact jQ [0, 0, 0] ⟨x_20, m_21, 1, (by simp only [MS.linkName, e_3, h_6, e_7, h_10, e_11, h_17, e_18, h_24, SB]; (repeat (first | rw [if_pos (by omega)] | rw [if_neg (by omega)])); all_goals (first | rfl | simp only [SB, e_3, h_6, e_7, h_10, e_11, h_17, e_18, h_24])), (k_19.mono (by omega) (by omega)), (by first | omega | (simp only [LE]; omega)), rfl, rfl⟩
   refine go ?_
   refine jD 0 (mc x m) ?_
   refine go ?_
   exact jQ [2, 2, 2] ⟨x, m, 4, (by simp only [MS.linkName, e_3, h_6, e_7, h_10, SB]; (repeat (first | rw [if_pos (by omega)] | rw [if_neg (by omega)])); all_goals (first | rfl | simp only [SB, e_3, h_6, e_7, h_10])), (hk.mono (by omega) (by omega)), (by first | omega | (simp only [LE]; omega)), rfl, rfl⟩
 refine go ?_
 refine jD 0 (mc x m) ?_
 refine go ?_
 exact jQ [2, 2, 2] ⟨x, m, 4, (by simp only [MS.linkName, e_3, h_6, SB]; (repeat (first | rw [if_pos (by omega)] | rw [if_neg (by omega)])); all_goals (first | rfl | simp only [SB, e_3, h_6])), (hk.mono (by omega) (by omega)), (by first | omega | (simp only [LE]; omega)), rfl, rfl⟩

theorem N_unlinkName (p : Nat) (x : MA) (m : MS) {S T : Nat} (hk : m.ok S T) (hS : S ≤ 250000000) (hT : T ≤ 1200000000) (name : Str) (hname : name.length ≤ 100000000) :
   Ct Tryz.prog 210 [.pointer (some ⟨p, 0, none⟩), str name] (mb p x m :: mr x m) (fun _ => True) (fun v A' => ∃ x' m' r0, MS.unlinkName m name = (m', r0) ∧ m'.ok (S + 1) (T + S + 4) ∧ (0 ≤ r0 ∧ r0 ≤ 9) ∧ v = .int .i64 r0 ∧ A' = mb p x' m' :: mr x' m') := by
 refine Ct.intro Tryz.func210 rfl Tryz.ntmps210 (lb rfl) fun w0 hpre => ?_
 refine go ?_
 refine jA [] (N_nameOk name (by omega)) ?_
 rintro _ _ ⟨b_3, e_1, rfl, rfl⟩
 refine go ?_
 rcases Bool.eq_false_or_eq_true (b_3) with h_4 | h_4
 · refine go ?_
   refine jA [0, 0, 0, 0] (N_fileOf p x m hk (by omega) (by omega) name (by omega)) ?_
   rintro _ _ ⟨x_7, m_8, n_9, e_5, k_6, f_10, rfl, rfl⟩
   refine go ?_
   by_cases h_11 : n_9 = 0
   · refine go ?_
     refine jE (.inl rfl) rfl (jC (v := iv 2) rfl) (List.Sublist.refl _) ?_
     exact ⟨x_7, m_8, 2, (by simp only [MS.unlinkName, e_1, h_4, e_5, h_11, SB]; (repeat (first | rw [if_pos (by omega)] | rw [if_neg (by omega)])); all_goals (first | rfl | simp only [SB, e_1, h_4, e_5, h_11])), (k_6.mono (by omega) (by omega)), (by first | omega | (simp only [LE]; omega)), rfl, rfl⟩
   refine go ?_
   refine jA [] (N_nameKey name (by omega)) ?_
   rintro _ _ ⟨u_14, e_12, f_15, rfl, rfl⟩
   refine jA [0, 0, 0, 0] (N_layNil p x_7 m_8 k_6 (by omega) (by omega) u_14 (by omega)) ?_
   rintro _ _ ⟨x_18, m_19, e_16, k_17, rfl, rfl⟩
   refine go ?_
   refine jA [] (N_linksKey n_9 (by omega)) ?_
   rintro _ _ ⟨u_22, e_20, f_23, rfl, rfl⟩
   refine jA [0, 0, 0, 0] (N_num p x_18 m_19 k_17 (by omega) (by omega) u_22) ?_
   rintro _ _ ⟨x_26, m_27, n_28, e_24, k_25, f_29, rfl, rfl⟩
   refine go ?_
   by_cases h_30 : 1 < n_28
   · refine go ?_
     refine jA [] (N_linksKey n_9 (by omega)) ?_
     rintro _ _ ⟨u_33, e_31, f_34, rfl, rfl⟩
     have hqe_31 := e_20.symm.trans e_31
     subst hqe_31
     refine go ?_
     refine jK (jg (c := n_28 - 1) rfl rfl (wr (by omega))) ?_
     refine jA [0, 0, 0, 0] (N_setNum p x_26 m_27 k_25 (by omega) (by omega) u_22 (n_28 - 1) (by omega) (by omega)) ?_
     rintro _ _ ⟨x_37, m_38, e_35, k_36, rfl, rfl⟩
     refine go ?_
     refine jE (.inl rfl) rfl (jC (v := iv 0) rfl) (List.Sublist.refl _) ?_
     exact ⟨x_37, m_38, 0, (by simp only [MS.unlinkName, e_1, h_4, e_5, h_11, e_12, e_16, e_20, e_24, h_30, e_35, SB]; (repeat (first | rw [if_pos (by omega)] | rw [if_neg (by omega)])); all_goals (first | rfl | simp only [SB, e_1, h_4, e_5, h_11, e_12, e_16, e_20, e_24, h_30, e_35])), (k_36.mono (by omega) (by omega)), (by first | omega | (simp only [LE]; omega)), rfl, rfl⟩
   refine go ?_
   refine jA [] (N_keyNum [105, 47] n_9 [47] (show List.length ([105, 47] : Str) ≤ 2 by decide) (by omega) (show List.length ([47] : Str) ≤ 1 by decide) (by omega)) ?_
   rintro _ _ ⟨u_41, e_39, f_42, rfl, rfl⟩
   refine jA [0, 0, 0, 0] (N_wipe p x_26 m_27 k_25 (by omega) (by omega) u_41 (by omega)) ?_
   rintro _ _ ⟨x_45, m_46, e_43, k_44, rfl, rfl⟩
   refine go ?_
   refine jE (.inl rfl) rfl (jC (v := iv 0) rfl) (List.Sublist.refl _) ?_
   exact ⟨x_45, m_46, 0, (by simp only [MS.unlinkName, e_1, h_4, e_5, h_11, e_12, e_16, e_20, e_24, h_30, e_39, e_43, SB]; (repeat (first | rw [if_pos (by omega)] | rw [if_neg (by omega)])); all_goals (first | rfl | simp only [SB, e_1, h_4, e_5, h_11, e_12, e_16, e_20, e_24, h_30, e_39, e_43])), (k_44.mono (by omega) (by omega)), (by first | omega | (simp only [LE]; omega)), rfl, rfl⟩
 refine go ?_
 refine jE (.inl rfl) rfl (jC (v := iv 4) rfl) (List.Sublist.refl _) ?_
 exact ⟨x, m, 4, (by simp only [MS.unlinkName, e_1, h_4, SB]; (repeat (first | rw [if_pos (by omega)] | rw [if_neg (by omega)])); all_goals (first | rfl | simp only [SB, e_1, h_4])), (hk.mono (by omega) (by omega)), (by first | omega | (simp only [LE]; omega)), rfl, rfl⟩

theorem M_unlinkName (x : MA) (m : MS) {S T : Nat} (hk : m.ok S T) (hS : S ≤ 250000000) (hT : T ≤ 1200000000) (name : Str) (hname : name.length ≤ 100000000) :
   Ct Tryz.prog 233 [mv x m, str name] (mr x m) (fun _ => True) (fun v A' => ∃ x' m' r0, MS.unlinkName m name = (m', r0) ∧ m'.ok (S + 1) (T + S + 4) ∧ (0 ≤ r0 ∧ r0 ≤ 9) ∧ v = .tuple #[mv x' m', .int .i64 r0] ∧ A' = mr x' m') := by
 refine Ct.intro Tryz.func233 rfl Tryz.ntmps233 (lb rfl) fun w0 hpre => ?_
 refine go ?_
 refine jM (mc x m) fun b_1 => ?_
 refine jG zC fun b_2 => ?_
 refine go ?_
 refine jA [] (N_sNameOk name (by omega)) ?_
 rintro _ _ ⟨b_5, e_3, rfl, rfl⟩
 refine go ?_
 rcases Bool.eq_false_or_eq_true (b_5) with h_6 | h_6
 · refine go ?_
   refine jA [2, 2, 2] (M_fileOf x m hk (by omega) (by omega) name (by omega)) ?_
   rintro _ _ ⟨x_9, m_10, n_11, e_7, k_8, f_12, rfl, rfl⟩
   refine go ?_
   refine jD 4 (mc x_9 m_10) ?_
   refine go ?_
   by_cases h_13 : n_11 = 0
   · refine go ?_
     refine jD 3 (mc x_9 m_10) ?_
     refine go ?_
     exact jQ [0, 0, 0] ⟨x_9, m_10, 2, (by simp only [MS.unlinkName, e_3, h_6, e_7, h_13, SB]; (repeat (first | rw [if_pos (by omega)] | rw [if_neg (by omega)])); all_goals (first | rfl | simp only [SB, e_3, h_6, e_7, h_13])), (k_8.mono (by omega) (by omega)), (by first | omega | (simp only [LE]; omega)), rfl, rfl⟩
   refine go ?_
   refine jA [0, 0, 0] (N_sLayNil x_9 m_10 k_8 (by omega) (by omega) ([110, 47] ++ name) (by first | omega | (simp only [LE]; omega))) ?_
   rintro _ _ ⟨x_16, m_17, e_14, k_15, rfl, rfl⟩
   refine jD 4 (mc x_16 m_17) ?_
   refine go ?_
   refine jH [4] 7 ?_
   refine go ?_
   refine jB (i := 2) ?_
   refine jI [] (N_sKeyNum [105, 47] n_11 [47, 108] (show List.length ([105, 47] : Str) ≤ 2 by decide) (by omega) (show List.length ([47, 108] : Str) ≤ 2 by decide) (by omega)) ?_
   rintro _ _ ⟨u_24, e_22, f_25, rfl, rfl⟩
   refine jB (i := 3) ?_
   refine jI [0, 0, 0] (N_sNumAt x_16 m_17 k_15 (by omega) (by omega) u_24) ?_
   rintro _ _ ⟨x_34, m_35, n_36, e_32, k_33, f_37, rfl, rfl⟩
   refine go ?_
   refine jB (i := 7) ?_
   refine jf 4 (mc x_34 m_35) ?_
   refine go ?_
   by_cases h_38 : 1 < n_36
   · refine go ?_
     refine jH [4] 5 ?_
     refine go ?_
     refine jd 4 rfl (jg (c := n_36 - 1) rfl rfl (wr (by omega))) ?_
     refine jB (i := 2) ?_
     refine ja rfl rfl (jO [] Tryz.call282 rfl (N_sKeyNum [105, 47] n_11 [47, 108] (show List.length ([105, 47] : Str) ≤ 2 by decide) (by omega) (show List.length ([47, 108] : Str) ≤ 2 by decide) (by omega)) rfl (fun _ _ => trivial)) ?_
     rintro _ _ ⟨_, ⟨u_53, e_51, f_54, rfl, rfl⟩, rfl⟩
     have hqe_51 := e_22.symm.trans e_51
     subst hqe_51
     refine ⟨all_go, ?_⟩
     refine jB (i := 5) ?_
     refine kE [0, 0, 0] (N_sSetNum x_34 m_35 k_33 (by omega) (by omega) u_24 (n_36 - 1) (by omega) (by omega)) ?_
     rintro _ _ ⟨x_61, m_62, e_59, k_60, rfl, rfl⟩
     refine jB (i := 6) ?_
     refine jf 3 (mc x_61 m_62) ?_
     refine go ?_
     exact jQ [0, 0, 0] ⟨x_61, m_62, 0, (by simp only [MS.unlinkName, e_3, h_6, e_7, h_13, e_14, e_22, e_32, h_38, e_59, SB]; (repeat (first | rw [if_pos (by omega)] | rw [if_neg (by omega)])); all_goals (first | rfl | simp only [SB, e_3, h_6, e_7, h_13, e_14, e_22, e_32, h_38, e_59])), (k_60.mono (by omega) (by omega)), (by first | omega | (simp only [LE]; omega)), rfl, rfl⟩
   refine go ?_
   refine jH [4] 3 ?_
   refine go ?_
   refine jB (i := 2) ?_
   refine jI [] (N_sKeyNum [105, 47] n_11 [47] (show List.length ([105, 47] : Str) ≤ 2 by decide) (by omega) (show List.length ([47] : Str) ≤ 1 by decide) (by omega)) ?_
   rintro _ _ ⟨u_69, e_67, f_70, rfl, rfl⟩
   refine jB (i := 3) ?_
   refine kE [0, 0, 0] (M_wipe x_34 m_35 k_33 (by omega) (by omega) u_69 (by omega)) ?_
   rintro _ _ ⟨x_77, m_78, e_75, k_76, rfl, rfl⟩
   refine jB (i := 4) ?_
   refine jf 3 (mc x_77 m_78) ?_
   refine go ?_
   exact jQ [0, 0, 0] ⟨x_77, m_78, 0, (by simp only [MS.unlinkName, e_3, h_6, e_7, h_13, e_14, e_22, e_32, h_38, e_67, e_75, SB]; (repeat (first | rw [if_pos (by omega)] | rw [if_neg (by omega)])); all_goals (first | rfl | simp only [SB, e_3, h_6, e_7, h_13, e_14, e_22, e_32, h_38, e_67, e_75])), (k_76.mono (by omega) (by omega)), (by first | omega | (simp only [LE]; omega)), rfl, rfl⟩
 refine go ?_
 refine jD 0 (mc x m) ?_
 refine go ?_
 exact jQ [2, 2, 2] ⟨x, m, 4, (by simp only [MS.unlinkName, e_3, h_6, SB]; (repeat (first | rw [if_pos (by omega)] | rw [if_neg (by omega)])); all_goals (first | rfl | simp only [SB, e_3, h_6])), (hk.mono (by omega) (by omega)), (by first | omega | (simp only [LE]; omega)), rfl, rfl⟩

theorem N_renameName (p : Nat) (x : MA) (m : MS) {S T : Nat} (hk : m.ok S T) (hS : S ≤ 200000000) (hT : T ≤ 1150000000) (from_ : Str) (to_ : Str) (hfrom_ : from_.length ≤ 100000000) (hto_ : to_.length ≤ 100000000) :
   Ct Tryz.prog 211 [.pointer (some ⟨p, 0, none⟩), str from_, str to_] (mb p x m :: mr x m) (fun _ => True) (fun v A' => ∃ x' m' r0, MS.renameName m from_ to_ = (m', r0) ∧ m'.ok (S + 2) (T + S + 8) ∧ (0 ≤ r0 ∧ r0 ≤ 9) ∧ v = .int .i64 r0 ∧ A' = mb p x' m' :: mr x' m') := by
 refine Ct.intro Tryz.func211 rfl Tryz.ntmps211 (lb rfl) fun w0 hpre => ?_
 refine go ?_
 refine jA [] (N_nameOk from_ (by omega)) ?_
 rintro _ _ ⟨b_3, e_1, rfl, rfl⟩
 refine go ?_
 rcases Bool.eq_false_or_eq_true (b_3) with h_4 | h_4
 · refine go ?_
   refine jW rfl rfl rfl (cB (cN h_4)) (jO [] Tryz.call291 rfl (N_nameOk to_ (by omega)) rfl (fun _ _ => trivial)) ?_
   rintro _ _ ⟨_, ⟨b_7, e_5, rfl, rfl⟩, rfl⟩
   refine go ?_
   rcases Bool.eq_false_or_eq_true (b_7) with h_8 | h_8
   · refine go ?_
     refine jA [0, 0, 0, 0] (N_fileOf p x m hk (by omega) (by omega) from_ (by omega)) ?_
     rintro _ _ ⟨x_11, m_12, n_13, e_9, k_10, f_14, rfl, rfl⟩
     refine go ?_
     by_cases h_15 : n_13 = 0
     · refine go ?_
       refine jE (.inl rfl) rfl (jC (v := iv 2) rfl) (List.Sublist.refl _) ?_
       exact ⟨x_11, m_12, 2, (by simp only [MS.renameName, e_1, h_4, e_5, h_8, e_9, h_15, SB]; (repeat (first | rw [if_pos (by omega)] | rw [if_neg (by omega)])); all_goals (first | rfl | simp only [SB, e_1, h_4, e_5, h_8, e_9, h_15])), (k_10.mono (by omega) (by omega)), (by first | omega | (simp only [LE]; omega)), rfl, rfl⟩
     refine go ?_
     refine jA [0, 0, 0, 0] (N_fileOf p x_11 m_12 k_10 (by omega) (by omega) to_ (by omega)) ?_
     rintro _ _ ⟨x_18, m_19, n_20, e_16, k_17, f_21, rfl, rfl⟩
     refine go ?_
     by_cases h_22 : n_20 = n_13
     · refine go ?_
       refine jE (.inl rfl) rfl (jC (v := iv 0) rfl) (List.Sublist.refl _) ?_
       exact ⟨x_18, m_19, 0, (by simp only [MS.renameName, e_1, h_4, e_5, h_8, e_9, h_15, e_16, h_22, SB]; (repeat (first | rw [if_pos (by omega)] | rw [if_neg (by omega)])); all_goals (first | rfl | simp only [SB, e_1, h_4, e_5, h_8, e_9, h_15, e_16, h_22])), (k_17.mono (by omega) (by omega)), (by first | omega | (simp only [LE]; omega)), rfl, rfl⟩
     refine go ?_
     by_cases h_23 : n_20 = 0
     · refine go ?_
       refine jA [] (N_nameKey to_ (by omega)) ?_
       rintro _ _ ⟨u_26, e_24, f_27, rfl, rfl⟩
       refine go ?_
       refine jA [0, 0, 0, 0] (N_setNum p x_18 m_19 k_17 (by omega) (by omega) u_26 n_13 (by omega) (by omega)) ?_
       rintro _ _ ⟨x_30, m_31, e_28, k_29, rfl, rfl⟩
       refine go ?_
       refine jA [] (N_nameKey from_ (by omega)) ?_
       rintro _ _ ⟨u_34, e_32, f_35, rfl, rfl⟩
       refine jA [0, 0, 0, 0] (N_layNil p x_30 m_31 k_29 (by omega) (by omega) u_34 (by omega)) ?_
       rintro _ _ ⟨x_38, m_39, e_36, k_37, rfl, rfl⟩
       refine go ?_
       refine jE (.inl rfl) rfl (jC (v := iv 0) rfl) (List.Sublist.refl _) ?_
       exact ⟨x_38, m_39, 0, (by simp only [MS.renameName, e_1, h_4, e_5, h_8, e_9, h_15, e_16, h_22, h_23, e_24, e_28, e_32, e_36, SB]; (repeat (first | rw [if_pos (by omega)] | rw [if_neg (by omega)])); all_goals (first | rfl | simp only [SB, e_1, h_4, e_5, h_8, e_9, h_15, e_16, h_22, h_23, e_24, e_28, e_32, e_36])), (k_37.mono (by omega) (by omega)), (by first | omega | (simp only [LE]; omega)), rfl, rfl⟩
     refine go ?_
     refine jA [0, 0, 0, 0] (N_unlinkName p x_18 m_19 k_17 (by omega) (by omega) to_ (by omega)) ?_
     rintro _ _ ⟨x_42, m_43, n_44, e_40, k_41, f_45, rfl, rfl⟩
     refine go ?_
     refine jA [] (N_nameKey to_ (by omega)) ?_
     rintro _ _ ⟨u_48, e_46, f_49, rfl, rfl⟩
     refine go ?_
     refine jA [0, 0, 0, 0] (N_setNum p x_42 m_43 k_41 (by omega) (by omega) u_48 n_13 (by omega) (by omega)) ?_
     rintro _ _ ⟨x_52, m_53, e_50, k_51, rfl, rfl⟩
     refine go ?_
     refine jA [] (N_nameKey from_ (by omega)) ?_
     rintro _ _ ⟨u_56, e_54, f_57, rfl, rfl⟩
     refine jA [0, 0, 0, 0] (N_layNil p x_52 m_53 k_51 (by omega) (by omega) u_56 (by omega)) ?_
     rintro _ _ ⟨x_60, m_61, e_58, k_59, rfl, rfl⟩
     refine go ?_
     refine jE (.inl rfl) rfl (jC (v := iv 0) rfl) (List.Sublist.refl _) ?_
     exact ⟨x_60, m_61, 0, (by simp only [MS.renameName, e_1, h_4, e_5, h_8, e_9, h_15, e_16, h_22, h_23, e_40, e_46, e_50, e_54, e_58, SB]; (repeat (first | rw [if_pos (by omega)] | rw [if_neg (by omega)])); all_goals (first | rfl | simp only [SB, e_1, h_4, e_5, h_8, e_9, h_15, e_16, h_22, h_23, e_40, e_46, e_50, e_54, e_58])), (k_59.mono (by omega) (by omega)), (by first | omega | (simp only [LE]; omega)), rfl, rfl⟩
   refine go ?_
   refine jE (.inl rfl) rfl (jC (v := iv 4) rfl) (List.Sublist.refl _) ?_
   exact ⟨x, m, 4, (by simp only [MS.renameName, e_1, h_4, e_5, h_8, SB]; (repeat (first | rw [if_pos (by omega)] | rw [if_neg (by omega)])); all_goals (first | rfl | simp only [SB, e_1, h_4, e_5, h_8])), (hk.mono (by omega) (by omega)), (by first | omega | (simp only [LE]; omega)), rfl, rfl⟩
 refine go ?_
 refine jE (.inl rfl) rfl (jC (v := iv 4) rfl) (List.Sublist.refl _) ?_
 exact ⟨x, m, 4, (by simp only [MS.renameName, e_1, h_4, SB]; (repeat (first | rw [if_pos (by omega)] | rw [if_neg (by omega)])); all_goals (first | rfl | simp only [SB, e_1, h_4])), (hk.mono (by omega) (by omega)), (by first | omega | (simp only [LE]; omega)), rfl, rfl⟩

theorem M_renameName (x : MA) (m : MS) {S T : Nat} (hk : m.ok S T) (hS : S ≤ 200000000) (hT : T ≤ 1150000000) (from_ : Str) (to_ : Str) (hfrom_ : from_.length ≤ 100000000) (hto_ : to_.length ≤ 100000000) :
   Ct Tryz.prog 234 [mv x m, str from_, str to_] (mr x m) (fun _ => True) (fun v A' => ∃ x' m' r0, MS.renameName m from_ to_ = (m', r0) ∧ m'.ok (S + 2) (T + S + 8) ∧ (0 ≤ r0 ∧ r0 ≤ 9) ∧ v = .tuple #[mv x' m', .int .i64 r0] ∧ A' = mr x' m') := by
 refine Ct.intro Tryz.func234 rfl Tryz.ntmps234 (lb rfl) fun w0 hpre => ?_
 refine go ?_
 refine jM (mc x m) fun b_1 => ?_
 refine jG zC fun b_2 => ?_
 refine go ?_
 refine jA [] (N_sNameOk from_ (by omega)) ?_
 rintro _ _ ⟨b_5, e_3, rfl, rfl⟩
 refine go ?_
 rcases Bool.eq_false_or_eq_true (b_5) with h_6 | h_6
 · refine go ?_
   refine jW rfl rfl rfl (cB (cN h_6)) (jO [] Tryz.call311 rfl (N_sNameOk to_ (by omega)) rfl (fun _ _ => trivial)) ?_
   rintro _ _ ⟨_, ⟨b_9, e_7, rfl, rfl⟩, rfl⟩
   refine go ?_
   rcases Bool.eq_false_or_eq_true (b_9) with h_10 | h_10
   · refine go ?_
     refine jA [2, 2, 2] (M_fileOf x m hk (by omega) (by omega) from_ (by omega)) ?_
     rintro _ _ ⟨x_13, m_14, n_15, e_11, k_12, f_16, rfl, rfl⟩
     refine go ?_
     refine jD 4 (mc x_13 m_14) ?_
     refine go ?_
     by_cases h_17 : n_15 = 0
     · refine go ?_
       refine jD 3 (mc x_13 m_14) ?_
       refine go ?_
       exact jQ [0, 0, 0] ⟨x_13, m_14, 2, (by simp only [MS.renameName, e_3, h_6, e_7, h_10, e_11, h_17, SB]; (repeat (first | rw [if_pos (by omega)] | rw [if_neg (by omega)])); all_goals (first | rfl | simp only [SB, e_3, h_6, e_7, h_10, e_11, h_17])), (k_12.mono (by omega) (by omega)), (by first | omega | (simp only [LE]; omega)), rfl, rfl⟩
     refine go ?_
     refine jA [0, 0, 0] (M_fileOf x_13 m_14 k_12 (by omega) (by omega) to_ (by omega)) ?_
     rintro _ _ ⟨x_20, m_21, n_22, e_18, k_19, f_23, rfl, rfl⟩
     refine go ?_
     refine jD 4 (mc x_20 m_21) ?_
     refine go ?_
     by_cases h_24 : n_22 = n_15
     · refine go ?_
       refine jD 3 (mc x_20 m_21) ?_
       refine go ?_
       exact jQ [0, 0, 0] ⟨x_20, m_21, 0, (by simp only [MS.renameName, e_3, h_6, e_7, h_10, e_11, h_17, e_18, h_24, SB]; (repeat (first | rw [if_pos (by omega)] | rw [if_neg (by omega)])); all_goals (first | rfl | simp only [SB, e_3, h_6, e_7, h_10, e_11, h_17, e_18, h_24])), (k_19.mono (by omega) (by omega)), (by first | omega | (simp only [LE]; omega)), rfl, rfl⟩
     refine go ?_
     by_cases h_25 : n_22 = 0
     · refine go ?_
       refine jA [0, 0, 0] (N_sSetNum x_20 m_21 k_19 (by omega) (by omega) ([110, 47] ++ to_) n_15 (by first | omega | (simp only [LE]; omega)) (by omega)) ?_
       rintro _ _ ⟨x_28, m_29, e_26, k_27, rfl, rfl⟩
       refine jD 4 (mc x_28 m_29) ?_
       refine go ?_
       refine jA [0, 0, 0] (N_sLayNil x_28 m_29 k_27 (by omega) (by omega) ([110, 47] ++ from_) (by first | omega | (simp only [LE]; omega))) ?_
       rintro _ _ ⟨x_32, m_33, e_30, k_31, rfl, rfl⟩
       refine jD 3 (mc x_32 m_33) ?_
       refine go ?_
       exact jQ [0, 0, 0] ⟨x_32, m_33, 0, (by simp only [MS.renameName, e_3, h_6, e_7, h_10, e_11, h_17, e_18, h_24, h_25, e_26, e_30, SB]; (repeat (first | rw [if_pos (by omega)] | rw [if_neg (by omega)])); all_goals (first | rfl | simp only [SB, e_3, h_6, e_7, h_10, e_11, h_17, e_18, h_24, h_25, e_26, e_30])), (k_31.mono (by omega) (by omega)), (by first | omega | (simp only [LE]; omega)), rfl, rfl⟩
     refine go ?_
     refine jA [0, 0, 0] (M_unlinkName x_20 m_21 k_19 (by omega) (by omega) to_ (by omega)) ?_
     rintro _ _ ⟨x_36, m_37, n_38, e_34, k_35, f_39, rfl, rfl⟩
     refine go ?_
     refine jD 4 (mc x_36 m_37) ?_
     refine go ?_
     refine jA [0, 0, 0] (N_sSetNum x_36 m_37 k_35 (by omega) (by omega) ([110, 47] ++ to_) n_15 (by first | omega | (simp only [LE]; omega)) (by omega)) ?_
     rintro _ _ ⟨x_42, m_43, e_40, k_41, rfl, rfl⟩
     refine jD 4 (mc x_42 m_43) ?_
     refine go ?_
     refine jA [0, 0, 0] (N_sLayNil x_42 m_43 k_41 (by omega) (by omega) ([110, 47] ++ from_) (by first | omega | (simp only [LE]; omega))) ?_
     rintro _ _ ⟨x_46, m_47, e_44, k_45, rfl, rfl⟩
     refine jD 3 (mc x_46 m_47) ?_
     refine go ?_
     exact jQ [0, 0, 0] ⟨x_46, m_47, 0, (by simp only [MS.renameName, e_3, h_6, e_7, h_10, e_11, h_17, e_18, h_24, h_25, e_34, e_40, e_44, SB]; (repeat (first | rw [if_pos (by omega)] | rw [if_neg (by omega)])); all_goals (first | rfl | simp only [SB, e_3, h_6, e_7, h_10, e_11, h_17, e_18, h_24, h_25, e_34, e_40, e_44])), (k_45.mono (by omega) (by omega)), (by first | omega | (simp only [LE]; omega)), rfl, rfl⟩
   refine go ?_
   refine jD 0 (mc x m) ?_
   refine go ?_
   exact jQ [2, 2, 2] ⟨x, m, 4, (by simp only [MS.renameName, e_3, h_6, e_7, h_10, SB]; (repeat (first | rw [if_pos (by omega)] | rw [if_neg (by omega)])); all_goals (first | rfl | simp only [SB, e_3, h_6, e_7, h_10])), (hk.mono (by omega) (by omega)), (by first | omega | (simp only [LE]; omega)), rfl, rfl⟩
 refine go ?_
 refine jD 0 (mc x m) ?_
 refine go ?_
 exact jQ [2, 2, 2] ⟨x, m, 4, (by simp only [MS.renameName, e_3, h_6, SB]; (repeat (first | rw [if_pos (by omega)] | rw [if_neg (by omega)])); all_goals (first | rfl | simp only [SB, e_3, h_6])), (hk.mono (by omega) (by omega)), (by first | omega | (simp only [LE]; omega)), rfl, rfl⟩

theorem N_names (p : Nat) (x : MA) (m : MS) {S T : Nat} (hk : m.ok S T) (hS : S ≤ 250000000) (hT : T ≤ 1200000000)  :
   Ct Tryz.prog 212 [.pointer (some ⟨p, 0, none⟩)] (mb p x m :: mr x m) (fun _ => True) (fun v A' => ∃ x' m' r0a r0c r0, MS.names m = (m', r0) ∧ m'.ok (S) (T + 1) ∧ r0.length ≤ S ∧ v = .slice r0a r0.length r0c ∧ A' = mb p x' m' :: mr x' m' ++ [rS r0a r0c r0]) := by
 refine Ct.intro Tryz.func212 rfl Tryz.ntmps212 (lb rfl) fun w0 hpre => ?_
 refine go ?_
 refine jA [0, 0, 0, 0] (N_under p x m hk (by omega) (by omega) [110, 47] (by decide)) ?_
 rintro _ _ ⟨x_3, m_4, l_5a, l_5c, l_5, e_1, k_2, f_6, rfl, rfl⟩
 refine go ?_
 have hll := f_6.1
 refine JC.nilRow 9 1 <| jL (fun k_ e_ L_ => ∃ j : Nat, ∃ out_a : Option Addr, ∃ out_c : Nat, ∃ out_ : List Str, (j ≤ l_5.length) ∧ (out_.length ≤ j) ∧ (dropAcc 2 (l_5.drop j) out_ = dropAcc 2 l_5 ([] : List Str)) ∧ EL e_ [(2, .slice none 0 0), (3, .slice out_a out_.length out_c), (7, .slice l_5a l_5.length l_5c), (8, nv l_5.length), (9, nv j)] ∧ L_ = [rS out_a out_c out_, mb p x_3 m_4, rC x_3.a0 x_3.c0 m_4.s, rS x_3.a1 x_3.c1 m_4.r, rS x_3.a2 x_3.c2 m_4.w, rS l_5a l_5c l_5] ∧ k_ = l_5.length - j) _ ⟨0, none, 0, ([] : List Str), by omega, (by first | omega | (simp only [LE]; omega)), rfl, EL.go, rfl, rfl⟩ ?_
 rintro _ _ _ ⟨j, out_a, out_c, out_, hj, ho, hR, ⟨_, rfl⟩, rfl, rfl⟩
 refine go ?_
 by_cases h_7 : ((j : Nat) : Int) < ((l_5.length : Nat) : Int)
 · have hlt : j < l_5.length := by omega
   have hbj := f_6.2 j hlt
   try simp only [List.length_cons, List.length_nil] at hbj
   refine go ?_
   refine jo fun hst => ?_
   obtain ⟨hr_8, hr_8b, -⟩ := row_some 5 rfl (by omega) hst
   refine go ?_
   refine jU (jr 5 (v := str (l_5.getD j [])) rfl rfl kJ (atS (by omega))) ?_
   refine go ?_
   refine jK (PO.sliceSl (i := 2) kO rfl rfl (by omega)) ?_
   refine jF rfl (jR (ps := [(0, str ((l_5.getD j []).drop 2))]) (cur := #[str ((l_5.getD j []).drop 2)]) kI kM kV rfl (by kernel_rfl) (by decide) (by decide)) ?_
   rintro _ _ ⟨a_9, rfl, rfl⟩
   refine jF rfl (jX 1 (q := 1) (news := ([(l_5.getD j []).drop 2] : List Str).map str) (n' := (out_ ++ ([(l_5.getD j []).drop 2] : List Str)).length) (cs' := (out_ ++ ([(l_5.getD j []).drop 2] : List Str)).map str) rfl kI kI kd rfl (by' := 16) rfl rfl rfl rfl rfl (fun w hw => Src.sees (hw.see (i := 0) rfl) (oneS _)) (by (try simp only [LE]); omega) (by (try simp only [LE]); omega) (by simp only [List.length_append, List.length_take, List.length_drop, List.length_cons, List.length_nil] <;> first | rfl | omega) (by simp only [List.map_append])) ?_
   rintro _ _ ⟨a_10, c_11, rfl, rfl⟩
   refine go ?_
   exact jP [1, 1, 1, 1, 1, 1] ⟨j + 1, a_10, c_11, (out_ ++ ([(l_5.getD j []).drop 2] : List Str)), by omega, (by first | omega | (simp only [LE]; omega)), (by rw [drop_at (getD_some (d := []) hlt)] at hR; simp only [dropAcc, e_1, h_7, SB] at hR; (repeat (first | rw [if_pos (by omega)] at hR | rw [if_neg (by omega)] at hR)); exact hR), EL.go, rfl, rfl⟩
 rw [List.drop_of_length_le (by omega)] at hR
 simp only [dropAcc] at hR
 have hE := hR.symm
 refine go ?_
 exact jJ [1, 1, 1, 1, 0] ⟨x_3, m_4, out_a, out_c, out_, (by simp only [MS.names, e_1, h_7, hE, SB]; (repeat (first | rw [if_pos (by omega)] | rw [if_neg (by omega)])); all_goals (first | rfl | simp only [SB, e_1, h_7, hE])), (k_2.mono (by omega) (by omega)), (by first | omega | (simp only [LE]; omega)), rfl, rfl⟩

theorem M_names (x : MA) (m : MS) {S T : Nat} (hk : m.ok S T) (hS : S ≤ 250000000) (hT : T ≤ 1200000000)  :
   Ct Tryz.prog 314 [mv x m] (mr x m) (fun _ => True) (fun v A' => ∃ x' m' r0a r0c r0, MS.names m = (m', r0) ∧ m'.ok (S) (T + 1) ∧ r0.length ≤ S ∧ v = .tuple #[mv x' m', .slice r0a r0.length r0c] ∧ A' = mr x' m' ++ [rS r0a r0c r0]) := by
 refine Ct.intro Tryz.func314 rfl Tryz.ntmps314 (lb rfl) fun w0 hpre => ?_
 refine go ?_
 refine jM (mc x m) fun b_1 => ?_
 refine jG zC fun b_2 => ?_
 refine go ?_
 refine jA [2, 2, 2] (N_sUnder x m hk (by omega) (by omega) [110, 47] (by decide)) ?_
 rintro _ _ ⟨x_5, m_6, l_7a, l_7c, l_7, e_3, k_4, f_8, rfl, rfl⟩
 refine go ?_
 refine jD 5 (mc x_5 m_6) ?_
 refine go ?_
 refine jF rfl (jR (ps := []) (cur := #[]) kI kM kV rfl (by kernel_rfl) (by decide) (by decide)) ?_
 rintro _ _ ⟨a_9, rfl, rfl⟩
 refine go ?_
 have hll := f_8.1
 refine jL (fun k_ e_ L_ => ∃ j : Nat, ∃ out_a : Option Addr, ∃ out_c : Nat, ∃ out_ : List Str, (j ≤ l_7.length) ∧ (out_.length ≤ j) ∧ (dropAcc 2 (l_7.drop j) out_ = dropAcc 2 l_7 ([] : List Str)) ∧ EL e_ [(1, .pointer (some ⟨b_1, 0, none⟩)), (2, .pointer (some ⟨b_2, 0, none⟩)), (3, .slice none 0 0), (4, .slice l_7a l_7.length l_7c), (5, .slice out_a out_.length out_c), (6, nv j)] ∧ L_ = [rS out_a out_c out_, rC x_5.a0 x_5.c0 m_6.s, rS x_5.a1 x_5.c1 m_6.r, rS x_5.a2 x_5.c2 m_6.w, rS l_7a l_7c l_7, bk b_2 60 zC, mb b_1 x_5 m_6] ∧ k_ = l_7.length - j) _ ⟨0, a_9, 0, ([] : List Str), by omega, (by first | omega | (simp only [LE]; omega)), rfl, EL.go, rfl, rfl⟩ ?_
 rintro _ _ _ ⟨j, out_a, out_c, out_, hj, ho, hR, ⟨_, rfl⟩, rfl, rfl⟩
 refine go ?_
 by_cases h_10 : ((j : Nat) : Int) < ((l_7.length : Nat) : Int)
 · have hlt : j < l_7.length := by omega
   have hbj := f_8.2 j hlt
   try simp only [List.length_cons, List.length_nil] at hbj
   refine go ?_
   refine jo fun hst => ?_
   obtain ⟨hr_11, hr_11b, -⟩ := row_some 4 rfl (by omega) hst
   refine go ?_
   refine jU (jr 4 (v := str (l_7.getD j [])) rfl rfl kJ (atS (by omega))) <| jK (PO.sliceSl (i := 2) kO rfl rfl (by omega)) ?_
   refine jF rfl (jR (ps := [(0, str ((l_7.getD j []).drop 2))]) (cur := #[str ((l_7.getD j []).drop 2)]) kI kM kV rfl (by kernel_rfl) (by decide) (by decide)) ?_
   rintro _ _ ⟨a_12, rfl, rfl⟩
   refine jF rfl (jX 1 (q := 1) (news := ([(l_7.getD j []).drop 2] : List Str).map str) (n' := (out_ ++ ([(l_7.getD j []).drop 2] : List Str)).length) (cs' := (out_ ++ ([(l_7.getD j []).drop 2] : List Str)).map str) rfl kI kI kd rfl (by' := 16) rfl rfl rfl rfl rfl (fun w hw => Src.sees (hw.see (i := 0) rfl) (oneS _)) (by (try simp only [LE]); omega) (by (try simp only [LE]); omega) (by simp only [List.length_append, List.length_take, List.length_drop, List.length_cons, List.length_nil] <;> first | rfl | omega) (by simp only [List.map_append])) ?_
   rintro _ _ ⟨a_13, c_14, rfl, rfl⟩
   refine go ?_
   exact jP [1, 1, 1, 1, 1, 1, 1] ⟨j + 1, a_13, c_14, (out_ ++ ([(l_7.getD j []).drop 2] : List Str)), by omega, (by first | omega | (simp only [LE]; omega)), (by rw [drop_at (getD_some (d := []) hlt)] at hR; simp only [dropAcc, e_3, h_10, SB] at hR; (repeat (first | rw [if_pos (by omega)] at hR | rw [if_neg (by omega)] at hR)); exact hR), EL.go, rfl, rfl⟩
 rw [List.drop_of_length_le (by omega)] at hR
 simp only [dropAcc] at hR
 have hE := hR.symm
 refine go ?_
 refine jD 5 (mc x_5 m_6) ?_
 refine go ?_
 exact jQ [1, 1, 1, 0] ⟨x_5, m_6, out_a, out_c, out_, (by simp only [MS.names, e_3, h_10, hE, SB]; (repeat (first | rw [if_pos (by omega)] | rw [if_neg (by omega)])); all_goals (first | rfl | simp only [SB, e_3, h_10, hE])), (k_4.mono (by omega) (by omega)), (by first | omega | (simp only [LE]; omega)), rfl, rfl⟩

theorem N_tick (p : Nat) (x : MA) (m : MS) {S T : Nat} (hk : m.ok S T) (hS : S ≤ 30000000) (hT : T ≤ 1030000000) (n : Int) (hn : -9223372036854775808 ≤ n ∧ n ≤ 9223372036854775807) :
   Ct Tryz.prog 225 [.pointer (some ⟨p, 0, none⟩), .int .i64 n] (mb p x m :: mr x m) (fun _ => True) (fun v A' => ∃ x' m' r0 r1, MS.tick m n = (m', r0, r1) ∧ m'.ok (3 * S + 3) (T + 7 * S + 10) ∧ (0 ≤ r0 ∧ r0 ≤ 1000000000) ∧ (0 ≤ r1 ∧ r1 ≤ 9) ∧ v = .tuple #[.int .i64 r0, .int .i64 r1] ∧ A' = mb p x' m' :: mr x' m') := by
 refine Ct.intro Tryz.func225 rfl Tryz.ntmps225 (lb rfl) fun w0 hpre => ?_
 refine go ?_
 by_cases h_1 : n < 1
 · refine go ?_
   refine ji (.inl rfl) rfl (jC (v := iv 0) rfl) (jC (v := iv 4) rfl) (List.Sublist.refl _) ?_
   exact ⟨x, m, 0, 4, (by simp only [MS.tick, h_1, SB]; (repeat (first | rw [if_pos (by omega)] | rw [if_neg (by omega)])); all_goals (first | rfl | simp only [SB, h_1])), (hk.mono (by omega) (by omega)), (by first | omega | (simp only [LE]; omega)), (by first | omega | (simp only [LE]; omega)), rfl, rfl⟩
 refine go ?_
 refine jA [0, 0, 0, 0] (N_num p x m hk (by omega) (by omega) [99, 47, 99, 108, 111, 99, 107]) ?_
 rintro _ _ ⟨x_4, m_5, n_6, e_2, k_3, f_7, rfl, rfl⟩
 refine go ?_
 refine jK (jg (c := 999 - n_6) rfl rfl (wr (by omega))) ?_
 refine go ?_
 by_cases h_8 : (999 - n_6) < n
 · refine go ?_
   refine ji (.inl rfl) rfl (jC (v := iv 0) rfl) (jC (v := iv 3) rfl) (List.Sublist.refl _) ?_
   exact ⟨x_4, m_5, 0, 3, (by simp only [MS.tick, h_1, e_2, h_8, SB]; (repeat (first | rw [if_pos (by omega)] | rw [if_neg (by omega)])); all_goals (first | rfl | simp only [SB, h_1, e_2, h_8])), (k_3.mono (by omega) (by omega)), (by first | omega | (simp only [LE]; omega)), (by first | omega | (simp only [LE]; omega)), rfl, rfl⟩
 refine go ?_
 refine jA [0, 0, 0, 0] (N_setNum p x_4 m_5 k_3 (by omega) (by omega) [99, 47, 99, 108, 111, 99, 107] (n_6 + n) (by decide) (by omega)) ?_
 rintro _ _ ⟨x_11, m_12, e_9, k_10, rfl, rfl⟩
 refine go ?_
 refine jA [0, 0, 0, 0] (N_under p x_11 m_12 k_10 (by omega) (by omega) [116, 47] (by decide)) ?_
 rintro _ _ ⟨x_15, m_16, l_17a, l_17c, l_17, e_13, k_14, f_18, rfl, rfl⟩
 refine go ?_
 have hll := f_18.1
 refine jL (fun k_ e_ L_ => ∃ j : Nat, ∃ x : MA, ∃ mm : MS, ∃ expired_ : Int, (j ≤ l_17.length) ∧ (mm.ok ((S + 1) + 2 * j) (((T + 1) + 1) + 1 + 7 * j)) ∧ (0 ≤ expired_ ∧ expired_ ≤ ((j : Nat) : Int)) ∧ (MS.tickL (n_6 + n) (l_17.drop j) mm expired_ = MS.tickL (n_6 + n) l_17 m_16 0) ∧ EL e_ [(0, pv p), (4, iv 0), (5, iv 0), (6, iv (n_6 + n)), (7, iv expired_), (25, .slice l_17a l_17.length l_17c), (26, nv l_17.length), (27, nv j)] ∧ L_ = [mb p x mm, rC x.a0 x.c0 mm.s, rS x.a1 x.c1 mm.r, rS x.a2 x.c2 mm.w, rS l_17a l_17c l_17] ∧ k_ = l_17.length - j) _ ⟨0, x_15, m_16, 0, by omega, (k_14.mono (by omega) (by omega)), (by first | omega | (simp only [LE]; omega)), rfl, EL.go, rfl, rfl⟩ ?_
 rintro _ _ _ ⟨j, x, mm, expired_, hj, hkmm, hx, hR, ⟨_, rfl⟩, rfl, rfl⟩
 refine go ?_
 by_cases h_19 : ((j : Nat) : Int) < ((l_17.length : Nat) : Int)
 · have hlt : j < l_17.length := by omega
   have hbj := f_18.2 j hlt
   try simp only [List.length_cons, List.length_nil] at hbj
   refine go ?_
   refine jo fun hst => ?_
   obtain ⟨hr_20, hr_20b, -⟩ := row_some 4 rfl (by omega) hst
   refine go ?_
   refine jU (jr 4 (v := str (l_17.getD j [])) rfl rfl kJ (atS (by omega))) ?_
   refine go ?_
   refine jA [0, 0, 0, 0] (N_num p x mm hkmm (by omega) (by omega) (l_17.getD j [])) ?_
   rintro _ _ ⟨x_23, m_24, n_25, e_21, k_22, f_26, rfl, rfl⟩
   refine go ?_
   by_cases h_27 : (n_6 + n) < n_25
   · refine go ?_
     exact jP [0, 0, 0, 0, 0] ⟨j + 1, x_23, m_24, expired_, by omega, (k_22.mono (by omega) (by omega)), (by first | omega | (simp only [LE]; omega)), (by rw [drop_at (getD_some (d := []) hlt)] at hR; simp only [MS.tickL, h_1, e_2, h_8, e_9, e_13, h_19, e_21, h_27, SB] at hR; (repeat (first | rw [if_pos (by omega)] at hR | rw [if_neg (by omega)] at hR)); exact hR), EL.go, rfl, rfl⟩
   refine go ?_
   refine jA [0, 0, 0, 0] (N_layNil p x_23 m_24 k_22 (by omega) (by omega) (l_17.getD j []) (by omega)) ?_
   rintro _ _ ⟨x_30, m_31, e_28, k_29, rfl, rfl⟩
   refine go ?_
   refine jK (PO.sliceSl (i := 2) kO rfl rfl (by omega)) ?_
   refine jA [] (N_numOf ((l_17.getD j []).drop 2) (by first | omega | (simp only [LE]; omega))) ?_
   rintro _ _ ⟨n_34, e_32, f_35, rfl, rfl⟩
   refine jA [0, 0, 0, 0] (N_send p x_30 m_31 k_29 (by omega) (by omega) n_34 14 (by omega) (by omega)) ?_
   rintro _ _ ⟨x_38, m_39, n_40, e_36, k_37, f_41, rfl, rfl⟩
   refine go ?_
   exact jP [0, 0, 0, 0, 0] ⟨j + 1, x_38, m_39, (expired_ + 1), by omega, (k_37.mono (by omega) (by omega)), (by first | omega | (simp only [LE]; omega)), (by rw [drop_at (getD_some (d := []) hlt)] at hR; simp only [MS.tickL, h_1, e_2, h_8, e_9, e_13, h_19, e_21, h_27, e_28, e_32, e_36, SB] at hR; (repeat (first | rw [if_pos (by omega)] at hR | rw [if_neg (by omega)] at hR)); exact hR), EL.go, rfl, rfl⟩
 rw [List.drop_of_length_le (by omega)] at hR
 simp only [MS.tickL] at hR
 have hE := hR.symm
 refine go ?_
 exact jQ [0, 0, 0, 0] ⟨x, mm, expired_, 0, (by simp only [MS.tick, h_1, e_2, h_8, e_9, e_13, h_19, hE, SB]; (repeat (first | rw [if_pos (by omega)] | rw [if_neg (by omega)])); all_goals (first | rfl | simp only [SB, h_1, e_2, h_8, e_9, e_13, h_19, hE])), (hkmm.mono (by omega) (by omega)), (by first | omega | (simp only [LE]; omega)), (by first | omega | (simp only [LE]; omega)), rfl, rfl⟩

theorem M_tick (x : MA) (m : MS) {S T : Nat} (hk : m.ok S T) (hS : S ≤ 30000000) (hT : T ≤ 1030000000) (n : Int) (hn : -9223372036854775808 ≤ n ∧ n ≤ 9223372036854775807) :
   Ct Tryz.prog 243 [mv x m, .int .i64 n] (mr x m) (fun _ => True) (fun v A' => ∃ x' m' r0 r1, MS.tick m n = (m', r0, r1) ∧ m'.ok (3 * S + 3) (T + 7 * S + 10) ∧ (0 ≤ r0 ∧ r0 ≤ 1000000000) ∧ (0 ≤ r1 ∧ r1 ≤ 9) ∧ v = .tuple #[mv x' m', .int .i64 r0, .int .i64 r1] ∧ A' = mr x' m') := by
 refine Ct.intro Tryz.func243 rfl Tryz.ntmps243 (lb rfl) fun w0 hpre => ?_
 refine go ?_
 refine jM (mc x m) fun b_1 => ?_
 refine jG zC fun b_2 => ?_
 refine go ?_
 by_cases h_3 : n < 1
 · refine go ?_
   refine jD 0 (mc x m) ?_
   refine go ?_
   exact jt [2, 2, 2] ⟨x, m, 0, 4, (by simp only [MS.tick, h_3, SB]; (repeat (first | rw [if_pos (by omega)] | rw [if_neg (by omega)])); all_goals (first | rfl | simp only [SB, h_3])), (hk.mono (by omega) (by omega)), (by first | omega | (simp only [LE]; omega)), (by first | omega | (simp only [LE]; omega)), rfl, rfl⟩
 refine go ?_
 refine jA [2, 2, 2] (N_sNumAt x m hk (by omega) (by omega) [99, 47, 99, 108, 111, 99, 107]) ?_
 rintro _ _ ⟨x_6, m_7, n_8, e_4, k_5, f_9, rfl, rfl⟩
 refine go ?_
 refine jD 4 (mc x_6 m_7) ?_
 refine go ?_
 refine jK (jg (c := 999 - n_8) rfl rfl (wr (by omega))) ?_
 refine go ?_
 by_cases h_10 : (999 - n_8) < n
 · refine go ?_
   refine jD 3 (mc x_6 m_7) ?_
   refine go ?_
   exact jt [0, 0, 0] ⟨x_6, m_7, 0, 3, (by simp only [MS.tick, h_3, e_4, h_10, SB]; (repeat (first | rw [if_pos (by omega)] | rw [if_neg (by omega)])); all_goals (first | rfl | simp only [SB, h_3, e_4, h_10])), (k_5.mono (by omega) (by omega)), (by first | omega | (simp only [LE]; omega)), (by first | omega | (simp only [LE]; omega)), rfl, rfl⟩
 refine go ?_
 refine jA [0, 0, 0] (N_sSetNum x_6 m_7 k_5 (by omega) (by omega) [99, 47, 99, 108, 111, 99, 107] (n_8 + n) (by decide) (by omega)) ?_
 rintro _ _ ⟨x_13, m_14, e_11, k_12, rfl, rfl⟩
 refine jD 4 (mc x_13 m_14) ?_
 refine go ?_
 refine jA [0, 0, 0] (N_sUnder x_13 m_14 k_12 (by omega) (by omega) [116, 47] (by decide)) ?_
 rintro _ _ ⟨x_17, m_18, l_19a, l_19c, l_19, e_15, k_16, f_20, rfl, rfl⟩
 refine go ?_
 refine jD 5 (mc x_17 m_18) ?_
 refine go ?_
 have hll := f_20.1
 refine JC.pk [5, 0, 0, 0, 0, 0] ?_
 refine jL (fun k_ e_ L_ => ∃ j : Nat, ∃ x : MA, ∃ mm : MS, ∃ kv9_ : Int, (j ≤ l_19.length) ∧ (mm.ok ((S + 1) + 2 * j) (((T + 1) + 1) + 1 + 7 * j)) ∧ (0 ≤ kv9_ ∧ kv9_ ≤ ((j : Nat) : Int)) ∧ (MS.tickL (n_8 + n) (l_19.drop j) mm kv9_ = MS.tickL (n_8 + n) l_19 m_18 0) ∧ EL e_ [(1, iv n), (2, .pointer (some ⟨b_1, 0, none⟩)), (4, .pointer (some ⟨b_2, 0, none⟩)), (5, iv 0), (6, iv 0), (7, iv n_8), (8, .slice l_19a l_19.length l_19c), (9, iv kv9_), (10, nv j)] ∧ L_ = [mb b_1 x mm, rC x.a0 x.c0 mm.s, rS x.a1 x.c1 mm.r, rS x.a2 x.c2 mm.w, rS l_19a l_19c l_19, bk b_2 60 zC] ∧ k_ = l_19.length - j) _ ⟨0, x_17, m_18, 0, by omega, (k_16.mono (by omega) (by omega)), (by first | omega | (simp only [LE]; omega)), rfl, EL.go, rfl, rfl⟩ ?_
 rintro _ _ _ ⟨j, x, mm, kv9_, hj, hkmm, hx, hR, ⟨_, rfl⟩, rfl, rfl⟩
 refine go ?_
 by_cases h_21 : ((j : Nat) : Int) < ((l_19.length : Nat) : Int)
 · have hlt : j < l_19.length := by omega
   have hbj := f_20.2 j hlt
   try simp only [List.length_cons, List.length_nil] at hbj
   refine go ?_
   refine jH [0] 9 ?_
   refine go ?_
   refine JA.facts fun hst => ?_
   obtain ⟨hr_22, hr_22b, -⟩ := row_some 4 rfl (by omega) hst
   refine go ?_
   refine jB (i := 4) ?_
   refine ja rfl rfl (jm (jr 4 (v := str (l_19.getD j [])) rfl rfl kJ (atS (by omega)))) ?_
   rintro _ _ ⟨rfl, rfl⟩
   refine ⟨all_go, ?_⟩
   refine jB (i := 5) ?_
   refine jI [1, 1, 1] (N_sNumAt x mm hkmm (by omega) (by omega) (l_19.getD j [])) ?_
   rintro _ _ ⟨x_31, m_32, n_33, e_29, k_30, f_34, rfl, rfl⟩
   refine go ?_
   refine jB (i := 9) ?_
   refine jf 3 (mc x_31 m_32) ?_
   refine go ?_
   by_cases h_35 : n_33 ≤ (n_8 + n)
   · refine go ?_
     refine jH [3] 5 ?_
     refine go ?_
     refine jB (i := 4) ?_
     refine ja rfl rfl (jm (jr 4 (v := str (l_19.getD j [])) rfl rfl kJ (atS (by omega)))) ?_
     rintro _ _ ⟨rfl, rfl⟩
     refine ⟨all_go, ?_⟩
     refine jB (i := 5) ?_
     refine kE [0, 0, 0] (N_sLayNil x_31 m_32 k_30 (by omega) (by omega) (l_19.getD j []) (by omega)) ?_
     rintro _ _ ⟨x_42, m_43, e_40, k_41, rfl, rfl⟩
     refine jB (i := 6) ?_
     refine jS 3 (mc x_42 m_43) ?_
     refine go ?_
     refine jH [3] 11 ?_
     refine go ?_
     refine jB (i := 4) ?_
     refine ja rfl rfl (jm (jr 4 (v := str (l_19.getD j [])) rfl rfl kJ (atS (by omega)))) ?_
     rintro _ _ ⟨rfl, rfl⟩
     refine ⟨all_go, ?_⟩
     refine jd 5 rfl (PO.sliceSl (i := 2) kO rfl rfl (by omega)) ?_
     refine jB (i := 6) ?_
     refine jI [] (N_sNumOf ((l_19.getD j []).drop 2) (by first | omega | (simp only [LE]; omega))) ?_
     rintro _ _ ⟨n_50, e_48, f_51, rfl, rfl⟩
     refine jB (i := 7) ?_
     refine jI [0, 0, 0] (M_send x_42 m_43 k_41 (by omega) (by omega) n_50 14 (by omega) (by omega)) ?_
     rintro _ _ ⟨x_60, m_61, n_62, e_58, k_59, f_63, rfl, rfl⟩
     refine go ?_
     refine jB (i := 11) ?_
     refine jS 3 (mc x_60 m_61) ?_
     refine go ?_
     exact jP [3, 0, 0, 0, 0, 0] ⟨j + 1, x_60, m_61, (kv9_ + 1), by omega, (k_59.mono (by omega) (by omega)), (by first | omega | (simp only [LE]; omega)), (by rw [drop_at (getD_some (d := []) hlt)] at hR; simp only [MS.tickL, h_3, e_4, h_10, e_11, e_15, h_21, e_29, h_35, e_40, e_48, e_58, SB] at hR; (repeat (first | rw [if_pos (by omega)] at hR | rw [if_neg (by omega)] at hR)); exact hR), EL.go, rfl, rfl⟩
   refine go ?_
   exact jP [3, 0, 0, 0, 0, 0] ⟨j + 1, x_31, m_32, kv9_, by omega, (k_30.mono (by omega) (by omega)), (by first | omega | (simp only [LE]; omega)), (by rw [drop_at (getD_some (d := []) hlt)] at hR; simp only [MS.tickL, h_3, e_4, h_10, e_11, e_15, h_21, e_29, h_35, SB] at hR; (repeat (first | rw [if_pos (by omega)] at hR | rw [if_neg (by omega)] at hR)); exact hR), EL.go, rfl, rfl⟩
 rw [List.drop_of_length_le (by omega)] at hR
 simp only [MS.tickL] at hR
 have hE := hR.symm
 refine go ?_
 refine jD 5 (mc x mm) ?_
 refine go ?_
 exact jt [1, 1, 1] ⟨x, mm, kv9_, 0, (by simp only [MS.tick, h_3, e_4, h_10, e_11, e_15, h_21, hE, SB]; (repeat (first | rw [if_pos (by omega)] | rw [if_neg (by omega)])); all_goals (first | rfl | simp only [SB, h_3, e_4, h_10, e_11, e_15, h_21, hE])), (hkmm.mono (by omega) (by omega)), (by first | omega | (simp only [LE]; omega)), (by first | omega | (simp only [LE]; omega)), rfl, rfl⟩

theorem N_dropPages (p : Nat) (x : MA) (m : MS) {S T : Nat} (hk : m.ok S T) (hS : S ≤ 250000000) (hT : T ≤ 1200000000) (id : Int) (hid : -9223372036854775808 ≤ id ∧ id ≤ 9223372036854775807) :
   Ct Tryz.prog 219 [.pointer (some ⟨p, 0, none⟩), .int .i64 id] (mb p x m :: mr x m) (fun _ => True) (fun v A' => ∃ x' m', MS.dropPages m id = m' ∧ m'.ok (S) (T + S + 1) ∧ v = .tuple #[] ∧ A' = mb p x' m' :: mr x' m') := by
 refine Ct.intro Tryz.func219 rfl Tryz.ntmps219 (lb rfl) fun w0 hpre => ?_
 refine go ?_
 refine jA [] (N_pagesKey id (by omega)) ?_
 rintro _ _ ⟨u_3, e_1, f_4, rfl, rfl⟩
 refine jA [0, 0, 0, 0] (N_wipe p x m hk (by omega) (by omega) u_3 (by omega)) ?_
 rintro _ _ ⟨x_7, m_8, e_5, k_6, rfl, rfl⟩
 refine go ?_
 refine Done.none (.inr rfl) rfl (List.Sublist.refl _) ?_
 exact ⟨x_7, m_8, (by simp only [MS.dropPages, e_1, e_5, SB]; (repeat (first | rw [if_pos (by omega)] | rw [if_neg (by omega)])); all_goals (first | rfl | simp only [SB, e_1, e_5])), (k_6.mono (by omega) (by omega)), rfl, rfl⟩

theorem M_dropPages (x : MA) (m : MS) {S T : Nat} (hk : m.ok S T) (hS : S ≤ 250000000) (hT : T ≤ 1200000000) (id : Int) (hid : -9223372036854775808 ≤ id ∧ id ≤ 9223372036854775807) :
   Ct Tryz.prog 328 [mv x m, .int .i64 id] (mr x m) (fun _ => True) (fun v A' => ∃ x' m', MS.dropPages m id = m' ∧ m'.ok (S) (T + S + 1) ∧ v = mv x' m' ∧ A' = mr x' m') := by
 refine Ct.intro Tryz.func328 rfl Tryz.ntmps328 (lb rfl) fun w0 hpre => ?_
 refine go ?_
 refine jM (mc x m) fun b_1 => ?_
 refine jG zC fun b_2 => ?_
 refine go ?_
 refine jH [1] 3 ?_
 refine go ?_
 refine jB (i := 2) ?_
 refine jI [] (N_l11Head id (by omega)) ?_
 rintro _ _ ⟨u_9, e_7, f_10, rfl, rfl⟩
 refine jB (i := 3) ?_
 refine kE [2, 2, 2] (M_wipe x m hk (by omega) (by omega) u_9 (by omega)) ?_
 rintro _ _ ⟨x_17, m_18, e_15, k_16, rfl, rfl⟩
 refine jB (i := 4) ?_
 refine jS 3 (mc x_17 m_18) ?_
 refine go ?_
 exact jJ [0, 0, 0] ⟨x_17, m_18, (by simp only [MS.dropPages, e_7, e_15, SB]; (repeat (first | rw [if_pos (by omega)] | rw [if_neg (by omega)])); all_goals (first | rfl | simp only [SB, e_7, e_15])), (k_16.mono (by omega) (by omega)), rfl, rfl⟩

theorem N_forkPages (p : Nat) (x : MA) (m : MS) {S T : Nat} (hk : m.ok S T) (hS : S ≤ 80000000) (hT : T ≤ 1030000000) (from_ : Int) (to_ : Int) (hfrom_ : -9223372036854775808 ≤ from_ ∧ from_ ≤ 9223372036854775807) (hto_ : -9223372036854775808 ≤ to_ ∧ to_ ≤ 9223372036854775807) :
   Ct Tryz.prog 217 [.pointer (some ⟨p, 0, none⟩), .int .i64 from_, .int .i64 to_] (mb p x m :: mr x m) (fun _ => True) (fun v A' => ∃ x' m', MS.forkPages m from_ to_ = m' ∧ m'.ok (S + S) (T + 2 * S + 1) ∧ v = .tuple #[] ∧ A' = mb p x' m' :: mr x' m') := by
 refine Ct.intro Tryz.func217 rfl Tryz.ntmps217 (lb rfl) fun w0 hpre => ?_
 refine go ?_
 refine jA [] (N_pagesKey from_ (by omega)) ?_
 rintro _ _ ⟨u_3, e_1, f_4, rfl, rfl⟩
 refine jA [0, 0, 0, 0] (N_under p x m hk (by omega) (by omega) u_3 (by omega)) ?_
 rintro _ _ ⟨x_7, m_8, l_9a, l_9c, l_9, e_5, k_6, f_10, rfl, rfl⟩
 refine go ?_
 have hll := f_10.1
 refine jL (fun k_ e_ L_ => ∃ j : Nat, ∃ x : MA, ∃ mm : MS, (j ≤ l_9.length) ∧ (mm.ok (S + j) (T + 1 + 2 * j)) ∧ (MS.forkL u_3.length to_ (l_9.drop j) mm = MS.forkL u_3.length to_ l_9 m_8) ∧ EL e_ [(0, pv p), (1, iv from_), (2, iv to_), (11, .slice l_9a l_9.length l_9c), (12, nv l_9.length), (13, nv j)] ∧ L_ = [mb p x mm, rC x.a0 x.c0 mm.s, rS x.a1 x.c1 mm.r, rS x.a2 x.c2 mm.w, rS l_9a l_9c l_9] ∧ k_ = l_9.length - j) _ ⟨0, x_7, m_8, by omega, (k_6.mono (by omega) (by omega)), rfl, EL.go, rfl, rfl⟩ ?_
 rintro _ _ _ ⟨j, x, mm, hj, hkmm, hR, ⟨_, rfl⟩, rfl, rfl⟩
 refine go ?_
 by_cases h_11 : ((j : Nat) : Int) < ((l_9.length : Nat) : Int)
 · have hlt : j < l_9.length := by omega
   have hbj := f_10.2 j hlt
   try simp only [List.length_cons, List.length_nil] at hbj
   refine go ?_
   refine jo fun hst => ?_
   obtain ⟨hr_12, hr_12b, -⟩ := row_some 4 rfl (by omega) hst
   refine go ?_
   refine jU (jr 4 (v := str (l_9.getD j [])) rfl rfl kJ (atS (by omega))) ?_
   refine go ?_
   refine jH [] 1000 ?_
   refine go ?_
   refine jB (i := 2) ?_
   refine jI [] (N_pagesKey to_ (by omega)) ?_
   rintro _ _ ⟨u_35, e_33, f_36, rfl, rfl⟩
   refine jB (i := 5) ?_
   refine ja rfl rfl (jO [] Tryz.call306 rfl (N_pagesKey from_ (by omega)) rfl (fun _ _ => trivial)) ?_
   rintro _ _ ⟨_, ⟨u_43, e_41, f_44, rfl, rfl⟩, rfl⟩
   have hqe_41 := e_1.symm.trans e_41
   subst hqe_41
   refine ⟨all_go, ?_⟩
   refine go ?_
   refine jd 7 rfl (PO.sliceSl (i := u_3.length) kO rfl rfl (by omega)) ?_
   refine go ?_
   refine jB (i := 11) ?_
   refine jI [0, 0, 0, 0] (N_look p x mm hkmm (by omega) (by omega) (l_9.getD j [])) ?_
   rintro _ _ ⟨x_53, m_54, u_55, e_51, k_52, f_56, rfl, rfl⟩
   refine jB (i := 12) ?_
   refine jI [0, 0, 0, 0] (N_lay p x_53 m_54 k_52 (by omega) (by omega) (u_35 ++ ((l_9.getD j []).drop u_3.length)) u_55 (by first | omega | (simp only [LE]; omega))) ?_
   rintro _ _ ⟨x_63, m_64, e_61, k_62, rfl, rfl⟩
   refine go ?_
   exact jP [0, 0, 0, 0, 0] ⟨j + 1, x_63, m_64, by omega, (k_62.mono (by omega) (by omega)), (by rw [drop_at (getD_some (d := []) hlt)] at hR; simp only [MS.forkL, e_1, e_5, h_11, e_33, e_51, e_61, SB] at hR; (repeat (first | rw [if_pos (by omega)] at hR | rw [if_neg (by omega)] at hR)); exact hR), EL.go, rfl, rfl⟩
 rw [List.drop_of_length_le (by omega)] at hR
 simp only [MS.forkL] at hR
 have hE := hR.symm
 refine go ?_
 exact JQ.d0 [0, 0, 0, 0] ⟨x, mm, (by simp only [MS.forkPages, e_1, e_5, h_11, hE, SB]; (repeat (first | rw [if_pos (by omega)] | rw [if_neg (by omega)])); all_goals (first | rfl | simp only [SB, e_1, e_5, h_11, hE])), (hkmm.mono (by omega) (by omega)), rfl, rfl⟩

theorem M_forkPages (x : MA) (m : MS) {S T : Nat} (hk : m.ok S T) (hS : S ≤ 80000000) (hT : T ≤ 1030000000) (from_ : Int) (to_ : Int) (hfrom_ : -9223372036854775808 ≤ from_ ∧ from_ ≤ 9223372036854775807) (hto_ : -9223372036854775808 ≤ to_ ∧ to_ ≤ 9223372036854775807) :
   Ct Tryz.prog 326 [mv x m, .int .i64 from_, .int .i64 to_] (mr x m) (fun _ => True) (fun v A' => ∃ x' m', MS.forkPages m from_ to_ = m' ∧ m'.ok (S + S) (T + 2 * S + 1) ∧ v = mv x' m' ∧ A' = mr x' m') := by
 refine Ct.intro Tryz.func326 rfl Tryz.ntmps326 (lb rfl) fun w0 hpre => ?_
 refine go ?_
 refine jM (mc x m) fun b_1 => ?_
 refine jG zC fun b_2 => ?_
 refine go ?_
 refine jH [1] 7 ?_
 refine go ?_
 refine jB (i := 2) ?_
 refine jI [] (N_l11Head from_ (by omega)) ?_
 rintro _ _ ⟨u_9, e_7, f_10, rfl, rfl⟩
 refine jB (i := 3) ?_
 refine jI [2, 2, 2] (N_sUnder x m hk (by omega) (by omega) u_9 (by omega)) ?_
 rintro _ _ ⟨x_19, m_20, l_21a, l_21c, l_21, e_17, k_18, f_22, rfl, rfl⟩
 refine go ?_
 refine jB (i := 7) ?_
 refine jf 5 (mc x_19 m_20) ?_
 refine go ?_
 have hll := f_22.1
 refine JC.pk [5, 0, 0, 0, 0, 0] ?_
 refine jL (fun k_ e_ L_ => ∃ j : Nat, ∃ x : MA, ∃ mm : MS, (j ≤ l_21.length) ∧ (mm.ok (S + j) (T + 1 + 2 * j)) ∧ (MS.forkL u_9.length to_ (l_21.drop j) mm = MS.forkL u_9.length to_ l_21 m_20) ∧ EL e_ [(1, iv from_), (2, iv to_), (3, .pointer (some ⟨b_1, 0, none⟩)), (6, .pointer (some ⟨b_2, 0, none⟩)), (7, .slice l_21a l_21.length l_21c), (8, nv j)] ∧ L_ = [mb b_1 x mm, rC x.a0 x.c0 mm.s, rS x.a1 x.c1 mm.r, rS x.a2 x.c2 mm.w, rS l_21a l_21c l_21, bk b_2 60 zC] ∧ k_ = l_21.length - j) _ ⟨0, x_19, m_20, by omega, (k_18.mono (by omega) (by omega)), rfl, EL.go, rfl, rfl⟩ ?_
 rintro _ _ _ ⟨j, x, mm, hj, hkmm, hR, ⟨_, rfl⟩, rfl, rfl⟩
 refine go ?_
 by_cases h_23 : ((j : Nat) : Int) < ((l_21.length : Nat) : Int)
 · have hlt : j < l_21.length := by omega
   have hbj := f_22.2 j hlt
   try simp only [List.length_cons, List.length_nil] at hbj
   refine go ?_
   refine jH [0] 9 ?_
   refine go ?_
   refine JA.facts fun hst => ?_
   obtain ⟨hr_24, hr_24b, -⟩ := row_some 4 rfl (by omega) hst
   refine go ?_
   refine jB (i := 4) ?_
   refine ja rfl rfl (jm (jr 4 (v := str (l_21.getD j [])) rfl rfl kJ (atS (by omega)))) ?_
   rintro _ _ ⟨rfl, rfl⟩
   refine ⟨all_go, ?_⟩
   refine jB (i := 5) ?_
   refine jI [1, 1, 1] (N_sLook x mm hkmm (by omega) (by omega) (l_21.getD j [])) ?_
   rintro _ _ ⟨x_33, m_34, u_35, e_31, k_32, f_36, rfl, rfl⟩
   refine go ?_
   refine jB (i := 9) ?_
   refine jf 3 (mc x_33 m_34) ?_
   refine go ?_
   refine jH [3] 14 ?_
   refine go ?_
   refine jZ (i := 2) (j := 6) (by kernel_rfl) ?_ ?_
   · refine jI [] (N_l11Head to_ (by omega)) ?_
     rintro _ _ ⟨u_63, e_61, f_64, rfl, rfl⟩
     refine jZ (i := 6) (j := 8) (by kernel_rfl) ?_ ?_
     · refine ja rfl rfl (jm (jr 4 (v := str (l_21.getD j [])) rfl rfl kJ (atS (by omega)))) ?_
       rintro _ _ ⟨rfl, rfl⟩
       refine ⟨all_go, ?_⟩
       refine jB (i := 8) ?_
       refine ja rfl rfl (jO [] Tryz.call325 rfl (N_l11Head from_ (by omega)) rfl (fun _ _ => trivial)) ?_
       rintro _ _ ⟨_, ⟨u_75, e_73, f_76, rfl, rfl⟩, rfl⟩
       have hqe_73 := e_7.symm.trans e_73
       subst hqe_73
       refine ⟨all_go, ?_⟩
       refine go ?_
       refine jd 10 rfl (PO.sliceSl (i := u_9.length) kO rfl rfl (by omega)) ?_
       refine go ?_
       refine jB (i := 13) ?_
       refine jI [0, 0, 0] (N_sLay x_33 m_34 k_32 (by omega) (by omega) (u_63 ++ ((l_21.getD j []).drop u_9.length)) u_35 (by first | omega | (simp only [LE]; omega))) ?_
       rintro _ _ ⟨x_83, m_84, e_81, k_82, rfl, rfl⟩
       refine jB (i := 14) ?_
       refine jS 3 (mc x_83 m_84) ?_
       refine go ?_
       exact jP [3, 0, 0, 0, 0, 0] ⟨j + 1, x_83, m_84, by omega, (k_82.mono (by omega) (by omega)), (by rw [drop_at (getD_some (d := []) hlt)] at hR; simp only [MS.forkL, e_7, e_17, h_23, e_31, e_61, e_81, SB] at hR; (repeat (first | rw [if_pos (by omega)] at hR | rw [if_neg (by omega)] at hR)); exact hR), EL.go, rfl, rfl⟩
     refine ja rfl rfl (jO [] Tryz.call325 rfl (N_l11Head from_ (by omega)) rfl (fun _ _ => trivial)) ?_
     rintro _ _ ⟨_, ⟨u_87, e_85, f_88, rfl, rfl⟩, rfl⟩
     have hqe_85 := e_7.symm.trans e_85
     subst hqe_85
     refine ⟨all_go, ?_⟩
     refine go ?_
     refine jB (i := 6) ?_
     refine ja rfl rfl (jm (jr 4 (v := str (l_21.getD j [])) rfl rfl kJ (atS (by omega)))) ?_
     rintro _ _ ⟨rfl, rfl⟩
     refine ⟨all_go, ?_⟩
     refine jd 10 rfl (PO.sliceSl (i := u_9.length) kO rfl rfl (by omega)) ?_
     refine go ?_
     refine jB (i := 13) ?_
     refine jI [0, 0, 0] (N_sLay x_33 m_34 k_32 (by omega) (by omega) (u_63 ++ ((l_21.getD j []).drop u_9.length)) u_35 (by first | omega | (simp only [LE]; omega))) ?_
     rintro _ _ ⟨x_95, m_96, e_93, k_94, rfl, rfl⟩
     refine jB (i := 14) ?_
     refine jS 3 (mc x_95 m_96) ?_
     refine go ?_
     exact jP [3, 0, 0, 0, 0, 0] ⟨j + 1, x_95, m_96, by omega, (k_94.mono (by omega) (by omega)), (by rw [drop_at (getD_some (d := []) hlt)] at hR; simp only [MS.forkL, e_7, e_17, h_23, e_31, e_61, e_93, SB] at hR; (repeat (first | rw [if_pos (by omega)] at hR | rw [if_neg (by omega)] at hR)); exact hR), EL.go, rfl, rfl⟩
   refine ja rfl rfl (jm (jr 4 (v := str (l_21.getD j [])) rfl rfl kJ (atS (by omega)))) ?_
   rintro _ _ ⟨rfl, rfl⟩
   refine ⟨all_go, ?_⟩
   refine jB (i := 2) ?_
   refine jI [] (N_l11Head to_ (by omega)) ?_
   rintro _ _ ⟨u_103, e_101, f_104, rfl, rfl⟩
   refine jB (i := 8) ?_
   refine ja rfl rfl (jO [] Tryz.call325 rfl (N_l11Head from_ (by omega)) rfl (fun _ _ => trivial)) ?_
   rintro _ _ ⟨_, ⟨u_111, e_109, f_112, rfl, rfl⟩, rfl⟩
   have hqe_109 := e_7.symm.trans e_109
   subst hqe_109
   refine ⟨all_go, ?_⟩
   refine go ?_
   refine jd 10 rfl (PO.sliceSl (i := u_9.length) kO rfl rfl (by omega)) ?_
   refine go ?_
   refine jB (i := 13) ?_
   refine jI [0, 0, 0] (N_sLay x_33 m_34 k_32 (by omega) (by omega) (u_103 ++ ((l_21.getD j []).drop u_9.length)) u_35 (by first | omega | (simp only [LE]; omega))) ?_
   rintro _ _ ⟨x_119, m_120, e_117, k_118, rfl, rfl⟩
   refine jB (i := 14) ?_
   refine jS 3 (mc x_119 m_120) ?_
   refine go ?_
   exact jP [3, 0, 0, 0, 0, 0] ⟨j + 1, x_119, m_120, by omega, (k_118.mono (by omega) (by omega)), (by rw [drop_at (getD_some (d := []) hlt)] at hR; simp only [MS.forkL, e_7, e_17, h_23, e_31, e_101, e_117, SB] at hR; (repeat (first | rw [if_pos (by omega)] at hR | rw [if_neg (by omega)] at hR)); exact hR), EL.go, rfl, rfl⟩
 rw [List.drop_of_length_le (by omega)] at hR
 simp only [MS.forkL] at hR
 have hE := hR.symm
 refine go ?_
 refine jD 5 (mc x mm) ?_
 refine go ?_
 exact jJ [1, 1, 1] ⟨x, mm, (by simp only [MS.forkPages, e_7, e_17, h_23, hE, SB]; (repeat (first | rw [if_pos (by omega)] | rw [if_neg (by omega)])); all_goals (first | rfl | simp only [SB, e_7, e_17, h_23, hE])), (hkmm.mono (by omega) (by omega)), rfl, rfl⟩
end Go.Proofs.YthlfmbbaomdciaaGreatDoor
