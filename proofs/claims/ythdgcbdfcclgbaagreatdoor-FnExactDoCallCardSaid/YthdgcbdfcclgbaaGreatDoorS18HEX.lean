/-
  Texts of the walk, joined: what each one proves stands at its theorems.
-/
import Derived.Test.YthdgcbdfcclgbaaGreatDoorS14MACH
import Derived.Test.YthdgcbdfcclgbaaGreatDoorDatD
import Derived.Lib.HexFns2
import Derived.Test.YthdgcbdfcclgbaaGreatDoorSlTx
import Derived.Lib.ConvBytes
set_option linter.unusedSimpArgs false
set_option linter.unusedVariables false
set_option linter.unnecessarySimpa false
namespace Go.Proofs.YthdgcbdfcclgbaaGreatDoor
open Go Go.RowKit
attribute [local irreducible] JL JC JQ JO LO PO JA JX Ct

theorem N_fileOf (p : Nat) (x : MA) (m : MS) {S T : Nat} (hk : m.ok S T) (hS : S ≤ 80000000) (hT : T ≤ 80000000) (name : Str) (hname : name.length ≤ 100000000) :
    Ct Tryz.prog 122 [.pointer (some ⟨p, 0, none⟩), str name] (mb p x m :: mr x m) (fun _ => True) (fun v A' => ∃ x' m' r0, MS.fileOf m name = (m', r0) ∧ m'.ok (S) (T + 1) ∧ (0 ≤ r0 ∧ r0 ≤ 999) ∧ v = .int .i64 r0 ∧ A' = mb p x' m' :: mr x' m') := by
  refine Ct.intro Tryz.func122 rfl Tryz.ntmps122 (lb rfl) fun w0 hpre => ?_
  refine jD <| jF <| jA (jG (v := iv 0) rfl) <| jE <| jB <| jD <| jD <| jF <| jA (jC (v := str name) rfl) ?_
  refine jH rfl (jI [] Tryz.call121 rfl (N_nameOk name (by omega)) rfl (fun _ _ => trivial)) ?_
  rintro _ _ ⟨_, ⟨b_3, e_1, rfl, rfl⟩, rfl⟩
  refine jA (kA rfl) <| jE <| jB ?_
  rcases Bool.eq_false_or_eq_true (b_3) with h_4 | h_4
  · refine jQ (cB (cN h_4)) <| jU <| jB <| jD <| jF <| jA (jC (v := pv p) rfl) <| jA (jC (v := str name) rfl) ?_
    refine jH rfl (jI [] Tryz.call125 rfl (N_nameKey name (by omega)) rfl (fun _ _ => trivial)) ?_
    rintro _ _ ⟨_, ⟨u_7, e_5, f_8, rfl, rfl⟩, rfl⟩
    refine jH rfl (jI [0, 0, 0, 0] Tryz.call118 rfl (N_num p x m hk (by omega) (by omega) u_7) rfl (fun _ _ => trivial)) ?_
    rintro _ _ ⟨_, ⟨x_11, m_12, n_13, e_9, k_10, f_14, rfl, rfl⟩, rfl⟩
    refine jA (jG (v := iv n_13) rfl) <| jE <| jB <| jM <| jV (.inl rfl) rfl (jN (v := iv n_13) rfl) (List.Sublist.refl _) ?_
    exact ⟨x_11, m_12, n_13, (by simp only [MS.fileOf, e_1, h_4, e_5, e_9, SB]; (repeat (first | rw [if_pos (by omega)] | rw [if_neg (by omega)])); all_goals (first | rfl | simp only [SB, e_1, h_4, e_5, e_9])), (k_10.mono (by omega) (by omega)), (by first | omega | (simp only [LE]; omega)), rfl, rfl⟩
  refine jR (cB (cN h_4)) <| jD <| jF <| jA (jG (v := iv 0) rfl) <| jE <| jB <| jM <| jX <| jV (.inl rfl) rfl (jN (v := iv 0) rfl) (List.Sublist.refl _) ?_
  exact ⟨x, m, 0, (by simp only [MS.fileOf, e_1, h_4, SB]; (repeat (first | rw [if_pos (by omega)] | rw [if_neg (by omega)])); all_goals (first | rfl | simp only [SB, e_1, h_4])), (hk.mono (by omega) (by omega)), (by first | omega | (simp only [LE]; omega)), rfl, rfl⟩

theorem M_fileOf (x : MA) (m : MS) {S T : Nat} (hk : m.ok S T) (hS : S ≤ 80000000) (hT : T ≤ 80000000) (name : Str) (hname : name.length ≤ 100000000) :
    Ct Tryz.prog 88 [mv x m, str name] (mr x m) (fun _ => True) (fun v A' => ∃ x' m' r0, MS.fileOf m name = (m', r0) ∧ m'.ok (S) (T + 1) ∧ (0 ≤ r0 ∧ r0 ≤ 999) ∧ v = .tuple #[mv x' m', .int .i64 r0] ∧ A' = mr x' m') := by
  refine Ct.intro Tryz.func88 rfl Tryz.ntmps88 (lb rfl) fun w0 hpre => ?_
  refine jD <| jF ?_
  refine jH rfl (jv (cs := (mc x m)) rfl rfl) ?_
  rintro _ _ ⟨b_1, rfl, rfl⟩
  refine jH rfl (jh (z := zM) (cs := zC) kd rfl) ?_
  rintro _ _ ⟨b_2, rfl, rfl⟩
  refine jA (jG (v := iv 0) rfl) <| jE <| jB <| jD <| jD <| jF <| jA (jC (v := str name) rfl) ?_
  refine jH rfl (jI [] Tryz.call87 rfl (N_sNameOk name (by omega)) rfl (fun _ _ => trivial)) ?_
  rintro _ _ ⟨_, ⟨b_5, e_3, rfl, rfl⟩, rfl⟩
  refine jA (kA rfl) <| jE <| jB ?_
  rcases Bool.eq_false_or_eq_true (b_5) with h_6 | h_6
  · refine jQ (cB (cN h_6)) <| jU <| jB <| jD <| jF <| jT (jP 1 x m rfl rfl) <| jA (jC (v := str name) rfl) <| jA (kO rfl rfl (by (try simp only [List.length_append, List.length_cons, List.length_nil, List.length_drop, List.length_take]); omega)) ?_
    refine jH rfl (jI [2, 2, 2] Tryz.call84 rfl (N_sNumAt x m hk (by omega) (by omega) ([110, 47] ++ name)) rfl (fun _ _ => trivial)) ?_
    rintro _ _ ⟨_, ⟨x_9, m_10, n_11, e_7, k_8, f_12, rfl, rfl⟩, rfl⟩
    refine jA (jS (v := mv x_9 m_10) rfl rfl) <| jA (jS (v := iv n_11) rfl rfl) ?_
    refine jH rfl (jW 3 x_9 m_10 rfl rfl rfl rfl) ?_
    rintro _ _ rfl
    refine jA (jG (v := iv n_11) rfl) <| jE <| jB <| jM <| jj (.inl rfl) rfl (je (jP 3 x_9 m_10 rfl rfl) ⟨_, rfl⟩) (jN (v := iv n_11) rfl) (tS 3 _) ?_
    exact ⟨x_9, m_10, n_11, (by simp only [MS.fileOf, e_3, h_6, e_7, SB]; (repeat (first | rw [if_pos (by omega)] | rw [if_neg (by omega)])); all_goals (first | rfl | simp only [SB, e_3, h_6, e_7])), (k_8.mono (by omega) (by omega)), (by first | omega | (simp only [LE]; omega)), rfl, rfl⟩
  refine jR (cB (cN h_6)) <| jD <| jF <| jT (jP 1 x m rfl rfl) ?_
  refine jH rfl (jW 0 x m rfl rfl rfl rfl) ?_
  rintro _ _ rfl
  refine jA (jG (v := iv 0) rfl) <| jE <| jB <| jM <| jX <| kL (pick_perm [2, 2, 2] (A := [rC x.a0 x.c0 m.s, rS x.a1 x.c1 m.r, rS x.a2 x.c2 m.w]) (F := [mb b_2 x m, mb b_1 x m]) rfl).symm <| jj (.inl rfl) rfl (je (jP 3 x m rfl rfl) ⟨_, rfl⟩) (jN (v := iv 0) rfl) (tS 3 _) ?_
  exact ⟨x, m, 0, (by simp only [MS.fileOf, e_3, h_6, SB]; (repeat (first | rw [if_pos (by omega)] | rw [if_neg (by omega)])); all_goals (first | rfl | simp only [SB, e_3, h_6])), (hk.mono (by omega) (by omega)), (by first | omega | (simp only [LE]; omega)), rfl, rfl⟩

theorem N_makeName (p : Nat) (x : MA) (m : MS) {S T : Nat} (hk : m.ok S T) (hS : S ≤ 40000000) (hT : T ≤ 40000000) (name : Str) (hname : name.length ≤ 100000000) :
    Ct Tryz.prog 56 [.pointer (some ⟨p, 0, none⟩), str name] (mb p x m :: mr x m) (fun _ => True) (fun v A' => ∃ x' m' r0 r1, MS.makeName m name = (m', r0, r1) ∧ m'.ok (S + 3) (T + 5) ∧ (0 ≤ r0 ∧ r0 ≤ 999) ∧ (0 ≤ r1 ∧ r1 ≤ 9) ∧ v = .tuple #[.int .i64 r0, .int .i64 r1] ∧ A' = mb p x' m' :: mr x' m') := by
  refine Ct.intro Tryz.func56 rfl Tryz.ntmps56 (lb rfl) fun w0 hpre => ?_
  refine jD <| jF <| jA (jG (v := iv 0) rfl) <| jA (jG (v := iv 0) rfl) <| jE <| jB <| jD <| jm <| jD <| jF ?_
  refine jA (jC (v := str name) rfl) ?_
  refine jH rfl (jI [] Tryz.call121 rfl (N_nameOk name (by omega)) rfl (fun _ _ => trivial)) ?_
  rintro _ _ ⟨_, ⟨b_3, e_1, rfl, rfl⟩, rfl⟩
  refine jA (kA rfl) <| jA (jG (v := .bool (!b_3)) rfl) <| jE <| jB ?_
  rcases Bool.eq_false_or_eq_true (b_3) with h_4 | h_4
  · refine jQ (cB (cN h_4)) <| jD <| jF <| jA (jC (v := pv p) rfl) <| jA (jC (v := str name) rfl) ?_
    refine jH rfl (jI [0, 0, 0, 0] Tryz.call122 rfl (N_fileOf p x m hk (by omega) (by omega) name (by omega)) rfl (fun _ _ => trivial)) ?_
    rintro _ _ ⟨_, ⟨x_7, m_8, n_9, e_5, k_6, f_10, rfl, rfl⟩, rfl⟩
    refine jA (kQ rfl rfl) <| jA (jG (v := .bool (!(decide (n_9 = 0)))) rfl) <| jE <| jB ?_
    by_cases h_11 : n_9 = 0
    · refine jQ (cB (cN (dT h_11))) <| jD <| jF <| jA (jC (v := pv p) rfl) ?_
      refine jH rfl (jI [0, 0, 0, 0] Tryz.call118 rfl (N_num p x_7 m_8 k_6 (by omega) (by omega) [99, 47, 102, 105, 108, 101]) rfl (fun _ _ => trivial)) ?_
      rintro _ _ ⟨_, ⟨x_14, m_15, n_16, e_12, k_13, f_17, rfl, rfl⟩, rfl⟩
      refine jA (kT rfl rfl) <| jA (jG (v := .bool (decide (20 ≤ n_16))) rfl) <| jE <| jB ?_
      by_cases h_18 : 20 ≤ n_16
      · refine jR (cB (dT h_18)) <| jD <| jF <| jA (jG (v := iv 0) rfl) <| jA (jG (v := iv 3) rfl) <| jE <| jB <| jM <| jz <| jX ?_
        refine jj (.inl rfl) rfl (jN (v := iv 0) rfl) (jN (v := iv 3) rfl) (List.Sublist.refl _) ?_
        exact ⟨x_14, m_15, 0, 3, (by simp only [MS.makeName, e_1, h_4, e_5, h_11, e_12, h_18, SB]; (repeat (first | rw [if_pos (by omega)] | rw [if_neg (by omega)])); all_goals (first | rfl | simp only [SB, e_1, h_4, e_5, h_11, e_12, h_18])), (k_13.mono (by omega) (by omega)), (by first | omega | (simp only [LE]; omega)), (by first | omega | (simp only [LE]; omega)), rfl, rfl⟩
      refine jQ (cB (dF h_18)) <| jU <| jk <| jB <| jD <| jF <| jA (jC (v := pv p) rfl) ?_
      refine jH rfl (jI [0, 0, 0, 0] Tryz.call123 rfl (N_bump p x_14 m_15 k_13 (by omega) (by omega) [99, 47, 102, 105, 108, 101] (by decide)) rfl (fun _ _ => trivial)) ?_
      rintro _ _ ⟨_, ⟨x_21, m_22, n_23, e_19, k_20, f_24, rfl, rfl⟩, rfl⟩
      refine jA (jG (v := iv n_23) rfl) <| jE <| jB <| jD <| jF <| jA (jC (v := pv p) rfl) <| jA (jC (v := str name) rfl) ?_
      refine jH rfl (jI [] Tryz.call125 rfl (N_nameKey name (by omega)) rfl (fun _ _ => trivial)) ?_
      rintro _ _ ⟨_, ⟨u_27, e_25, f_28, rfl, rfl⟩, rfl⟩
      refine jA (jC (v := iv n_23) rfl) ?_
      refine jH rfl (jI [0, 0, 0, 0] Tryz.call124 rfl (N_setNum p x_21 m_22 k_20 (by omega) (by omega) u_27 n_23 (by omega) (by omega)) rfl (fun _ _ => trivial)) ?_
      rintro _ _ ⟨_, ⟨x_31, m_32, e_29, k_30, rfl, rfl⟩, rfl⟩
      refine jE <| jB <| jD <| jF <| jA (jC (v := pv p) rfl) <| jA (jC (v := iv n_23) rfl) ?_
      refine jH rfl (jI [] Tryz.call126 rfl (N_linksKey n_23 (by omega)) rfl (fun _ _ => trivial)) ?_
      rintro _ _ ⟨_, ⟨u_35, e_33, f_36, rfl, rfl⟩, rfl⟩
      refine jH rfl (jI [0, 0, 0, 0] Tryz.call124 rfl (N_setNum p x_31 m_32 k_30 (by omega) (by omega) u_35 1 (by omega) (by omega)) rfl (fun _ _ => trivial)) ?_
      rintro _ _ ⟨_, ⟨x_39, m_40, e_37, k_38, rfl, rfl⟩, rfl⟩
      refine jE <| jB <| jD <| jF <| jA (jC (v := iv n_23) rfl) <| jA (jG (v := iv n_23) rfl) <| jA (jG (v := iv 0) rfl) <| jE <| jB <| jM ?_
      refine jj (.inl rfl) rfl (jN (v := iv n_23) rfl) (jN (v := iv 0) rfl) (List.Sublist.refl _) ?_
      exact ⟨x_39, m_40, n_23, 0, (by simp only [MS.makeName, e_1, h_4, e_5, h_11, e_12, h_18, e_19, e_25, e_29, e_33, e_37, SB]; (repeat (first | rw [if_pos (by omega)] | rw [if_neg (by omega)])); all_goals (first | rfl | simp only [SB, e_1, h_4, e_5, h_11, e_12, h_18, e_19, e_25, e_29, e_33, e_37])), (k_38.mono (by omega) (by omega)), (by first | omega | (simp only [LE]; omega)), (by first | omega | (simp only [LE]; omega)), rfl, rfl⟩
    refine jR (cB (cN (dF h_11))) <| jD <| jF <| jA (jG (v := iv 0) rfl) <| jA (jG (v := iv 1) rfl) <| jE <| jB <| jM <| jz <| jX ?_
    refine jj (.inl rfl) rfl (jN (v := iv 0) rfl) (jN (v := iv 1) rfl) (List.Sublist.refl _) ?_
    exact ⟨x_7, m_8, 0, 1, (by simp only [MS.makeName, e_1, h_4, e_5, h_11, SB]; (repeat (first | rw [if_pos (by omega)] | rw [if_neg (by omega)])); all_goals (first | rfl | simp only [SB, e_1, h_4, e_5, h_11])), (k_6.mono (by omega) (by omega)), (by first | omega | (simp only [LE]; omega)), (by first | omega | (simp only [LE]; omega)), rfl, rfl⟩
  refine jR (cB (cN h_4)) <| jD <| jF <| jA (jG (v := iv 0) rfl) <| jA (jG (v := iv 4) rfl) <| jE <| jB <| jM <| jz <| jX ?_
  refine jj (.inl rfl) rfl (jN (v := iv 0) rfl) (jN (v := iv 4) rfl) (List.Sublist.refl _) ?_
  exact ⟨x, m, 0, 4, (by simp only [MS.makeName, e_1, h_4, SB]; (repeat (first | rw [if_pos (by omega)] | rw [if_neg (by omega)])); all_goals (first | rfl | simp only [SB, e_1, h_4])), (hk.mono (by omega) (by omega)), (by first | omega | (simp only [LE]; omega)), (by first | omega | (simp only [LE]; omega)), rfl, rfl⟩

theorem M_makeName (x : MA) (m : MS) {S T : Nat} (hk : m.ok S T) (hS : S ≤ 40000000) (hT : T ≤ 40000000) (name : Str) (hname : name.length ≤ 100000000) :
    Ct Tryz.prog 32 [mv x m, str name] (mr x m) (fun _ => True) (fun v A' => ∃ x' m' r0 r1, MS.makeName m name = (m', r0, r1) ∧ m'.ok (S + 3) (T + 5) ∧ (0 ≤ r0 ∧ r0 ≤ 999) ∧ (0 ≤ r1 ∧ r1 ≤ 9) ∧ v = .tuple #[mv x' m', .int .i64 r0, .int .i64 r1] ∧ A' = mr x' m') := by
  refine Ct.intro Tryz.func32 rfl Tryz.ntmps32 (lb rfl) fun w0 hpre => ?_
  refine jD <| jF ?_
  refine jH rfl (jv (cs := (mc x m)) rfl rfl) ?_
  rintro _ _ ⟨b_1, rfl, rfl⟩
  refine jH rfl (jh (z := zM) (cs := zC) kd rfl) ?_
  rintro _ _ ⟨b_2, rfl, rfl⟩
  refine jA (jG (v := iv 0) rfl) <| jA (jG (v := iv 0) rfl) <| jE <| jB <| jD <| jD <| jF <| jA (jC (v := str name) rfl) ?_
  refine jH rfl (jI [] Tryz.call87 rfl (N_sNameOk name (by omega)) rfl (fun _ _ => trivial)) ?_
  rintro _ _ ⟨_, ⟨b_5, e_3, rfl, rfl⟩, rfl⟩
  refine jA (kA rfl) <| jE <| jB ?_
  rcases Bool.eq_false_or_eq_true (b_5) with h_6 | h_6
  · refine jQ (cB (cN h_6)) <| jU <| jB <| jD <| jF <| jT (jP 1 x m rfl rfl) <| jA (jC (v := str name) rfl) ?_
    refine jH rfl (jI [2, 2, 2] Tryz.call88 rfl (M_fileOf x m hk (by omega) (by omega) name (by omega)) rfl (fun _ _ => trivial)) ?_
    rintro _ _ ⟨_, ⟨x_9, m_10, n_11, e_7, k_8, f_12, rfl, rfl⟩, rfl⟩
    refine jA (jC (v := .tuple #[mv x_9 m_10, iv n_11]) rfl) <| jA (jS (v := mv x_9 m_10) rfl rfl) <| jA (jS (v := iv n_11) rfl rfl) ?_
    refine jH rfl (jW 4 x_9 m_10 rfl rfl rfl rfl) ?_
    rintro _ _ rfl
    refine jA (jG (v := iv n_11) rfl) <| jE <| jB <| jD <| jD <| jF <| jA (jC (v := iv n_11) rfl) <| jA (kQ rfl rfl) <| jE <| jB ?_
    by_cases h_13 : n_11 = 0
    · refine jQ (cB (cN (dT h_13))) <| jU <| jB <| jD <| jF <| jT (jP 4 x_9 m_10 rfl rfl) ?_
      refine jH rfl (jI [0, 0, 0] Tryz.call84 rfl (N_sNumAt x_9 m_10 k_8 (by omega) (by omega) [99, 47, 102, 105, 108, 101]) rfl (fun _ _ => trivial)) ?_
      rintro _ _ ⟨_, ⟨x_16, m_17, n_18, e_14, k_15, f_19, rfl, rfl⟩, rfl⟩
      refine jA (jC (v := .tuple #[mv x_16 m_17, iv n_18]) rfl) <| jA (jS (v := mv x_16 m_17) rfl rfl) <| jA (jS (v := iv n_18) rfl rfl) ?_
      refine jH rfl (jW 4 x_16 m_17 rfl rfl rfl rfl) ?_
      rintro _ _ rfl
      refine jA (jG (v := iv n_18) rfl) <| jE <| jB <| jD <| jD <| jF <| jA (jC (v := iv n_18) rfl) <| jA (kT rfl rfl) <| jE <| jB ?_
      by_cases h_20 : 20 ≤ n_18
      · refine jR (cB (dT h_20)) <| jD <| jF <| jT (jP 4 x_16 m_17 rfl rfl) ?_
        refine jH rfl (jW 3 x_16 m_17 rfl rfl rfl rfl) ?_
        rintro _ _ rfl
        refine jA (jG (v := iv 0) rfl) <| jA (jG (v := iv 3) rfl) <| jE <| jB <| jM <| jX <| Done.three (.inl rfl) rfl (je (jP 3 x_16 m_17 rfl rfl) ⟨_, rfl⟩) (jN (v := iv 0) rfl) (jN (v := iv 3) rfl) (tS 3 _) ?_
        exact ⟨x_16, m_17, 0, 3, (by simp only [MS.makeName, e_3, h_6, e_7, h_13, e_14, h_20, SB]; (repeat (first | rw [if_pos (by omega)] | rw [if_neg (by omega)])); all_goals (first | rfl | simp only [SB, e_3, h_6, e_7, h_13, e_14, h_20])), (k_15.mono (by omega) (by omega)), (by first | omega | (simp only [LE]; omega)), (by first | omega | (simp only [LE]; omega)), rfl, rfl⟩
      refine jQ (cB (dF h_20)) <| jU <| jB <| jD <| jF <| jT (jP 4 x_16 m_17 rfl rfl) ?_
      refine jH rfl (jI [0, 0, 0] Tryz.call89 rfl (N_sBump x_16 m_17 k_15 (by omega) (by omega) [99, 47, 102, 105, 108, 101] (by decide)) rfl (fun _ _ => trivial)) ?_
      rintro _ _ ⟨_, ⟨x_23, m_24, n_25, e_21, k_22, f_26, rfl, rfl⟩, rfl⟩
      refine jA (jC (v := .tuple #[mv x_23 m_24, iv n_25]) rfl) <| jA (jS (v := mv x_23 m_24) rfl rfl) <| jA (jS (v := iv n_25) rfl rfl) ?_
      refine jH rfl (jW 4 x_23 m_24 rfl rfl rfl rfl) ?_
      rintro _ _ rfl
      refine jA (jG (v := iv n_25) rfl) <| jE <| jB <| jD <| jF <| jT (jP 4 x_23 m_24 rfl rfl) <| jA (jC (v := str name) rfl) <| jA (kO rfl rfl (by (try simp only [List.length_append, List.length_cons, List.length_nil, List.length_drop, List.length_take]); omega)) <| jA (jC (v := iv n_25) rfl) ?_
      refine jH rfl (jI [0, 0, 0] Tryz.call90 rfl (N_sSetNum x_23 m_24 k_22 (by omega) (by omega) ([110, 47] ++ name) n_25 (by first | omega | (simp only [LE]; omega)) (by omega)) rfl (fun _ _ => trivial)) ?_
      rintro _ _ ⟨_, ⟨x_29, m_30, e_27, k_28, rfl, rfl⟩, rfl⟩
      refine jH rfl (jW 4 x_29 m_30 rfl rfl rfl rfl) ?_
      rintro _ _ rfl
      refine jE <| jB <| jD <| jq [mb b_1 x_29 m_30] 5 mixed (by simp) <| jl 0 rfl (jP 0 x_29 m_30 rfl rfl) <| jK 1 rfl (jC (v := iv n_25) rfl) <| jK 4 rfl (jC (v := iv n_25) rfl) <| jL (i := 2) ?_
      refine jO rfl rfl (jI [] Tryz.call91 rfl (N_sKeyNum [105, 47] n_25 [47, 108] (show List.length ([105, 47] : Str) ≤ 2 by decide) (by omega) (show List.length ([47, 108] : Str) ≤ 2 by decide) (by omega)) rfl (fun _ _ => trivial)) ?_
      rintro _ _ ⟨_, ⟨u_41, e_39, f_42, rfl, rfl⟩, rfl⟩
      refine ⟨(by simp), ?_⟩
      refine jL (i := 3) ?_
      refine jO rfl rfl (jI [0, 0, 0] Tryz.call90 rfl (N_sSetNum x_29 m_30 k_28 (by omega) (by omega) u_41 1 (by omega) (by omega)) rfl (fun _ _ => trivial)) ?_
      rintro _ _ ⟨_, ⟨x_49, m_50, e_47, k_48, rfl, rfl⟩, rfl⟩
      refine ⟨(by simp), ?_⟩
      refine jL (i := 5) ?_
      refine jo rfl (jW 3 x_49 m_50 rfl rfl rfl rfl) ?_
      rintro _ _ rfl
      refine jK 6 rfl (jG (v := iv n_25) rfl) <| jK 7 rfl (jG (v := iv 0) rfl) <| kG (by kernel_rfl) <| jB <| jM <| Done.three (.inl rfl) rfl (je (jP 3 x_49 m_50 rfl rfl) ⟨_, rfl⟩) (jN (v := iv n_25) rfl) (jN (v := iv 0) rfl) (tS 3 _) ?_
      exact ⟨x_49, m_50, n_25, 0, (by simp only [MS.makeName, e_3, h_6, e_7, h_13, e_14, h_20, e_21, e_27, e_39, e_47, SB]; (repeat (first | rw [if_pos (by omega)] | rw [if_neg (by omega)])); all_goals (first | rfl | simp only [SB, e_3, h_6, e_7, h_13, e_14, h_20, e_21, e_27, e_39, e_47])), (k_48.mono (by omega) (by omega)), (by first | omega | (simp only [LE]; omega)), (by first | omega | (simp only [LE]; omega)), rfl, rfl⟩
    refine jR (cB (cN (dF h_13))) <| jD <| jF <| jT (jP 4 x_9 m_10 rfl rfl) ?_
    refine jH rfl (jW 3 x_9 m_10 rfl rfl rfl rfl) ?_
    rintro _ _ rfl
    refine jA (jG (v := iv 0) rfl) <| jA (jG (v := iv 1) rfl) <| jE <| jB <| jM <| jX <| Done.three (.inl rfl) rfl (je (jP 3 x_9 m_10 rfl rfl) ⟨_, rfl⟩) (jN (v := iv 0) rfl) (jN (v := iv 1) rfl) (tS 3 _) ?_
    exact ⟨x_9, m_10, 0, 1, (by simp only [MS.makeName, e_3, h_6, e_7, h_13, SB]; (repeat (first | rw [if_pos (by omega)] | rw [if_neg (by omega)])); all_goals (first | rfl | simp only [SB, e_3, h_6, e_7, h_13])), (k_8.mono (by omega) (by omega)), (by first | omega | (simp only [LE]; omega)), (by first | omega | (simp only [LE]; omega)), rfl, rfl⟩
  refine jR (cB (cN h_6)) <| jD <| jF <| jT (jP 1 x m rfl rfl) ?_
  refine jH rfl (jW 0 x m rfl rfl rfl rfl) ?_
  rintro _ _ rfl
  refine jA (jG (v := iv 0) rfl) <| jA (jG (v := iv 4) rfl) <| jE <| jB <| jM <| jX <| kL (pick_perm [2, 2, 2] (A := [rC x.a0 x.c0 m.s, rS x.a1 x.c1 m.r, rS x.a2 x.c2 m.w]) (F := [mb b_2 x m, mb b_1 x m]) rfl).symm <| Done.three (.inl rfl) rfl (je (jP 3 x m rfl rfl) ⟨_, rfl⟩) (jN (v := iv 0) rfl) (jN (v := iv 4) rfl) (tS 3 _) ?_
  exact ⟨x, m, 0, 4, (by simp only [MS.makeName, e_3, h_6, SB]; (repeat (first | rw [if_pos (by omega)] | rw [if_neg (by omega)])); all_goals (first | rfl | simp only [SB, e_3, h_6])), (hk.mono (by omega) (by omega)), (by first | omega | (simp only [LE]; omega)), (by first | omega | (simp only [LE]; omega)), rfl, rfl⟩

theorem N_linkName (p : Nat) (x : MA) (m : MS) {S T : Nat} (hk : m.ok S T) (hS : S ≤ 40000000) (hT : T ≤ 40000000) (from_ : Str) (to_ : Str) (hfrom_ : from_.length ≤ 100000000) (hto_ : to_.length ≤ 100000000) :
    Ct Tryz.prog 57 [.pointer (some ⟨p, 0, none⟩), str from_, str to_] (mb p x m :: mr x m) (fun _ => True) (fun v A' => ∃ x' m' r0, MS.linkName m from_ to_ = (m', r0) ∧ m'.ok (S + 2) (T + 5) ∧ (0 ≤ r0 ∧ r0 ≤ 9) ∧ v = .int .i64 r0 ∧ A' = mb p x' m' :: mr x' m') := by
  refine Ct.intro Tryz.func57 rfl Tryz.ntmps57 (lb rfl) fun w0 hpre => ?_
  refine jD <| jF <| jA (jG (v := iv 0) rfl) <| jE <| jB <| jD <| jD <| jF <| jA (jC (v := str from_) rfl) ?_
  refine jH rfl (jI [] Tryz.call121 rfl (N_nameOk from_ (by omega)) rfl (fun _ _ => trivial)) ?_
  rintro _ _ ⟨_, ⟨b_3, e_1, rfl, rfl⟩, rfl⟩
  refine jA (kA rfl) <| jA (jC (v := .bool (!b_3)) rfl) ?_
  rcases Bool.eq_false_or_eq_true (b_3) with h_4 | h_4
  · refine jb rfl rfl rfl (cB (cN h_4)) (ja (jd (jC (v := str to_) rfl))) ?_
    rintro _ _ ⟨rfl, rfl⟩
    refine jb rfl rfl rfl (cB (cN h_4)) (jI [] Tryz.call121 rfl (N_nameOk to_ (by omega)) rfl (fun _ _ => trivial)) ?_
    rintro _ _ ⟨_, ⟨b_7, e_5, rfl, rfl⟩, rfl⟩
    refine jb rfl rfl rfl (cB (cN h_4)) (ja (jd (kA rfl))) ?_
    rintro _ _ ⟨rfl, rfl⟩
    refine jA (jw (v := .bool (!b_7)) (cB (cN h_4)) rfl) <| jE <| jB ?_
    rcases Bool.eq_false_or_eq_true (b_7) with h_8 | h_8
    · refine jQ (cB (cN h_8)) <| jU <| jB <| jD <| jF <| jA (jC (v := pv p) rfl) <| jA (jC (v := str from_) rfl) ?_
      refine jH rfl (jI [0, 0, 0, 0] Tryz.call122 rfl (N_fileOf p x m hk (by omega) (by omega) from_ (by omega)) rfl (fun _ _ => trivial)) ?_
      rintro _ _ ⟨_, ⟨x_11, m_12, n_13, e_9, k_10, f_14, rfl, rfl⟩, rfl⟩
      refine jA (jG (v := iv n_13) rfl) <| jE <| jB <| jD <| jD <| jF <| jA (jC (v := iv n_13) rfl) <| jA (ju rfl rfl) <| jE <| jB ?_
      by_cases h_15 : n_13 = 0
      · refine jR (cB (dT h_15)) <| jD <| jF <| jA (jG (v := iv 2) rfl) <| jE <| jB <| jM <| jX <| jV (.inl rfl) rfl (jN (v := iv 2) rfl) (List.Sublist.refl _) ?_
        exact ⟨x_11, m_12, 2, (by simp only [MS.linkName, e_1, h_4, e_5, h_8, e_9, h_15, SB]; (repeat (first | rw [if_pos (by omega)] | rw [if_neg (by omega)])); all_goals (first | rfl | simp only [SB, e_1, h_4, e_5, h_8, e_9, h_15])), (k_10.mono (by omega) (by omega)), (by first | omega | (simp only [LE]; omega)), rfl, rfl⟩
      refine jQ (cB (dF h_15)) <| jU <| jB <| jD <| jD <| jF <| jA (jC (v := pv p) rfl) <| jA (jC (v := str to_) rfl) ?_
      refine jH rfl (jI [0, 0, 0, 0] Tryz.call122 rfl (N_fileOf p x_11 m_12 k_10 (by omega) (by omega) to_ (by omega)) rfl (fun _ _ => trivial)) ?_
      rintro _ _ ⟨_, ⟨x_18, m_19, n_20, e_16, k_17, f_21, rfl, rfl⟩, rfl⟩
      refine jA (kQ rfl rfl) <| jE <| jB ?_
      by_cases h_22 : n_20 = 0
      · refine jQ (cB (cN (dT h_22))) <| jU <| jB <| jD <| jF <| jA (jC (v := pv p) rfl) <| jA (jC (v := iv n_13) rfl) ?_
        refine jH rfl (jI [] Tryz.call126 rfl (N_linksKey n_13 (by omega)) rfl (fun _ _ => trivial)) ?_
        rintro _ _ ⟨_, ⟨u_25, e_23, f_26, rfl, rfl⟩, rfl⟩
        refine jH rfl (jI [0, 0, 0, 0] Tryz.call118 rfl (N_num p x_18 m_19 k_17 (by omega) (by omega) u_25) rfl (fun _ _ => trivial)) ?_
        rintro _ _ ⟨_, ⟨x_29, m_30, n_31, e_27, k_28, f_32, rfl, rfl⟩, rfl⟩
        refine jA (jG (v := iv n_31) rfl) <| jE <| jB <| jD <| jD <| jF <| jA (jC (v := iv n_31) rfl) <| jA (kT rfl rfl) <| jE <| jB ?_
        by_cases h_33 : 4 ≤ n_31
        · refine jR (cB (dT h_33)) <| jD <| jF <| jA (jG (v := iv 3) rfl) <| jE <| jB <| jM <| jX <| jV (.inl rfl) rfl (jN (v := iv 3) rfl) (List.Sublist.refl _) ?_
          exact ⟨x_29, m_30, 3, (by simp only [MS.linkName, e_1, h_4, e_5, h_8, e_9, h_15, e_16, h_22, e_23, e_27, h_33, SB]; (repeat (first | rw [if_pos (by omega)] | rw [if_neg (by omega)])); all_goals (first | rfl | simp only [SB, e_1, h_4, e_5, h_8, e_9, h_15, e_16, h_22, e_23, e_27, h_33])), (k_28.mono (by omega) (by omega)), (by first | omega | (simp only [LE]; omega)), rfl, rfl⟩
        refine jQ (cB (dF h_33)) <| jU <| jB <| jD <| jF <| jA (jC (v := pv p) rfl) <| jA (jC (v := str to_) rfl) ?_
        refine jH rfl (jI [] Tryz.call125 rfl (N_nameKey to_ (by omega)) rfl (fun _ _ => trivial)) ?_
        rintro _ _ ⟨_, ⟨u_36, e_34, f_37, rfl, rfl⟩, rfl⟩
        refine jA (jC (v := iv n_13) rfl) ?_
        refine jH rfl (jI [0, 0, 0, 0] Tryz.call124 rfl (N_setNum p x_29 m_30 k_28 (by omega) (by omega) u_36 n_13 (by omega) (by omega)) rfl (fun _ _ => trivial)) ?_
        rintro _ _ ⟨_, ⟨x_40, m_41, e_38, k_39, rfl, rfl⟩, rfl⟩
        refine jE <| jB <| jD <| jF <| jA (jC (v := pv p) rfl) <| jA (jC (v := iv n_13) rfl) ?_
        refine jH rfl (jI [] Tryz.call126 rfl (N_linksKey n_13 (by omega)) rfl (fun _ _ => trivial)) ?_
        rintro _ _ ⟨_, ⟨u_44, e_42, f_45, rfl, rfl⟩, rfl⟩
        have hqe_42 := e_23.symm.trans e_42
        subst hqe_42
        refine jA (jC (v := iv n_31) rfl) <| jA (jg (c := n_31 + 1) rfl rfl (wr (by omega))) ?_
        refine jH rfl (jI [0, 0, 0, 0] Tryz.call124 rfl (N_setNum p x_40 m_41 k_39 (by omega) (by omega) u_25 (n_31 + 1) (by omega) (by omega)) rfl (fun _ _ => trivial)) ?_
        rintro _ _ ⟨_, ⟨x_48, m_49, e_46, k_47, rfl, rfl⟩, rfl⟩
        refine jE <| jB <| jD <| jF <| jA (jG (v := iv 0) rfl) <| jE <| jB <| jM <| jV (.inl rfl) rfl (jN (v := iv 0) rfl) (List.Sublist.refl _) ?_
        exact ⟨x_48, m_49, 0, (by simp only [MS.linkName, e_1, h_4, e_5, h_8, e_9, h_15, e_16, h_22, e_23, e_27, h_33, e_34, e_38, e_46, SB]; (repeat (first | rw [if_pos (by omega)] | rw [if_neg (by omega)])); all_goals (first | rfl | simp only [SB, e_1, h_4, e_5, h_8, e_9, h_15, e_16, h_22, e_23, e_27, h_33, e_34, e_38, e_46])), (k_47.mono (by omega) (by omega)), (by first | omega | (simp only [LE]; omega)), rfl, rfl⟩
      refine jR (cB (cN (dF h_22))) <| jD <| jF <| jA (jG (v := iv 1) rfl) <| jE <| jB <| jM <| jX <| jV (.inl rfl) rfl (jN (v := iv 1) rfl) (List.Sublist.refl _) ?_
      exact ⟨x_18, m_19, 1, (by simp only [MS.linkName, e_1, h_4, e_5, h_8, e_9, h_15, e_16, h_22, SB]; (repeat (first | rw [if_pos (by omega)] | rw [if_neg (by omega)])); all_goals (first | rfl | simp only [SB, e_1, h_4, e_5, h_8, e_9, h_15, e_16, h_22])), (k_17.mono (by omega) (by omega)), (by first | omega | (simp only [LE]; omega)), rfl, rfl⟩
    refine jR (cB (cN h_8)) <| jD <| jF <| jA (jG (v := iv 4) rfl) <| jE <| jB <| jM <| jX <| jV (.inl rfl) rfl (jN (v := iv 4) rfl) (List.Sublist.refl _) ?_
    exact ⟨x, m, 4, (by simp only [MS.linkName, e_1, h_4, e_5, h_8, SB]; (repeat (first | rw [if_pos (by omega)] | rw [if_neg (by omega)])); all_goals (first | rfl | simp only [SB, e_1, h_4, e_5, h_8])), (hk.mono (by omega) (by omega)), (by first | omega | (simp only [LE]; omega)), rfl, rfl⟩
  refine jY (b := true) rfl rfl rfl (cB (cN h_4)) <| jY (b := true) rfl rfl rfl (cB (cN h_4)) <| jY (b := true) rfl rfl rfl (cB (cN h_4)) <| jA (jx (v := .bool true) (cB (cN h_4)) rfl) <| jE <| jB <| jR (cB rfl) <| jD <| jF <| jA (jG (v := iv 4) rfl) ?_
  refine jE <| jB <| jM <| jX <| jV (.inl rfl) rfl (jN (v := iv 4) rfl) (List.Sublist.refl _) ?_
  exact ⟨x, m, 4, (by simp only [MS.linkName, e_1, h_4, SB]; (repeat (first | rw [if_pos (by omega)] | rw [if_neg (by omega)])); all_goals (first | rfl | simp only [SB, e_1, h_4])), (hk.mono (by omega) (by omega)), (by first | omega | (simp only [LE]; omega)), rfl, rfl⟩

theorem M_linkName (x : MA) (m : MS) {S T : Nat} (hk : m.ok S T) (hS : S ≤ 40000000) (hT : T ≤ 40000000) (from_ : Str) (to_ : Str) (hfrom_ : from_.length ≤ 100000000) (hto_ : to_.length ≤ 100000000) :
    Ct Tryz.prog 33 [mv x m, str from_, str to_] (mr x m) (fun _ => True) (fun v A' => ∃ x' m' r0, MS.linkName m from_ to_ = (m', r0) ∧ m'.ok (S + 2) (T + 5) ∧ (0 ≤ r0 ∧ r0 ≤ 9) ∧ v = .tuple #[mv x' m', .int .i64 r0] ∧ A' = mr x' m') := by
  refine Ct.intro Tryz.func33 rfl Tryz.ntmps33 (lb rfl) fun w0 hpre => ?_
  refine jD <| jF ?_
  refine jH rfl (jv (cs := (mc x m)) rfl rfl) ?_
  rintro _ _ ⟨b_1, rfl, rfl⟩
  refine jH rfl (jh (z := zM) (cs := zC) kd rfl) ?_
  rintro _ _ ⟨b_2, rfl, rfl⟩
  refine jA (jG (v := iv 0) rfl) <| jE <| jB <| jD <| jD <| jF <| jA (jC (v := str from_) rfl) ?_
  refine jH rfl (jI [] Tryz.call87 rfl (N_sNameOk from_ (by omega)) rfl (fun _ _ => trivial)) ?_
  rintro _ _ ⟨_, ⟨b_5, e_3, rfl, rfl⟩, rfl⟩
  refine jA (kA rfl) <| jA (jC (v := .bool (!b_5)) rfl) ?_
  rcases Bool.eq_false_or_eq_true (b_5) with h_6 | h_6
  · refine jb rfl rfl rfl (cB (cN h_6)) (ja (jd (jC (v := str to_) rfl))) ?_
    rintro _ _ ⟨rfl, rfl⟩
    refine jb rfl rfl rfl (cB (cN h_6)) (jI [] Tryz.call87 rfl (N_sNameOk to_ (by omega)) rfl (fun _ _ => trivial)) ?_
    rintro _ _ ⟨_, ⟨b_9, e_7, rfl, rfl⟩, rfl⟩
    refine jb rfl rfl rfl (cB (cN h_6)) (ja (jd (kA rfl))) ?_
    rintro _ _ ⟨rfl, rfl⟩
    refine jA (jw (v := .bool (!b_9)) (cB (cN h_6)) rfl) <| jE <| jB ?_
    rcases Bool.eq_false_or_eq_true (b_9) with h_10 | h_10
    · refine jQ (cB (cN h_10)) <| jU <| jB <| jD <| jF <| jT (jP 1 x m rfl rfl) <| jA (jC (v := str from_) rfl) ?_
      refine jH rfl (jI [2, 2, 2] Tryz.call88 rfl (M_fileOf x m hk (by omega) (by omega) from_ (by omega)) rfl (fun _ _ => trivial)) ?_
      rintro _ _ ⟨_, ⟨x_13, m_14, n_15, e_11, k_12, f_16, rfl, rfl⟩, rfl⟩
      refine jA (jC (v := .tuple #[mv x_13 m_14, iv n_15]) rfl) <| jA (jS (v := mv x_13 m_14) rfl rfl) <| jA (jS (v := iv n_15) rfl rfl) ?_
      refine jH rfl (jW 4 x_13 m_14 rfl rfl rfl rfl) ?_
      rintro _ _ rfl
      refine jA (jG (v := iv n_15) rfl) <| jE <| jB <| jD <| jD <| jF <| jA (jC (v := iv n_15) rfl) <| jA (ju rfl rfl) <| jE <| jB ?_
      by_cases h_17 : n_15 = 0
      · refine jR (cB (dT h_17)) <| jD <| jF <| jT (jP 4 x_13 m_14 rfl rfl) ?_
        refine jH rfl (jW 3 x_13 m_14 rfl rfl rfl rfl) ?_
        rintro _ _ rfl
        refine jA (jG (v := iv 2) rfl) <| jE <| jB <| jM <| jX <| jj (.inl rfl) rfl (je (jP 3 x_13 m_14 rfl rfl) ⟨_, rfl⟩) (jN (v := iv 2) rfl) (tS 3 _) ?_
        exact ⟨x_13, m_14, 2, (by simp only [MS.linkName, e_3, h_6, e_7, h_10, e_11, h_17, SB]; (repeat (first | rw [if_pos (by omega)] | rw [if_neg (by omega)])); all_goals (first | rfl | simp only [SB, e_3, h_6, e_7, h_10, e_11, h_17])), (k_12.mono (by omega) (by omega)), (by first | omega | (simp only [LE]; omega)), rfl, rfl⟩
      refine jQ (cB (dF h_17)) <| jU <| jB <| jD <| jF <| jT (jP 4 x_13 m_14 rfl rfl) <| jA (jC (v := str to_) rfl) ?_
      refine jH rfl (jI [0, 0, 0] Tryz.call88 rfl (M_fileOf x_13 m_14 k_12 (by omega) (by omega) to_ (by omega)) rfl (fun _ _ => trivial)) ?_
      rintro _ _ ⟨_, ⟨x_20, m_21, n_22, e_18, k_19, f_23, rfl, rfl⟩, rfl⟩
      refine jA (jC (v := .tuple #[mv x_20 m_21, iv n_22]) rfl) <| jA (jS (v := mv x_20 m_21) rfl rfl) <| jA (jS (v := iv n_22) rfl rfl) ?_
      refine jH rfl (jW 4 x_20 m_21 rfl rfl rfl rfl) ?_
      rintro _ _ rfl
      refine jA (jG (v := iv n_22) rfl) <| jE <| jB <| jD <| jD <| jF <| jA (jC (v := iv n_22) rfl) <| jA (kQ rfl rfl) <| jE <| jB ?_
      by_cases h_24 : n_22 = 0
      · refine jQ (cB (cN (dT h_24))) <| jU <| jB <| jD <| jq [mb b_1 x_20 m_21] 7 mixed (by simp) <| jl 0 rfl (jP 0 x_20 m_21 rfl rfl) <| jK 1 rfl (jC (v := iv n_15) rfl) <| jL (i := 2) ?_
        refine jO rfl rfl (jI [] Tryz.call91 rfl (N_sKeyNum [105, 47] n_15 [47, 108] (show List.length ([105, 47] : Str) ≤ 2 by decide) (by omega) (show List.length ([47, 108] : Str) ≤ 2 by decide) (by omega)) rfl (fun _ _ => trivial)) ?_
        rintro _ _ ⟨_, ⟨u_31, e_29, f_32, rfl, rfl⟩, rfl⟩
        refine ⟨(by simp), ?_⟩
        refine jL (i := 3) ?_
        refine jO rfl rfl (jI [0, 0, 0] Tryz.call84 rfl (N_sNumAt x_20 m_21 k_19 (by omega) (by omega) u_31) rfl (fun _ _ => trivial)) ?_
        rintro _ _ ⟨_, ⟨x_41, m_42, n_43, e_39, k_40, f_44, rfl, rfl⟩, rfl⟩
        refine ⟨(by simp), ?_⟩
        refine jK 4 rfl (jC (v := .tuple #[mv x_41 m_42, iv n_43]) rfl) <| jK 5 rfl (jS (v := mv x_41 m_42) rfl rfl) <| jK 6 rfl (jS (v := iv n_43) rfl rfl) <| jL (i := 7) ?_
        refine jo rfl (jW 4 x_41 m_42 rfl rfl rfl rfl) ?_
        rintro _ _ rfl
        refine jK 8 rfl (jG (v := iv n_43) rfl) <| kG (by kernel_rfl) <| jB <| jD <| jD <| jF <| jA (jC (v := iv n_43) rfl) <| jA (kT rfl rfl) <| jE <| jB ?_
        by_cases h_45 : 4 ≤ n_43
        · refine jR (cB (dT h_45)) <| jD <| jF <| jT (jP 4 x_41 m_42 rfl rfl) ?_
          refine jH rfl (jW 3 x_41 m_42 rfl rfl rfl rfl) ?_
          rintro _ _ rfl
          refine jA (jG (v := iv 3) rfl) <| jE <| jB <| jM <| jX <| jj (.inl rfl) rfl (je (jP 3 x_41 m_42 rfl rfl) ⟨_, rfl⟩) (jN (v := iv 3) rfl) (tS 3 _) ?_
          exact ⟨x_41, m_42, 3, (by simp only [MS.linkName, e_3, h_6, e_7, h_10, e_11, h_17, e_18, h_24, e_29, e_39, h_45, SB]; (repeat (first | rw [if_pos (by omega)] | rw [if_neg (by omega)])); all_goals (first | rfl | simp only [SB, e_3, h_6, e_7, h_10, e_11, h_17, e_18, h_24, e_29, e_39, h_45])), (k_40.mono (by omega) (by omega)), (by first | omega | (simp only [LE]; omega)), rfl, rfl⟩
        refine jQ (cB (dF h_45)) <| jU <| jB <| jD <| jF <| jT (jP 4 x_41 m_42 rfl rfl) <| jA (jC (v := str to_) rfl) <| jA (kO rfl rfl (by (try simp only [List.length_append, List.length_cons, List.length_nil, List.length_drop, List.length_take]); omega)) <| jA (jC (v := iv n_15) rfl) ?_
        refine jH rfl (jI [0, 0, 0] Tryz.call90 rfl (N_sSetNum x_41 m_42 k_40 (by omega) (by omega) ([110, 47] ++ to_) n_15 (by first | omega | (simp only [LE]; omega)) (by omega)) rfl (fun _ _ => trivial)) ?_
        rintro _ _ ⟨_, ⟨x_48, m_49, e_46, k_47, rfl, rfl⟩, rfl⟩
        refine jH rfl (jW 4 x_48 m_49 rfl rfl rfl rfl) ?_
        rintro _ _ rfl
        refine jE <| jB <| jD <| jq [mb b_1 x_48 m_49] 5 mixed (by simp) <| jl 0 rfl (jP 0 x_48 m_49 rfl rfl) <| jK 1 rfl (jC (v := iv n_15) rfl) <| jK 3 rfl (jC (v := iv n_43) rfl) <| jK 4 rfl (jg (c := n_43 + 1) rfl rfl (wr (by omega))) <| jL (i := 2) ?_
        refine jO rfl rfl (jI [] Tryz.call91 rfl (N_sKeyNum [105, 47] n_15 [47, 108] (show List.length ([105, 47] : Str) ≤ 2 by decide) (by omega) (show List.length ([47, 108] : Str) ≤ 2 by decide) (by omega)) rfl (fun _ _ => trivial)) ?_
        rintro _ _ ⟨_, ⟨u_64, e_62, f_65, rfl, rfl⟩, rfl⟩
        have hqe_62 := e_29.symm.trans e_62
        subst hqe_62
        refine ⟨(by simp), ?_⟩
        refine jL (i := 5) ?_
        refine jo rfl (jI [0, 0, 0] Tryz.call90 rfl (N_sSetNum x_48 m_49 k_47 (by omega) (by omega) u_31 (n_43 + 1) (by omega) (by omega)) rfl (fun _ _ => trivial)) ?_
        rintro _ _ ⟨_, ⟨x_72, m_73, e_70, k_71, rfl, rfl⟩, rfl⟩
        refine jL (i := 6) ?_
        refine jo rfl (jW 3 x_72 m_73 rfl rfl rfl rfl) ?_
        rintro _ _ rfl
        refine jK 7 rfl (jG (v := iv 0) rfl) <| kG (by kernel_rfl) <| jB <| jM <| jj (.inl rfl) rfl (je (jP 3 x_72 m_73 rfl rfl) ⟨_, rfl⟩) (jN (v := iv 0) rfl) (tS 3 _) ?_
        exact ⟨x_72, m_73, 0, (by simp only [MS.linkName, e_3, h_6, e_7, h_10, e_11, h_17, e_18, h_24, e_29, e_39, h_45, e_46, e_70, SB]; (repeat (first | rw [if_pos (by omega)] | rw [if_neg (by omega)])); all_goals (first | rfl | simp only [SB, e_3, h_6, e_7, h_10, e_11, h_17, e_18, h_24, e_29, e_39, h_45, e_46, e_70])), (k_71.mono (by omega) (by omega)), (by first | omega | (simp only [LE]; omega)), rfl, rfl⟩
      refine jR (cB (cN (dF h_24))) <| jD <| jF <| jT (jP 4 x_20 m_21 rfl rfl) ?_
      refine jH rfl (jW 3 x_20 m_21 rfl rfl rfl rfl) ?_
      rintro _ _ rfl
      refine jA (jG (v := iv 1) rfl) <| jE <| jB <| jM <| jX <| jj (.inl rfl) rfl (je (jP 3 x_20 m_21 rfl rfl) ⟨_, rfl⟩) (jN (v := iv 1) rfl) (tS 3 _) ?_
      exact ⟨x_20, m_21, 1, (by simp only [MS.linkName, e_3, h_6, e_7, h_10, e_11, h_17, e_18, h_24, SB]; (repeat (first | rw [if_pos (by omega)] | rw [if_neg (by omega)])); all_goals (first | rfl | simp only [SB, e_3, h_6, e_7, h_10, e_11, h_17, e_18, h_24])), (k_19.mono (by omega) (by omega)), (by first | omega | (simp only [LE]; omega)), rfl, rfl⟩
    refine jR (cB (cN h_10)) <| jD <| jF <| jT (jP 1 x m rfl rfl) ?_
    refine jH rfl (jW 0 x m rfl rfl rfl rfl) ?_
    rintro _ _ rfl
    refine jA (jG (v := iv 4) rfl) <| jE <| jB <| jM <| jX <| kL (pick_perm [2, 2, 2] (A := [rC x.a0 x.c0 m.s, rS x.a1 x.c1 m.r, rS x.a2 x.c2 m.w]) (F := [mb b_2 x m, mb b_1 x m]) rfl).symm <| jj (.inl rfl) rfl (je (jP 3 x m rfl rfl) ⟨_, rfl⟩) (jN (v := iv 4) rfl) (tS 3 _) ?_
    exact ⟨x, m, 4, (by simp only [MS.linkName, e_3, h_6, e_7, h_10, SB]; (repeat (first | rw [if_pos (by omega)] | rw [if_neg (by omega)])); all_goals (first | rfl | simp only [SB, e_3, h_6, e_7, h_10])), (hk.mono (by omega) (by omega)), (by first | omega | (simp only [LE]; omega)), rfl, rfl⟩
  refine jY (b := true) rfl rfl rfl (cB (cN h_6)) <| jY (b := true) rfl rfl rfl (cB (cN h_6)) <| jY (b := true) rfl rfl rfl (cB (cN h_6)) <| jA (jx (v := .bool true) (cB (cN h_6)) rfl) <| jE <| jB <| jR (cB rfl) <| jD <| jF <| jT (jP 1 x m rfl rfl) ?_
  refine jH rfl (jW 0 x m rfl rfl rfl rfl) ?_
  rintro _ _ rfl
  refine jA (jG (v := iv 4) rfl) <| jE <| jB <| jM <| jX <| kL (pick_perm [2, 2, 2] (A := [rC x.a0 x.c0 m.s, rS x.a1 x.c1 m.r, rS x.a2 x.c2 m.w]) (F := [mb b_2 x m, mb b_1 x m]) rfl).symm <| jj (.inl rfl) rfl (je (jP 3 x m rfl rfl) ⟨_, rfl⟩) (jN (v := iv 4) rfl) (tS 3 _) ?_
  exact ⟨x, m, 4, (by simp only [MS.linkName, e_3, h_6, SB]; (repeat (first | rw [if_pos (by omega)] | rw [if_neg (by omega)])); all_goals (first | rfl | simp only [SB, e_3, h_6])), (hk.mono (by omega) (by omega)), (by first | omega | (simp only [LE]; omega)), rfl, rfl⟩

theorem N_unlinkName (p : Nat) (x : MA) (m : MS) {S T : Nat} (hk : m.ok S T) (hS : S ≤ 40000000) (hT : T ≤ 40000000) (name : Str) (hname : name.length ≤ 100000000) :
    Ct Tryz.prog 58 [.pointer (some ⟨p, 0, none⟩), str name] (mb p x m :: mr x m) (fun _ => True) (fun v A' => ∃ x' m' r0, MS.unlinkName m name = (m', r0) ∧ m'.ok (S + 1) (T + S + 4) ∧ (0 ≤ r0 ∧ r0 ≤ 9) ∧ v = .int .i64 r0 ∧ A' = mb p x' m' :: mr x' m') := by
  refine Ct.intro Tryz.func58 rfl Tryz.ntmps58 (lb rfl) fun w0 hpre => ?_
  refine jD <| jF <| jA (jG (v := iv 0) rfl) <| jE <| jB <| jD <| jD <| jF <| jA (jC (v := str name) rfl) ?_
  refine jH rfl (jI [] Tryz.call121 rfl (N_nameOk name (by omega)) rfl (fun _ _ => trivial)) ?_
  rintro _ _ ⟨_, ⟨b_3, e_1, rfl, rfl⟩, rfl⟩
  refine jA (kA rfl) <| jE <| jB ?_
  rcases Bool.eq_false_or_eq_true (b_3) with h_4 | h_4
  · refine jQ (cB (cN h_4)) <| jU <| jB <| jD <| jF <| jA (jC (v := pv p) rfl) <| jA (jC (v := str name) rfl) ?_
    refine jH rfl (jI [0, 0, 0, 0] Tryz.call122 rfl (N_fileOf p x m hk (by omega) (by omega) name (by omega)) rfl (fun _ _ => trivial)) ?_
    rintro _ _ ⟨_, ⟨x_7, m_8, n_9, e_5, k_6, f_10, rfl, rfl⟩, rfl⟩
    refine jA (jG (v := iv n_9) rfl) <| jE <| jB <| jD <| jD <| jF <| jA (jC (v := iv n_9) rfl) <| jA (ju rfl rfl) <| jE <| jB ?_
    by_cases h_11 : n_9 = 0
    · refine jR (cB (dT h_11)) <| jD <| jF <| jA (jG (v := iv 2) rfl) <| jE <| jB <| jM <| jX <| jV (.inl rfl) rfl (jN (v := iv 2) rfl) (List.Sublist.refl _) ?_
      exact ⟨x_7, m_8, 2, (by simp only [MS.unlinkName, e_1, h_4, e_5, h_11, SB]; (repeat (first | rw [if_pos (by omega)] | rw [if_neg (by omega)])); all_goals (first | rfl | simp only [SB, e_1, h_4, e_5, h_11])), (k_6.mono (by omega) (by omega)), (by first | omega | (simp only [LE]; omega)), rfl, rfl⟩
    refine jQ (cB (dF h_11)) <| jU <| jB <| jD <| jF <| jA (jC (v := pv p) rfl) <| jA (jC (v := str name) rfl) ?_
    refine jH rfl (jI [] Tryz.call125 rfl (N_nameKey name (by omega)) rfl (fun _ _ => trivial)) ?_
    rintro _ _ ⟨_, ⟨u_14, e_12, f_15, rfl, rfl⟩, rfl⟩
    refine jH rfl (jI [0, 0, 0, 0] Tryz.call127 rfl (N_layNil p x_7 m_8 k_6 (by omega) (by omega) u_14 (by omega)) rfl (fun _ _ => trivial)) ?_
    rintro _ _ ⟨_, ⟨x_18, m_19, e_16, k_17, rfl, rfl⟩, rfl⟩
    refine jE <| jB <| jD <| jD <| jF <| jA (jC (v := pv p) rfl) <| jA (jC (v := iv n_9) rfl) ?_
    refine jH rfl (jI [] Tryz.call126 rfl (N_linksKey n_9 (by omega)) rfl (fun _ _ => trivial)) ?_
    rintro _ _ ⟨_, ⟨u_22, e_20, f_23, rfl, rfl⟩, rfl⟩
    refine jH rfl (jI [0, 0, 0, 0] Tryz.call118 rfl (N_num p x_18 m_19 k_17 (by omega) (by omega) u_22) rfl (fun _ _ => trivial)) ?_
    rintro _ _ ⟨_, ⟨x_26, m_27, n_28, e_24, k_25, f_29, rfl, rfl⟩, rfl⟩
    refine jA (jG (v := iv n_28) rfl) <| jE <| jB <| jD <| jF <| jA (jC (v := iv n_28) rfl) <| jA (kS rfl rfl) <| jE <| jB ?_
    by_cases h_30 : 1 < n_28
    · refine jR (cB (dT h_30)) <| jF <| jA (jC (v := pv p) rfl) <| jA (jC (v := iv n_9) rfl) ?_
      refine jH rfl (jI [] Tryz.call126 rfl (N_linksKey n_9 (by omega)) rfl (fun _ _ => trivial)) ?_
      rintro _ _ ⟨_, ⟨u_33, e_31, f_34, rfl, rfl⟩, rfl⟩
      have hqe_31 := e_20.symm.trans e_31
      subst hqe_31
      refine jA (jC (v := iv n_28) rfl) <| jA (kR (c := n_28 - 1) rfl rfl (wr (by omega))) ?_
      refine jH rfl (jI [0, 0, 0, 0] Tryz.call124 rfl (N_setNum p x_26 m_27 k_25 (by omega) (by omega) u_22 (n_28 - 1) (by omega) (by omega)) rfl (fun _ _ => trivial)) ?_
      rintro _ _ ⟨_, ⟨x_37, m_38, e_35, k_36, rfl, rfl⟩, rfl⟩
      refine jE <| jB <| jD <| jF <| jA (jG (v := iv 0) rfl) <| jE <| jB <| jM <| jV (.inl rfl) rfl (jN (v := iv 0) rfl) (List.Sublist.refl _) ?_
      exact ⟨x_37, m_38, 0, (by simp only [MS.unlinkName, e_1, h_4, e_5, h_11, e_12, e_16, e_20, e_24, h_30, e_35, SB]; (repeat (first | rw [if_pos (by omega)] | rw [if_neg (by omega)])); all_goals (first | rfl | simp only [SB, e_1, h_4, e_5, h_11, e_12, e_16, e_20, e_24, h_30, e_35])), (k_36.mono (by omega) (by omega)), (by first | omega | (simp only [LE]; omega)), rfl, rfl⟩
    refine jQ (cB (dF h_30)) <| jF <| jA (jC (v := pv p) rfl) <| jA (jC (v := iv n_9) rfl) ?_
    refine jH rfl (jI [] Tryz.call129 rfl (N_keyNum [105, 47] n_9 [47] (show List.length ([105, 47] : Str) ≤ 2 by decide) (by omega) (show List.length ([47] : Str) ≤ 1 by decide) (by omega)) rfl (fun _ _ => trivial)) ?_
    rintro _ _ ⟨_, ⟨u_41, e_39, f_42, rfl, rfl⟩, rfl⟩
    refine jH rfl (jI [0, 0, 0, 0] Tryz.call128 rfl (N_wipe p x_26 m_27 k_25 (by omega) (by omega) u_41 (by omega)) rfl (fun _ _ => trivial)) ?_
    rintro _ _ ⟨_, ⟨x_45, m_46, e_43, k_44, rfl, rfl⟩, rfl⟩
    refine jE <| jB <| jD <| jF <| jA (jG (v := iv 0) rfl) <| jE <| jB <| jM <| jV (.inl rfl) rfl (jN (v := iv 0) rfl) (List.Sublist.refl _) ?_
    exact ⟨x_45, m_46, 0, (by simp only [MS.unlinkName, e_1, h_4, e_5, h_11, e_12, e_16, e_20, e_24, h_30, e_39, e_43, SB]; (repeat (first | rw [if_pos (by omega)] | rw [if_neg (by omega)])); all_goals (first | rfl | simp only [SB, e_1, h_4, e_5, h_11, e_12, e_16, e_20, e_24, h_30, e_39, e_43])), (k_44.mono (by omega) (by omega)), (by first | omega | (simp only [LE]; omega)), rfl, rfl⟩
  refine jR (cB (cN h_4)) <| jD <| jF <| jA (jG (v := iv 4) rfl) <| jE <| jB <| jM <| jX <| jV (.inl rfl) rfl (jN (v := iv 4) rfl) (List.Sublist.refl _) ?_
  exact ⟨x, m, 4, (by simp only [MS.unlinkName, e_1, h_4, SB]; (repeat (first | rw [if_pos (by omega)] | rw [if_neg (by omega)])); all_goals (first | rfl | simp only [SB, e_1, h_4])), (hk.mono (by omega) (by omega)), (by first | omega | (simp only [LE]; omega)), rfl, rfl⟩

theorem M_unlinkName (x : MA) (m : MS) {S T : Nat} (hk : m.ok S T) (hS : S ≤ 40000000) (hT : T ≤ 40000000) (name : Str) (hname : name.length ≤ 100000000) :
    Ct Tryz.prog 34 [mv x m, str name] (mr x m) (fun _ => True) (fun v A' => ∃ x' m' r0, MS.unlinkName m name = (m', r0) ∧ m'.ok (S + 1) (T + S + 4) ∧ (0 ≤ r0 ∧ r0 ≤ 9) ∧ v = .tuple #[mv x' m', .int .i64 r0] ∧ A' = mr x' m') := by
  refine Ct.intro Tryz.func34 rfl Tryz.ntmps34 (lb rfl) fun w0 hpre => ?_
  refine jD <| jF ?_
  refine jH rfl (jv (cs := (mc x m)) rfl rfl) ?_
  rintro _ _ ⟨b_1, rfl, rfl⟩
  refine jH rfl (jh (z := zM) (cs := zC) kd rfl) ?_
  rintro _ _ ⟨b_2, rfl, rfl⟩
  refine jA (jG (v := iv 0) rfl) <| jE <| jB <| jD <| jD <| jF <| jA (jC (v := str name) rfl) ?_
  refine jH rfl (jI [] Tryz.call87 rfl (N_sNameOk name (by omega)) rfl (fun _ _ => trivial)) ?_
  rintro _ _ ⟨_, ⟨b_5, e_3, rfl, rfl⟩, rfl⟩
  refine jA (kA rfl) <| jE <| jB ?_
  rcases Bool.eq_false_or_eq_true (b_5) with h_6 | h_6
  · refine jQ (cB (cN h_6)) <| jU <| jB <| jD <| jF <| jT (jP 1 x m rfl rfl) <| jA (jC (v := str name) rfl) ?_
    refine jH rfl (jI [2, 2, 2] Tryz.call88 rfl (M_fileOf x m hk (by omega) (by omega) name (by omega)) rfl (fun _ _ => trivial)) ?_
    rintro _ _ ⟨_, ⟨x_9, m_10, n_11, e_7, k_8, f_12, rfl, rfl⟩, rfl⟩
    refine jA (jC (v := .tuple #[mv x_9 m_10, iv n_11]) rfl) <| jA (jS (v := mv x_9 m_10) rfl rfl) <| jA (jS (v := iv n_11) rfl rfl) ?_
    refine jH rfl (jW 4 x_9 m_10 rfl rfl rfl rfl) ?_
    rintro _ _ rfl
    refine jA (jG (v := iv n_11) rfl) <| jE <| jB <| jD <| jD <| jF <| jA (jC (v := iv n_11) rfl) <| jA (ju rfl rfl) <| jE <| jB ?_
    by_cases h_13 : n_11 = 0
    · refine jR (cB (dT h_13)) <| jD <| jF <| jT (jP 4 x_9 m_10 rfl rfl) ?_
      refine jH rfl (jW 3 x_9 m_10 rfl rfl rfl rfl) ?_
      rintro _ _ rfl
      refine jA (jG (v := iv 2) rfl) <| jE <| jB <| jM <| jX <| jj (.inl rfl) rfl (je (jP 3 x_9 m_10 rfl rfl) ⟨_, rfl⟩) (jN (v := iv 2) rfl) (tS 3 _) ?_
      exact ⟨x_9, m_10, 2, (by simp only [MS.unlinkName, e_3, h_6, e_7, h_13, SB]; (repeat (first | rw [if_pos (by omega)] | rw [if_neg (by omega)])); all_goals (first | rfl | simp only [SB, e_3, h_6, e_7, h_13])), (k_8.mono (by omega) (by omega)), (by first | omega | (simp only [LE]; omega)), rfl, rfl⟩
    refine jQ (cB (dF h_13)) <| jU <| jB <| jD <| jF <| jT (jP 4 x_9 m_10 rfl rfl) <| jA (jC (v := str name) rfl) <| jA (kO rfl rfl (by (try simp only [List.length_append, List.length_cons, List.length_nil, List.length_drop, List.length_take]); omega)) ?_
    refine jH rfl (jI [0, 0, 0] Tryz.call92 rfl (N_sLayNil x_9 m_10 k_8 (by omega) (by omega) ([110, 47] ++ name) (by first | omega | (simp only [LE]; omega))) rfl (fun _ _ => trivial)) ?_
    rintro _ _ ⟨_, ⟨x_16, m_17, e_14, k_15, rfl, rfl⟩, rfl⟩
    refine jH rfl (jW 4 x_16 m_17 rfl rfl rfl rfl) ?_
    rintro _ _ rfl
    refine jE <| jB <| jD <| jq [mb b_1 x_16 m_17] 7 mixed (by simp) <| jl 0 rfl (jP 0 x_16 m_17 rfl rfl) <| jK 1 rfl (jC (v := iv n_11) rfl) <| jL (i := 2) ?_
    refine jO rfl rfl (jI [] Tryz.call91 rfl (N_sKeyNum [105, 47] n_11 [47, 108] (show List.length ([105, 47] : Str) ≤ 2 by decide) (by omega) (show List.length ([47, 108] : Str) ≤ 2 by decide) (by omega)) rfl (fun _ _ => trivial)) ?_
    rintro _ _ ⟨_, ⟨u_24, e_22, f_25, rfl, rfl⟩, rfl⟩
    refine ⟨(by simp), ?_⟩
    refine jL (i := 3) ?_
    refine jO rfl rfl (jI [0, 0, 0] Tryz.call84 rfl (N_sNumAt x_16 m_17 k_15 (by omega) (by omega) u_24) rfl (fun _ _ => trivial)) ?_
    rintro _ _ ⟨_, ⟨x_34, m_35, n_36, e_32, k_33, f_37, rfl, rfl⟩, rfl⟩
    refine ⟨(by simp), ?_⟩
    refine jK 4 rfl (jC (v := .tuple #[mv x_34 m_35, iv n_36]) rfl) <| jK 5 rfl (jS (v := mv x_34 m_35) rfl rfl) <| jK 6 rfl (jS (v := iv n_36) rfl rfl) <| jL (i := 7) ?_
    refine jo rfl (jW 4 x_34 m_35 rfl rfl rfl rfl) ?_
    rintro _ _ rfl
    refine jK 8 rfl (jG (v := iv n_36) rfl) <| kG (by kernel_rfl) <| jB <| jD <| jD <| jF <| jA (jC (v := iv n_36) rfl) <| jA (kS rfl rfl) <| jE <| jB ?_
    by_cases h_38 : 1 < n_36
    · refine jR (cB (dT h_38)) <| jD <| jq [mb b_1 x_34 m_35] 5 mixed (by simp) <| jl 0 rfl (jP 0 x_34 m_35 rfl rfl) <| jK 1 rfl (jC (v := iv n_11) rfl) <| jK 3 rfl (jC (v := iv n_36) rfl) <| jK 4 rfl (kR (c := n_36 - 1) rfl rfl (wr (by omega))) <| jL (i := 2) ?_
      refine jO rfl rfl (jI [] Tryz.call91 rfl (N_sKeyNum [105, 47] n_11 [47, 108] (show List.length ([105, 47] : Str) ≤ 2 by decide) (by omega) (show List.length ([47, 108] : Str) ≤ 2 by decide) (by omega)) rfl (fun _ _ => trivial)) ?_
      rintro _ _ ⟨_, ⟨u_53, e_51, f_54, rfl, rfl⟩, rfl⟩
      have hqe_51 := e_22.symm.trans e_51
      subst hqe_51
      refine ⟨(by simp), ?_⟩
      refine jL (i := 5) ?_
      refine jo rfl (jI [0, 0, 0] Tryz.call90 rfl (N_sSetNum x_34 m_35 k_33 (by omega) (by omega) u_24 (n_36 - 1) (by omega) (by omega)) rfl (fun _ _ => trivial)) ?_
      rintro _ _ ⟨_, ⟨x_61, m_62, e_59, k_60, rfl, rfl⟩, rfl⟩
      refine jL (i := 6) ?_
      refine jo rfl (jW 3 x_61 m_62 rfl rfl rfl rfl) ?_
      rintro _ _ rfl
      refine jK 7 rfl (jG (v := iv 0) rfl) <| kG (by kernel_rfl) <| jB <| jM <| jX <| jj (.inl rfl) rfl (je (jP 3 x_61 m_62 rfl rfl) ⟨_, rfl⟩) (jN (v := iv 0) rfl) (tS 3 _) ?_
      exact ⟨x_61, m_62, 0, (by simp only [MS.unlinkName, e_3, h_6, e_7, h_13, e_14, e_22, e_32, h_38, e_59, SB]; (repeat (first | rw [if_pos (by omega)] | rw [if_neg (by omega)])); all_goals (first | rfl | simp only [SB, e_3, h_6, e_7, h_13, e_14, e_22, e_32, h_38, e_59])), (k_60.mono (by omega) (by omega)), (by first | omega | (simp only [LE]; omega)), rfl, rfl⟩
    refine jQ (cB (dF h_38)) <| jU <| jB <| jD <| jq [mb b_1 x_34 m_35] 3 mixed (by simp) <| jl 0 rfl (jP 0 x_34 m_35 rfl rfl) <| jK 1 rfl (jC (v := iv n_11) rfl) <| jL (i := 2) ?_
    refine jO rfl rfl (jI [] Tryz.call91 rfl (N_sKeyNum [105, 47] n_11 [47] (show List.length ([105, 47] : Str) ≤ 2 by decide) (by omega) (show List.length ([47] : Str) ≤ 1 by decide) (by omega)) rfl (fun _ _ => trivial)) ?_
    rintro _ _ ⟨_, ⟨u_69, e_67, f_70, rfl, rfl⟩, rfl⟩
    refine ⟨(by simp), ?_⟩
    refine jL (i := 3) ?_
    refine jo rfl (jI [0, 0, 0] Tryz.call93 rfl (M_wipe x_34 m_35 k_33 (by omega) (by omega) u_69 (by omega)) rfl (fun _ _ => trivial)) ?_
    rintro _ _ ⟨_, ⟨x_77, m_78, e_75, k_76, rfl, rfl⟩, rfl⟩
    refine jL (i := 4) ?_
    refine jo rfl (jW 3 x_77 m_78 rfl rfl rfl rfl) ?_
    rintro _ _ rfl
    refine jK 5 rfl (jG (v := iv 0) rfl) <| kG (by kernel_rfl) <| jB <| jM <| jj (.inl rfl) rfl (je (jP 3 x_77 m_78 rfl rfl) ⟨_, rfl⟩) (jN (v := iv 0) rfl) (tS 3 _) ?_
    exact ⟨x_77, m_78, 0, (by simp only [MS.unlinkName, e_3, h_6, e_7, h_13, e_14, e_22, e_32, h_38, e_67, e_75, SB]; (repeat (first | rw [if_pos (by omega)] | rw [if_neg (by omega)])); all_goals (first | rfl | simp only [SB, e_3, h_6, e_7, h_13, e_14, e_22, e_32, h_38, e_67, e_75])), (k_76.mono (by omega) (by omega)), (by first | omega | (simp only [LE]; omega)), rfl, rfl⟩
  refine jR (cB (cN h_6)) <| jD <| jF <| jT (jP 1 x m rfl rfl) ?_
  refine jH rfl (jW 0 x m rfl rfl rfl rfl) ?_
  rintro _ _ rfl
  refine jA (jG (v := iv 4) rfl) <| jE <| jB <| jM <| jX <| kL (pick_perm [2, 2, 2] (A := [rC x.a0 x.c0 m.s, rS x.a1 x.c1 m.r, rS x.a2 x.c2 m.w]) (F := [mb b_2 x m, mb b_1 x m]) rfl).symm <| jj (.inl rfl) rfl (je (jP 3 x m rfl rfl) ⟨_, rfl⟩) (jN (v := iv 4) rfl) (tS 3 _) ?_
  exact ⟨x, m, 4, (by simp only [MS.unlinkName, e_3, h_6, SB]; (repeat (first | rw [if_pos (by omega)] | rw [if_neg (by omega)])); all_goals (first | rfl | simp only [SB, e_3, h_6])), (hk.mono (by omega) (by omega)), (by first | omega | (simp only [LE]; omega)), rfl, rfl⟩

theorem N_renameName (p : Nat) (x : MA) (m : MS) {S T : Nat} (hk : m.ok S T) (hS : S ≤ 30000000) (hT : T ≤ 30000000) (from_ : Str) (to_ : Str) (hfrom_ : from_.length ≤ 100000000) (hto_ : to_.length ≤ 100000000) :
    Ct Tryz.prog 59 [.pointer (some ⟨p, 0, none⟩), str from_, str to_] (mb p x m :: mr x m) (fun _ => True) (fun v A' => ∃ x' m' r0, MS.renameName m from_ to_ = (m', r0) ∧ m'.ok (S + 2) (T + S + 8) ∧ (0 ≤ r0 ∧ r0 ≤ 9) ∧ v = .int .i64 r0 ∧ A' = mb p x' m' :: mr x' m') := by
  refine Ct.intro Tryz.func59 rfl Tryz.ntmps59 (lb rfl) fun w0 hpre => ?_
  refine jD <| jF <| jA (jG (v := iv 0) rfl) <| jE <| jB <| jD <| jD <| jF <| jA (jC (v := str from_) rfl) ?_
  refine jH rfl (jI [] Tryz.call121 rfl (N_nameOk from_ (by omega)) rfl (fun _ _ => trivial)) ?_
  rintro _ _ ⟨_, ⟨b_3, e_1, rfl, rfl⟩, rfl⟩
  refine jA (kA rfl) <| jA (jC (v := .bool (!b_3)) rfl) ?_
  rcases Bool.eq_false_or_eq_true (b_3) with h_4 | h_4
  · refine jb rfl rfl rfl (cB (cN h_4)) (ja (jd (jC (v := str to_) rfl))) ?_
    rintro _ _ ⟨rfl, rfl⟩
    refine jb rfl rfl rfl (cB (cN h_4)) (jI [] Tryz.call121 rfl (N_nameOk to_ (by omega)) rfl (fun _ _ => trivial)) ?_
    rintro _ _ ⟨_, ⟨b_7, e_5, rfl, rfl⟩, rfl⟩
    refine jb rfl rfl rfl (cB (cN h_4)) (ja (jd (kA rfl))) ?_
    rintro _ _ ⟨rfl, rfl⟩
    refine jA (jw (v := .bool (!b_7)) (cB (cN h_4)) rfl) <| jE <| jB ?_
    rcases Bool.eq_false_or_eq_true (b_7) with h_8 | h_8
    · refine jQ (cB (cN h_8)) <| jU <| jB <| jD <| jF <| jA (jC (v := pv p) rfl) <| jA (jC (v := str from_) rfl) ?_
      refine jH rfl (jI [0, 0, 0, 0] Tryz.call122 rfl (N_fileOf p x m hk (by omega) (by omega) from_ (by omega)) rfl (fun _ _ => trivial)) ?_
      rintro _ _ ⟨_, ⟨x_11, m_12, n_13, e_9, k_10, f_14, rfl, rfl⟩, rfl⟩
      refine jA (jG (v := iv n_13) rfl) <| jE <| jB <| jD <| jD <| jF <| jA (jC (v := iv n_13) rfl) <| jA (ju rfl rfl) <| jE <| jB ?_
      by_cases h_15 : n_13 = 0
      · refine jR (cB (dT h_15)) <| jD <| jF <| jA (jG (v := iv 2) rfl) <| jE <| jB <| jM <| jX <| jV (.inl rfl) rfl (jN (v := iv 2) rfl) (List.Sublist.refl _) ?_
        exact ⟨x_11, m_12, 2, (by simp only [MS.renameName, e_1, h_4, e_5, h_8, e_9, h_15, SB]; (repeat (first | rw [if_pos (by omega)] | rw [if_neg (by omega)])); all_goals (first | rfl | simp only [SB, e_1, h_4, e_5, h_8, e_9, h_15])), (k_10.mono (by omega) (by omega)), (by first | omega | (simp only [LE]; omega)), rfl, rfl⟩
      refine jQ (cB (dF h_15)) <| jU <| jB <| jD <| jD <| jF <| jA (jC (v := pv p) rfl) <| jA (jC (v := str to_) rfl) ?_
      refine jH rfl (jI [0, 0, 0, 0] Tryz.call122 rfl (N_fileOf p x_11 m_12 k_10 (by omega) (by omega) to_ (by omega)) rfl (fun _ _ => trivial)) ?_
      rintro _ _ ⟨_, ⟨x_18, m_19, n_20, e_16, k_17, f_21, rfl, rfl⟩, rfl⟩
      refine jA (jG (v := iv n_20) rfl) <| jE <| jB <| jm <| jD <| jF <| jA (jC (v := iv n_20) rfl) <| jA (jC (v := iv n_13) rfl) <| jA (ju rfl rfl) <| jA (jG (v := .bool (decide (n_20 = n_13))) rfl) ?_
      refine jE <| jB ?_
      by_cases h_22 : n_20 = n_13
      · refine jR (cB (dT h_22)) <| jD <| jF <| jA (jG (v := iv 0) rfl) <| jE <| jB <| jM <| jz <| jX <| jV (.inl rfl) rfl (jN (v := iv 0) rfl) (List.Sublist.refl _) ?_
        exact ⟨x_18, m_19, 0, (by simp only [MS.renameName, e_1, h_4, e_5, h_8, e_9, h_15, e_16, h_22, SB]; (repeat (first | rw [if_pos (by omega)] | rw [if_neg (by omega)])); all_goals (first | rfl | simp only [SB, e_1, h_4, e_5, h_8, e_9, h_15, e_16, h_22])), (k_17.mono (by omega) (by omega)), (by first | omega | (simp only [LE]; omega)), rfl, rfl⟩
      refine jQ (cB (dF h_22)) <| jD <| jF <| jA (jC (v := iv n_20) rfl) <| jA (kQ rfl rfl) <| jA (jG (v := .bool (!(decide (n_20 = 0)))) rfl) <| jE <| jB ?_
      by_cases h_23 : n_20 = 0
      · refine jQ (cB (cN (dT h_23))) <| jU <| jk <| jB <| jD <| jF <| jA (jC (v := pv p) rfl) <| jA (jC (v := str to_) rfl) ?_
        refine jH rfl (jI [] Tryz.call125 rfl (N_nameKey to_ (by omega)) rfl (fun _ _ => trivial)) ?_
        rintro _ _ ⟨_, ⟨u_26, e_24, f_27, rfl, rfl⟩, rfl⟩
        refine jA (jC (v := iv n_13) rfl) ?_
        refine jH rfl (jI [0, 0, 0, 0] Tryz.call124 rfl (N_setNum p x_18 m_19 k_17 (by omega) (by omega) u_26 n_13 (by omega) (by omega)) rfl (fun _ _ => trivial)) ?_
        rintro _ _ ⟨_, ⟨x_30, m_31, e_28, k_29, rfl, rfl⟩, rfl⟩
        refine jE <| jB <| jD <| jF <| jA (jC (v := pv p) rfl) <| jA (jC (v := str from_) rfl) ?_
        refine jH rfl (jI [] Tryz.call125 rfl (N_nameKey from_ (by omega)) rfl (fun _ _ => trivial)) ?_
        rintro _ _ ⟨_, ⟨u_34, e_32, f_35, rfl, rfl⟩, rfl⟩
        refine jH rfl (jI [0, 0, 0, 0] Tryz.call127 rfl (N_layNil p x_30 m_31 k_29 (by omega) (by omega) u_34 (by omega)) rfl (fun _ _ => trivial)) ?_
        rintro _ _ ⟨_, ⟨x_38, m_39, e_36, k_37, rfl, rfl⟩, rfl⟩
        refine jE <| jB <| jD <| jF <| jA (jG (v := iv 0) rfl) <| jE <| jB <| jM <| jV (.inl rfl) rfl (jN (v := iv 0) rfl) (List.Sublist.refl _) ?_
        exact ⟨x_38, m_39, 0, (by simp only [MS.renameName, e_1, h_4, e_5, h_8, e_9, h_15, e_16, h_22, h_23, e_24, e_28, e_32, e_36, SB]; (repeat (first | rw [if_pos (by omega)] | rw [if_neg (by omega)])); all_goals (first | rfl | simp only [SB, e_1, h_4, e_5, h_8, e_9, h_15, e_16, h_22, h_23, e_24, e_28, e_32, e_36])), (k_37.mono (by omega) (by omega)), (by first | omega | (simp only [LE]; omega)), rfl, rfl⟩
      refine jR (cB (cN (dF h_23))) <| jF <| jA (jC (v := pv p) rfl) <| jA (jC (v := str to_) rfl) ?_
      refine jH rfl (jI [0, 0, 0, 0] Tryz.call58 rfl (N_unlinkName p x_18 m_19 k_17 (by omega) (by omega) to_ (by omega)) rfl (fun _ _ => trivial)) ?_
      rintro _ _ ⟨_, ⟨x_42, m_43, n_44, e_40, k_41, f_45, rfl, rfl⟩, rfl⟩
      refine jE <| jk <| jB <| jD <| jF <| jA (jC (v := pv p) rfl) <| jA (jC (v := str to_) rfl) ?_
      refine jH rfl (jI [] Tryz.call125 rfl (N_nameKey to_ (by omega)) rfl (fun _ _ => trivial)) ?_
      rintro _ _ ⟨_, ⟨u_48, e_46, f_49, rfl, rfl⟩, rfl⟩
      refine jA (jC (v := iv n_13) rfl) ?_
      refine jH rfl (jI [0, 0, 0, 0] Tryz.call124 rfl (N_setNum p x_42 m_43 k_41 (by omega) (by omega) u_48 n_13 (by omega) (by omega)) rfl (fun _ _ => trivial)) ?_
      rintro _ _ ⟨_, ⟨x_52, m_53, e_50, k_51, rfl, rfl⟩, rfl⟩
      refine jE <| jB <| jD <| jF <| jA (jC (v := pv p) rfl) <| jA (jC (v := str from_) rfl) ?_
      refine jH rfl (jI [] Tryz.call125 rfl (N_nameKey from_ (by omega)) rfl (fun _ _ => trivial)) ?_
      rintro _ _ ⟨_, ⟨u_56, e_54, f_57, rfl, rfl⟩, rfl⟩
      refine jH rfl (jI [0, 0, 0, 0] Tryz.call127 rfl (N_layNil p x_52 m_53 k_51 (by omega) (by omega) u_56 (by omega)) rfl (fun _ _ => trivial)) ?_
      rintro _ _ ⟨_, ⟨x_60, m_61, e_58, k_59, rfl, rfl⟩, rfl⟩
      refine jE <| jB <| jD <| jF <| jA (jG (v := iv 0) rfl) <| jE <| jB <| jM <| jV (.inl rfl) rfl (jN (v := iv 0) rfl) (List.Sublist.refl _) ?_
      exact ⟨x_60, m_61, 0, (by simp only [MS.renameName, e_1, h_4, e_5, h_8, e_9, h_15, e_16, h_22, h_23, e_40, e_46, e_50, e_54, e_58, SB]; (repeat (first | rw [if_pos (by omega)] | rw [if_neg (by omega)])); all_goals (first | rfl | simp only [SB, e_1, h_4, e_5, h_8, e_9, h_15, e_16, h_22, h_23, e_40, e_46, e_50, e_54, e_58])), (k_59.mono (by omega) (by omega)), (by first | omega | (simp only [LE]; omega)), rfl, rfl⟩
    refine jR (cB (cN h_8)) <| jD <| jF <| jA (jG (v := iv 4) rfl) <| jE <| jB <| jM <| jX <| jV (.inl rfl) rfl (jN (v := iv 4) rfl) (List.Sublist.refl _) ?_
    exact ⟨x, m, 4, (by simp only [MS.renameName, e_1, h_4, e_5, h_8, SB]; (repeat (first | rw [if_pos (by omega)] | rw [if_neg (by omega)])); all_goals (first | rfl | simp only [SB, e_1, h_4, e_5, h_8])), (hk.mono (by omega) (by omega)), (by first | omega | (simp only [LE]; omega)), rfl, rfl⟩
  refine jY (b := true) rfl rfl rfl (cB (cN h_4)) <| jY (b := true) rfl rfl rfl (cB (cN h_4)) <| jY (b := true) rfl rfl rfl (cB (cN h_4)) <| jA (jx (v := .bool true) (cB (cN h_4)) rfl) <| jE <| jB <| jR (cB rfl) <| jD <| jF <| jA (jG (v := iv 4) rfl) ?_
  refine jE <| jB <| jM <| jX <| jV (.inl rfl) rfl (jN (v := iv 4) rfl) (List.Sublist.refl _) ?_
  exact ⟨x, m, 4, (by simp only [MS.renameName, e_1, h_4, SB]; (repeat (first | rw [if_pos (by omega)] | rw [if_neg (by omega)])); all_goals (first | rfl | simp only [SB, e_1, h_4])), (hk.mono (by omega) (by omega)), (by first | omega | (simp only [LE]; omega)), rfl, rfl⟩

theorem M_renameName (x : MA) (m : MS) {S T : Nat} (hk : m.ok S T) (hS : S ≤ 30000000) (hT : T ≤ 30000000) (from_ : Str) (to_ : Str) (hfrom_ : from_.length ≤ 100000000) (hto_ : to_.length ≤ 100000000) :
    Ct Tryz.prog 35 [mv x m, str from_, str to_] (mr x m) (fun _ => True) (fun v A' => ∃ x' m' r0, MS.renameName m from_ to_ = (m', r0) ∧ m'.ok (S + 2) (T + S + 8) ∧ (0 ≤ r0 ∧ r0 ≤ 9) ∧ v = .tuple #[mv x' m', .int .i64 r0] ∧ A' = mr x' m') := by
  refine Ct.intro Tryz.func35 rfl Tryz.ntmps35 (lb rfl) fun w0 hpre => ?_
  refine jD <| jF ?_
  refine jH rfl (jv (cs := (mc x m)) rfl rfl) ?_
  rintro _ _ ⟨b_1, rfl, rfl⟩
  refine jH rfl (jh (z := zM) (cs := zC) kd rfl) ?_
  rintro _ _ ⟨b_2, rfl, rfl⟩
  refine jA (jG (v := iv 0) rfl) <| jE <| jB <| jD <| jD <| jF <| jA (jC (v := str from_) rfl) ?_
  refine jH rfl (jI [] Tryz.call87 rfl (N_sNameOk from_ (by omega)) rfl (fun _ _ => trivial)) ?_
  rintro _ _ ⟨_, ⟨b_5, e_3, rfl, rfl⟩, rfl⟩
  refine jA (kA rfl) <| jA (jC (v := .bool (!b_5)) rfl) ?_
  rcases Bool.eq_false_or_eq_true (b_5) with h_6 | h_6
  · refine jb rfl rfl rfl (cB (cN h_6)) (ja (jd (jC (v := str to_) rfl))) ?_
    rintro _ _ ⟨rfl, rfl⟩
    refine jb rfl rfl rfl (cB (cN h_6)) (jI [] Tryz.call87 rfl (N_sNameOk to_ (by omega)) rfl (fun _ _ => trivial)) ?_
    rintro _ _ ⟨_, ⟨b_9, e_7, rfl, rfl⟩, rfl⟩
    refine jb rfl rfl rfl (cB (cN h_6)) (ja (jd (kA rfl))) ?_
    rintro _ _ ⟨rfl, rfl⟩
    refine jA (jw (v := .bool (!b_9)) (cB (cN h_6)) rfl) <| jE <| jB ?_
    rcases Bool.eq_false_or_eq_true (b_9) with h_10 | h_10
    · refine jQ (cB (cN h_10)) <| jU <| jB <| jD <| jF <| jT (jP 1 x m rfl rfl) <| jA (jC (v := str from_) rfl) ?_
      refine jH rfl (jI [2, 2, 2] Tryz.call88 rfl (M_fileOf x m hk (by omega) (by omega) from_ (by omega)) rfl (fun _ _ => trivial)) ?_
      rintro _ _ ⟨_, ⟨x_13, m_14, n_15, e_11, k_12, f_16, rfl, rfl⟩, rfl⟩
      refine jA (jC (v := .tuple #[mv x_13 m_14, iv n_15]) rfl) <| jA (jS (v := mv x_13 m_14) rfl rfl) <| jA (jS (v := iv n_15) rfl rfl) ?_
      refine jH rfl (jW 4 x_13 m_14 rfl rfl rfl rfl) ?_
      rintro _ _ rfl
      refine jA (jG (v := iv n_15) rfl) <| jE <| jB <| jD <| jD <| jF <| jA (jC (v := iv n_15) rfl) <| jA (ju rfl rfl) <| jE <| jB ?_
      by_cases h_17 : n_15 = 0
      · refine jR (cB (dT h_17)) <| jD <| jF <| jT (jP 4 x_13 m_14 rfl rfl) ?_
        refine jH rfl (jW 3 x_13 m_14 rfl rfl rfl rfl) ?_
        rintro _ _ rfl
        refine jA (jG (v := iv 2) rfl) <| jE <| jB <| jM <| jX <| jj (.inl rfl) rfl (je (jP 3 x_13 m_14 rfl rfl) ⟨_, rfl⟩) (jN (v := iv 2) rfl) (tS 3 _) ?_
        exact ⟨x_13, m_14, 2, (by simp only [MS.renameName, e_3, h_6, e_7, h_10, e_11, h_17, SB]; (repeat (first | rw [if_pos (by omega)] | rw [if_neg (by omega)])); all_goals (first | rfl | simp only [SB, e_3, h_6, e_7, h_10, e_11, h_17])), (k_12.mono (by omega) (by omega)), (by first | omega | (simp only [LE]; omega)), rfl, rfl⟩
      refine jQ (cB (dF h_17)) <| jU <| jB <| jD <| jF <| jT (jP 4 x_13 m_14 rfl rfl) <| jA (jC (v := str to_) rfl) ?_
      refine jH rfl (jI [0, 0, 0] Tryz.call88 rfl (M_fileOf x_13 m_14 k_12 (by omega) (by omega) to_ (by omega)) rfl (fun _ _ => trivial)) ?_
      rintro _ _ ⟨_, ⟨x_20, m_21, n_22, e_18, k_19, f_23, rfl, rfl⟩, rfl⟩
      refine jA (jC (v := .tuple #[mv x_20 m_21, iv n_22]) rfl) <| jA (jS (v := mv x_20 m_21) rfl rfl) <| jA (jS (v := iv n_22) rfl rfl) ?_
      refine jH rfl (jW 4 x_20 m_21 rfl rfl rfl rfl) ?_
      rintro _ _ rfl
      refine jA (jG (v := iv n_22) rfl) <| jE <| jB <| jD <| jD <| jF <| jA (jC (v := iv n_22) rfl) <| jA (jC (v := iv n_15) rfl) <| jA (ju rfl rfl) <| jE ?_
      refine jB ?_
      by_cases h_24 : n_22 = n_15
      · refine jR (cB (dT h_24)) <| jD <| jF <| jT (jP 4 x_20 m_21 rfl rfl) ?_
        refine jH rfl (jW 3 x_20 m_21 rfl rfl rfl rfl) ?_
        rintro _ _ rfl
        refine jA (jG (v := iv 0) rfl) <| jE <| jB <| jM <| jX <| jj (.inl rfl) rfl (je (jP 3 x_20 m_21 rfl rfl) ⟨_, rfl⟩) (jN (v := iv 0) rfl) (tS 3 _) ?_
        exact ⟨x_20, m_21, 0, (by simp only [MS.renameName, e_3, h_6, e_7, h_10, e_11, h_17, e_18, h_24, SB]; (repeat (first | rw [if_pos (by omega)] | rw [if_neg (by omega)])); all_goals (first | rfl | simp only [SB, e_3, h_6, e_7, h_10, e_11, h_17, e_18, h_24])), (k_19.mono (by omega) (by omega)), (by first | omega | (simp only [LE]; omega)), rfl, rfl⟩
      refine jQ (cB (dF h_24)) <| jU <| jB <| jD <| jD <| jF <| jA (jC (v := iv n_22) rfl) <| jA (kQ rfl rfl) <| jE <| jB ?_
      by_cases h_25 : n_22 = 0
      · refine jQ (cB (cN (dT h_25))) <| jU <| jB <| jD <| jF <| jT (jP 4 x_20 m_21 rfl rfl) <| jA (jC (v := str to_) rfl) <| jA (kO rfl rfl (by (try simp only [List.length_append, List.length_cons, List.length_nil, List.length_drop, List.length_take]); omega)) <| jA (jC (v := iv n_15) rfl) ?_
        refine jH rfl (jI [0, 0, 0] Tryz.call90 rfl (N_sSetNum x_20 m_21 k_19 (by omega) (by omega) ([110, 47] ++ to_) n_15 (by first | omega | (simp only [LE]; omega)) (by omega)) rfl (fun _ _ => trivial)) ?_
        rintro _ _ ⟨_, ⟨x_28, m_29, e_26, k_27, rfl, rfl⟩, rfl⟩
        refine jH rfl (jW 4 x_28 m_29 rfl rfl rfl rfl) ?_
        rintro _ _ rfl
        refine jE <| jB <| jD <| jF <| jT (jP 4 x_28 m_29 rfl rfl) <| jA (jC (v := str from_) rfl) <| jA (kO rfl rfl (by (try simp only [List.length_append, List.length_cons, List.length_nil, List.length_drop, List.length_take]); omega)) ?_
        refine jH rfl (jI [0, 0, 0] Tryz.call92 rfl (N_sLayNil x_28 m_29 k_27 (by omega) (by omega) ([110, 47] ++ from_) (by first | omega | (simp only [LE]; omega))) rfl (fun _ _ => trivial)) ?_
        rintro _ _ ⟨_, ⟨x_32, m_33, e_30, k_31, rfl, rfl⟩, rfl⟩
        refine jH rfl (jW 3 x_32 m_33 rfl rfl rfl rfl) ?_
        rintro _ _ rfl
        refine jA (jG (v := iv 0) rfl) <| jE <| jB <| jM <| jj (.inl rfl) rfl (je (jP 3 x_32 m_33 rfl rfl) ⟨_, rfl⟩) (jN (v := iv 0) rfl) (tS 3 _) ?_
        exact ⟨x_32, m_33, 0, (by simp only [MS.renameName, e_3, h_6, e_7, h_10, e_11, h_17, e_18, h_24, h_25, e_26, e_30, SB]; (repeat (first | rw [if_pos (by omega)] | rw [if_neg (by omega)])); all_goals (first | rfl | simp only [SB, e_3, h_6, e_7, h_10, e_11, h_17, e_18, h_24, h_25, e_26, e_30])), (k_31.mono (by omega) (by omega)), (by first | omega | (simp only [LE]; omega)), rfl, rfl⟩
      refine jR (cB (cN (dF h_25))) <| jF <| jT (jP 4 x_20 m_21 rfl rfl) <| jA (jC (v := str to_) rfl) ?_
      refine jH rfl (jI [0, 0, 0] Tryz.call34 rfl (M_unlinkName x_20 m_21 k_19 (by omega) (by omega) to_ (by omega)) rfl (fun _ _ => trivial)) ?_
      rintro _ _ ⟨_, ⟨x_36, m_37, n_38, e_34, k_35, f_39, rfl, rfl⟩, rfl⟩
      refine jA (jC (v := .tuple #[mv x_36 m_37, iv n_38]) rfl) <| jA (jS (v := mv x_36 m_37) rfl rfl) <| jA (jS (v := iv n_38) rfl rfl) ?_
      refine jH rfl (jW 4 x_36 m_37 rfl rfl rfl rfl) ?_
      rintro _ _ rfl
      refine jE <| jB <| jD <| jF <| jT (jP 4 x_36 m_37 rfl rfl) <| jA (jC (v := str to_) rfl) <| jA (kO rfl rfl (by (try simp only [List.length_append, List.length_cons, List.length_nil, List.length_drop, List.length_take]); omega)) <| jA (jC (v := iv n_15) rfl) ?_
      refine jH rfl (jI [0, 0, 0] Tryz.call90 rfl (N_sSetNum x_36 m_37 k_35 (by omega) (by omega) ([110, 47] ++ to_) n_15 (by first | omega | (simp only [LE]; omega)) (by omega)) rfl (fun _ _ => trivial)) ?_
      rintro _ _ ⟨_, ⟨x_42, m_43, e_40, k_41, rfl, rfl⟩, rfl⟩
      refine jH rfl (jW 4 x_42 m_43 rfl rfl rfl rfl) ?_
      rintro _ _ rfl
      refine jE <| jB <| jD <| jF <| jT (jP 4 x_42 m_43 rfl rfl) <| jA (jC (v := str from_) rfl) <| jA (kO rfl rfl (by (try simp only [List.length_append, List.length_cons, List.length_nil, List.length_drop, List.length_take]); omega)) ?_
      refine jH rfl (jI [0, 0, 0] Tryz.call92 rfl (N_sLayNil x_42 m_43 k_41 (by omega) (by omega) ([110, 47] ++ from_) (by first | omega | (simp only [LE]; omega))) rfl (fun _ _ => trivial)) ?_
      rintro _ _ ⟨_, ⟨x_46, m_47, e_44, k_45, rfl, rfl⟩, rfl⟩
      refine jH rfl (jW 3 x_46 m_47 rfl rfl rfl rfl) ?_
      rintro _ _ rfl
      refine jA (jG (v := iv 0) rfl) <| jE <| jB <| jM <| jj (.inl rfl) rfl (je (jP 3 x_46 m_47 rfl rfl) ⟨_, rfl⟩) (jN (v := iv 0) rfl) (tS 3 _) ?_
      exact ⟨x_46, m_47, 0, (by simp only [MS.renameName, e_3, h_6, e_7, h_10, e_11, h_17, e_18, h_24, h_25, e_34, e_40, e_44, SB]; (repeat (first | rw [if_pos (by omega)] | rw [if_neg (by omega)])); all_goals (first | rfl | simp only [SB, e_3, h_6, e_7, h_10, e_11, h_17, e_18, h_24, h_25, e_34, e_40, e_44])), (k_45.mono (by omega) (by omega)), (by first | omega | (simp only [LE]; omega)), rfl, rfl⟩
    refine jR (cB (cN h_10)) <| jD <| jF <| jT (jP 1 x m rfl rfl) ?_
    refine jH rfl (jW 0 x m rfl rfl rfl rfl) ?_
    rintro _ _ rfl
    refine jA (jG (v := iv 4) rfl) <| jE <| jB <| jM <| jX <| kL (pick_perm [2, 2, 2] (A := [rC x.a0 x.c0 m.s, rS x.a1 x.c1 m.r, rS x.a2 x.c2 m.w]) (F := [mb b_2 x m, mb b_1 x m]) rfl).symm <| jj (.inl rfl) rfl (je (jP 3 x m rfl rfl) ⟨_, rfl⟩) (jN (v := iv 4) rfl) (tS 3 _) ?_
    exact ⟨x, m, 4, (by simp only [MS.renameName, e_3, h_6, e_7, h_10, SB]; (repeat (first | rw [if_pos (by omega)] | rw [if_neg (by omega)])); all_goals (first | rfl | simp only [SB, e_3, h_6, e_7, h_10])), (hk.mono (by omega) (by omega)), (by first | omega | (simp only [LE]; omega)), rfl, rfl⟩
  refine jY (b := true) rfl rfl rfl (cB (cN h_6)) <| jY (b := true) rfl rfl rfl (cB (cN h_6)) <| jY (b := true) rfl rfl rfl (cB (cN h_6)) <| jA (jx (v := .bool true) (cB (cN h_6)) rfl) <| jE <| jB <| jR (cB rfl) <| jD <| jF <| jT (jP 1 x m rfl rfl) ?_
  refine jH rfl (jW 0 x m rfl rfl rfl rfl) ?_
  rintro _ _ rfl
  refine jA (jG (v := iv 4) rfl) <| jE <| jB <| jM <| jX <| kL (pick_perm [2, 2, 2] (A := [rC x.a0 x.c0 m.s, rS x.a1 x.c1 m.r, rS x.a2 x.c2 m.w]) (F := [mb b_2 x m, mb b_1 x m]) rfl).symm <| jj (.inl rfl) rfl (je (jP 3 x m rfl rfl) ⟨_, rfl⟩) (jN (v := iv 4) rfl) (tS 3 _) ?_
  exact ⟨x, m, 4, (by simp only [MS.renameName, e_3, h_6, SB]; (repeat (first | rw [if_pos (by omega)] | rw [if_neg (by omega)])); all_goals (first | rfl | simp only [SB, e_3, h_6])), (hk.mono (by omega) (by omega)), (by first | omega | (simp only [LE]; omega)), rfl, rfl⟩

theorem N_names (p : Nat) (x : MA) (m : MS) {S T : Nat} (hk : m.ok S T) (hS : S ≤ 40000000) (hT : T ≤ 40000000)  :
    Ct Tryz.prog 60 [.pointer (some ⟨p, 0, none⟩)] (mb p x m :: mr x m) (fun _ => True) (fun v A' => ∃ x' m' r0a r0c r0, MS.names m = (m', r0) ∧ m'.ok (S) (T + 1) ∧ r0.length ≤ S ∧ v = .slice r0a r0.length r0c ∧ A' = mb p x' m' :: mr x' m' ++ [rS r0a r0c r0]) := by
  refine Ct.intro Tryz.func60 rfl Tryz.ntmps60 (lb rfl) fun w0 hpre => ?_
  refine jD <| jF <| jA (jG (v := .slice none 0 0) rfl) <| jE <| jB <| jD <| jF <| jA (jG (v := .slice none 0 0) rfl) <| jE <| jB ?_
  refine jD <| jD <| jF <| jA (jC (v := pv p) rfl) ?_
  refine jH rfl (jI [0, 0, 0, 0] Tryz.call130 rfl (N_under p x m hk (by omega) (by omega) [110, 47] (by decide)) rfl (fun _ _ => trivial)) ?_
  rintro _ _ ⟨_, ⟨x_3, m_4, l_5a, l_5c, l_5, e_1, k_2, f_6, rfl, rfl⟩, rfl⟩
  refine jA (kK kW rfl) <| jA (jC (v := iv 0) rfl) <| jE <| jB <| jm ?_
  have hll := f_6.1
  refine JC.nilRow 9 1 <| kE (fun k_ e_ L_ => ∃ j : Nat, ∃ out_a : Option Addr, ∃ out_c : Nat, ∃ out_ : List Str, (j ≤ l_5.length) ∧ (out_.length ≤ j) ∧ (dropAcc 2 (l_5.drop j) out_ = dropAcc 2 l_5 ([] : List Str)) ∧ e_ 2 = .slice none 0 0 ∧ e_ 3 = .slice out_a out_.length out_c ∧ e_ 7 = .slice l_5a l_5.length l_5c ∧ e_ 8 = nv l_5.length ∧ e_ 9 = nv j ∧ L_ = [rS out_a out_c out_, mb p x_3 m_4, rC x_3.a0 x_3.c0 m_4.s, rS x_3.a1 x_3.c1 m_4.r, rS x_3.a2 x_3.c2 m_4.w, rS l_5a l_5c l_5] ∧ k_ = l_5.length - j) _ ⟨0, none, 0, ([] : List Str), by omega, (by first | omega | (simp only [LE]; omega)), rfl, rfl, rfl, rfl, rfl, rfl, rfl, rfl⟩ ?_
  rintro _ e_7 _ ⟨j, out_a, out_c, out_, hj, ho, hR, he_8, he_9, he_10, he_11, he_12, rfl, rfl⟩
  refine jD <| jF <| jA (js he_12 he_11) <| jE <| jB <| jD ?_
  by_cases h_13 : ((j : Nat) : Int) < ((l_5.length : Nat) : Int)
  · have hlt : j < l_5.length := by omega
    have hbj := f_6.2 j hlt
    try simp only [List.length_cons, List.length_nil] at hbj
    refine jR (cB (dT h_13)) <| jU <| jB <| jD <| jm <| jD <| jF ?_
    refine JL.facts fun hst => ?_
    obtain ⟨hr_14, hr_14b, -⟩ := row_some 5 rfl (by omega) hst
    refine jA (kH (i := j) kW ka hr_14 hr_14b he_10 he_12 (by omega)) <| jT (LO.loadR1 5 (v := str (l_5.getD j [])) rfl rfl kZ (atS (by omega))) <| jA (jG (v := str (l_5.getD j [])) rfl) <| jE <| jB <| jF <| jA (jC (v := .slice out_a out_.length out_c) he_9) <| jA (jC (v := str (l_5.getD j [])) rfl) <| jA (PO.sliceSl (i := 2) kY rfl rfl (by omega)) ?_
    refine jH rfl (kI (ps := [(0, str ((l_5.getD j []).drop 2))]) (cur := #[str ((l_5.getD j []).drop 2)]) kW ka km rfl (by kernel_rfl) (by decide) (by decide)) ?_
    rintro _ _ ⟨a_15, rfl, rfl⟩
    refine jH rfl (kF 1 (q := 1) (news := ([(l_5.getD j []).drop 2] : List Str).map str) (n' := (out_ ++ ([(l_5.getD j []).drop 2] : List Str)).length) (cs' := (out_ ++ ([(l_5.getD j []).drop 2] : List Str)).map str) rfl kW kW kj rfl (by' := 16) rfl rfl rfl rfl rfl (fun w hw => Src.sees (hw.see (i := 0) rfl) (oneS _)) (by (try simp only [LE]); omega) (by (try simp only [LE]); omega) (by simp only [List.length_append, List.length_take, List.length_drop, List.length_cons, List.length_nil] <;> first | rfl | omega) (by simp only [List.map_append])) ?_
    rintro _ _ ⟨a_16, c_17, rfl, rfl⟩
    refine jA (jG (v := .slice a_16 ((out_ ++ ([(l_5.getD j []).drop 2] : List Str)).length) c_17) rfl) <| jE <| jk <| jB <| jF <| jA (jg (c := ((j + 1 : Nat) : Int)) he_12 rfl (wr (by omega))) <| jA (jC (v := iv ((j + 1 : Nat) : Int)) rfl) <| jE <| jr [1, 1, 1, 1, 1, 1] (A := [rS a_16 c_17 (out_ ++ ([(l_5.getD j []).drop 2] : List Str)), mb p x_3 m_4, rC x_3.a0 x_3.c0 m_4.s, rS x_3.a1 x_3.c1 m_4.r, rS x_3.a2 x_3.c2 m_4.w, rS l_5a l_5c l_5]) rfl ?_
    refine jt (l_5.length - (j + 1)) (by omega) ⟨j + 1, a_16, c_17, (out_ ++ ([(l_5.getD j []).drop 2] : List Str)), by omega, (by first | omega | (simp only [LE]; omega)), (by rw [drop_at (getD_some (d := []) hlt)] at hR; simp only [dropAcc, e_1, h_13, SB] at hR; (repeat (first | rw [if_pos (by omega)] at hR | rw [if_neg (by omega)] at hR)); exact hR), he_8, rfl, he_10, he_11, rfl, rfl, rfl⟩
  rw [List.drop_of_length_le (by omega)] at hR
  simp only [dropAcc] at hR
  have hE := hR.symm
  refine jQ (cB (dF h_13)) <| kB <| jn <| jn <| kC <| jB <| jD <| jF <| jA (jC (v := .slice out_a out_.length out_c) he_9) <| jA (jG (v := .slice out_a out_.length out_c) rfl) ?_
  refine jE <| jB <| jM <| kL (pick_perm [1, 1, 1, 1, 0] (A := [mb p x_3 m_4, rC x_3.a0 x_3.c0 m_4.s, rS x_3.a1 x_3.c1 m_4.r, rS x_3.a2 x_3.c2 m_4.w, rS out_a out_c out_]) (F := [rS l_5a l_5c l_5]) rfl).symm <| jV (.inl rfl) rfl (jN (v := .slice out_a out_.length out_c) rfl) (tS 5 _) ?_
  exact ⟨x_3, m_4, out_a, out_c, out_, (by simp only [MS.names, e_1, h_13, hE, SB]; (repeat (first | rw [if_pos (by omega)] | rw [if_neg (by omega)])); all_goals (first | rfl | simp only [SB, e_1, h_13, hE])), (k_2.mono (by omega) (by omega)), (by first | omega | (simp only [LE]; omega)), rfl, rfl⟩

theorem M_names (x : MA) (m : MS) {S T : Nat} (hk : m.ok S T) (hS : S ≤ 40000000) (hT : T ≤ 40000000)  :
    Ct Tryz.prog 94 [mv x m] (mr x m) (fun _ => True) (fun v A' => ∃ x' m' r0a r0c r0, MS.names m = (m', r0) ∧ m'.ok (S) (T + 1) ∧ r0.length ≤ S ∧ v = .tuple #[mv x' m', .slice r0a r0.length r0c] ∧ A' = mr x' m' ++ [rS r0a r0c r0]) := by
  refine Ct.intro Tryz.func94 rfl Tryz.ntmps94 (lb rfl) fun w0 hpre => ?_
  refine jD <| jF ?_
  refine jH rfl (jv (cs := (mc x m)) rfl rfl) ?_
  rintro _ _ ⟨b_1, rfl, rfl⟩
  refine jH rfl (jh (z := zM) (cs := zC) kd rfl) ?_
  rintro _ _ ⟨b_2, rfl, rfl⟩
  refine jA (jG (v := .slice none 0 0) rfl) <| jE <| jB <| jD <| jF <| jT (jP 1 x m rfl rfl) ?_
  refine jH rfl (jI [2, 2, 2] Tryz.call106 rfl (N_sUnder x m hk (by omega) (by omega) [110, 47] (by decide)) rfl (fun _ _ => trivial)) ?_
  rintro _ _ ⟨_, ⟨x_5, m_6, l_7a, l_7c, l_7, e_3, k_4, f_8, rfl, rfl⟩, rfl⟩
  refine jA (jC (v := .tuple #[mv x_5 m_6, .slice l_7a l_7.length l_7c]) rfl) <| jA (jS (v := mv x_5 m_6) rfl rfl) <| jA (jS (v := .slice l_7a l_7.length l_7c) rfl rfl) ?_
  refine jH rfl (jW 5 x_5 m_6 rfl rfl rfl rfl) ?_
  rintro _ _ rfl
  refine jA (jG (v := .slice l_7a l_7.length l_7c) rfl) <| jE <| jB <| jD <| jF ?_
  refine jH rfl (kI (ps := []) (cur := #[]) kW ka km rfl (by kernel_rfl) (by decide) (by decide)) ?_
  rintro _ _ ⟨a_9, rfl, rfl⟩
  refine jA (jG (v := .slice a_9 0 0) rfl) <| jE <| jB <| jD <| jD <| jF <| jA (jG (v := iv 0) rfl) <| jE <| jB <| jm ?_
  have hll := f_8.1
  refine kE (fun k_ e_ L_ => ∃ j : Nat, ∃ out_a : Option Addr, ∃ out_c : Nat, ∃ out_ : List Str, (j ≤ l_7.length) ∧ (out_.length ≤ j) ∧ (dropAcc 2 (l_7.drop j) out_ = dropAcc 2 l_7 ([] : List Str)) ∧ e_ 1 = .pointer (some ⟨b_1, 0, none⟩) ∧ e_ 2 = .pointer (some ⟨b_2, 0, none⟩) ∧ e_ 3 = .slice none 0 0 ∧ e_ 4 = .slice l_7a l_7.length l_7c ∧ e_ 5 = .slice out_a out_.length out_c ∧ e_ 6 = nv j ∧ L_ = [rS out_a out_c out_, rC x_5.a0 x_5.c0 m_6.s, rS x_5.a1 x_5.c1 m_6.r, rS x_5.a2 x_5.c2 m_6.w, rS l_7a l_7c l_7, bk b_2 35 zC, mb b_1 x_5 m_6] ∧ k_ = l_7.length - j) _ ⟨0, a_9, 0, ([] : List Str), by omega, (by first | omega | (simp only [LE]; omega)), rfl, rfl, rfl, rfl, rfl, rfl, rfl, rfl, rfl⟩ ?_
  rintro _ e_10 _ ⟨j, out_a, out_c, out_, hj, ho, hR, he_11, he_12, he_13, he_14, he_15, he_16, rfl, rfl⟩
  refine jD <| jD <| jF <| jA (jC (v := nv j) he_16) <| jA (jC (v := .slice l_7a l_7.length l_7c) he_14) <| jA (kK kW rfl) <| jA (js rfl rfl) <| jE <| jB ?_
  by_cases h_17 : ((j : Nat) : Int) < ((l_7.length : Nat) : Int)
  · have hlt : j < l_7.length := by omega
    have hbj := f_8.2 j hlt
    try simp only [List.length_cons, List.length_nil] at hbj
    refine jR (cB (dT h_17)) <| jU <| jB <| jD <| jm <| jF <| jA (jC (v := .slice out_a out_.length out_c) he_15) <| jA (jC (v := .slice l_7a l_7.length l_7c) he_14) <| jA (jC (v := nv j) he_16) ?_
    refine JL.facts fun hst => ?_
    obtain ⟨hr_18, hr_18b, -⟩ := row_some 4 rfl (by omega) hst
    refine jA (kH (i := j) kW ka hr_18 hr_18b rfl rfl (by omega)) <| jT (LO.loadR1 4 (v := str (l_7.getD j [])) rfl rfl kZ (atS (by omega))) <| jA (PO.sliceSl (i := 2) kY rfl rfl (by omega)) ?_
    refine jH rfl (kI (ps := [(0, str ((l_7.getD j []).drop 2))]) (cur := #[str ((l_7.getD j []).drop 2)]) kW ka km rfl (by kernel_rfl) (by decide) (by decide)) ?_
    rintro _ _ ⟨a_19, rfl, rfl⟩
    refine jH rfl (kF 1 (q := 1) (news := ([(l_7.getD j []).drop 2] : List Str).map str) (n' := (out_ ++ ([(l_7.getD j []).drop 2] : List Str)).length) (cs' := (out_ ++ ([(l_7.getD j []).drop 2] : List Str)).map str) rfl kW kW kj rfl (by' := 16) rfl rfl rfl rfl rfl (fun w hw => Src.sees (hw.see (i := 0) rfl) (oneS _)) (by (try simp only [LE]); omega) (by (try simp only [LE]); omega) (by simp only [List.length_append, List.length_take, List.length_drop, List.length_cons, List.length_nil] <;> first | rfl | omega) (by simp only [List.map_append])) ?_
    rintro _ _ ⟨a_20, c_21, rfl, rfl⟩
    refine jA (jG (v := .slice a_20 ((out_ ++ ([(l_7.getD j []).drop 2] : List Str)).length) c_21) rfl) <| jE <| jk <| jB <| jF <| jA (jC (v := nv j) he_16) <| jA (jg (c := ((j + 1 : Nat) : Int)) rfl rfl (wr (by omega))) <| jA (jG (v := iv ((j + 1 : Nat) : Int)) rfl) <| jE <| jr [1, 1, 1, 1, 1, 1, 1] (A := [rS a_20 c_21 (out_ ++ ([(l_7.getD j []).drop 2] : List Str)), rC x_5.a0 x_5.c0 m_6.s, rS x_5.a1 x_5.c1 m_6.r, rS x_5.a2 x_5.c2 m_6.w, rS l_7a l_7c l_7, bk b_2 35 zC, mb b_1 x_5 m_6]) rfl ?_
    refine jt (l_7.length - (j + 1)) (by omega) ⟨j + 1, a_20, c_21, (out_ ++ ([(l_7.getD j []).drop 2] : List Str)), by omega, (by first | omega | (simp only [LE]; omega)), (by rw [drop_at (getD_some (d := []) hlt)] at hR; simp only [dropAcc, e_3, h_17, SB] at hR; (repeat (first | rw [if_pos (by omega)] at hR | rw [if_neg (by omega)] at hR)); exact hR), he_11, he_12, he_13, he_14, rfl, rfl, rfl, rfl⟩
  rw [List.drop_of_length_le (by omega)] at hR
  simp only [dropAcc] at hR
  have hE := hR.symm
  refine jQ (cB (dF h_17)) <| kB <| jn <| jn <| kC <| jB <| jD <| jF <| jT (jP 6 x_5 m_6 rfl he_11) <| jA (jC (v := .slice out_a out_.length out_c) he_15) ?_
  refine jH rfl (jW 5 x_5 m_6 rfl he_12 rfl rfl) ?_
  rintro _ _ rfl
  refine jA (jG (v := .slice out_a out_.length out_c) rfl) <| jE <| jB <| jM <| kL (pick_perm [1, 1, 1, 0] (A := [rC x_5.a0 x_5.c0 m_6.s, rS x_5.a1 x_5.c1 m_6.r, rS x_5.a2 x_5.c2 m_6.w, rS out_a out_c out_]) (F := [rS l_7a l_7c l_7, mb b_2 x_5 m_6, mb b_1 x_5 m_6]) rfl).symm <| jj (.inl rfl) rfl (je (jP 5 x_5 m_6 rfl he_12) ⟨_, he_12⟩) (jN (v := .slice out_a out_.length out_c) rfl) (tS 4 _) ?_
  exact ⟨x_5, m_6, out_a, out_c, out_, (by simp only [MS.names, e_3, h_17, hE, SB]; (repeat (first | rw [if_pos (by omega)] | rw [if_neg (by omega)])); all_goals (first | rfl | simp only [SB, e_3, h_17, hE])), (k_4.mono (by omega) (by omega)), (by first | omega | (simp only [LE]; omega)), rfl, rfl⟩

theorem N_tick (p : Nat) (x : MA) (m : MS) {S T : Nat} (hk : m.ok S T) (hS : S ≤ 4000000) (hT : T ≤ 4000000) (n : Int) (hn : -9223372036854775808 ≤ n ∧ n ≤ 9223372036854775807) :
    Ct Tryz.prog 75 [.pointer (some ⟨p, 0, none⟩), .int .i64 n] (mb p x m :: mr x m) (fun _ => True) (fun v A' => ∃ x' m' r0 r1, MS.tick m n = (m', r0, r1) ∧ m'.ok (3 * S + 3) (T + 7 * S + 10) ∧ (0 ≤ r0 ∧ r0 ≤ 1000000000) ∧ (0 ≤ r1 ∧ r1 ≤ 9) ∧ v = .tuple #[.int .i64 r0, .int .i64 r1] ∧ A' = mb p x' m' :: mr x' m') := by
  refine Ct.intro Tryz.func75 rfl Tryz.ntmps75 (lb rfl) fun w0 hpre => ?_
  refine jD <| jF <| jA (jG (v := iv 0) rfl) <| jA (jG (v := iv 0) rfl) <| jE <| jB <| jD <| jD <| jF <| jA (jC (v := iv n) rfl) ?_
  refine jA (js rfl rfl) <| jE <| jB ?_
  by_cases h_1 : n < 1
  · refine jR (cB (dT h_1)) <| jD <| jF <| jA (jG (v := iv 0) rfl) <| jA (jG (v := iv 4) rfl) <| jE <| jB <| jM <| jX <| jj (.inl rfl) rfl (jN (v := iv 0) rfl) (jN (v := iv 4) rfl) (List.Sublist.refl _) ?_
    exact ⟨x, m, 0, 4, (by simp only [MS.tick, h_1, SB]; (repeat (first | rw [if_pos (by omega)] | rw [if_neg (by omega)])); all_goals (first | rfl | simp only [SB, h_1])), (hk.mono (by omega) (by omega)), (by first | omega | (simp only [LE]; omega)), (by first | omega | (simp only [LE]; omega)), rfl, rfl⟩
  refine jQ (cB (dF h_1)) <| jU <| jB <| jD <| jF <| jA (jC (v := pv p) rfl) ?_
  refine jH rfl (jI [0, 0, 0, 0] Tryz.call118 rfl (N_num p x m hk (by omega) (by omega) [99, 47, 99, 108, 111, 99, 107]) rfl (fun _ _ => trivial)) ?_
  rintro _ _ ⟨_, ⟨x_4, m_5, n_6, e_2, k_3, f_7, rfl, rfl⟩, rfl⟩
  refine jA (jG (v := iv n_6) rfl) <| jE <| jB <| jD <| jD <| jF <| jA (jC (v := iv n) rfl) <| jA (jC (v := iv n_6) rfl) <| jA (kR (c := 999 - n_6) rfl rfl (wr (by omega))) <| jA (kS rfl rfl) ?_
  refine jE <| jB ?_
  by_cases h_8 : (999 - n_6) < n
  · refine jR (cB (dT h_8)) <| jD <| jF <| jA (jG (v := iv 0) rfl) <| jA (jG (v := iv 3) rfl) <| jE <| jB <| jM <| jX <| jj (.inl rfl) rfl (jN (v := iv 0) rfl) (jN (v := iv 3) rfl) (List.Sublist.refl _) ?_
    exact ⟨x_4, m_5, 0, 3, (by simp only [MS.tick, h_1, e_2, h_8, SB]; (repeat (first | rw [if_pos (by omega)] | rw [if_neg (by omega)])); all_goals (first | rfl | simp only [SB, h_1, e_2, h_8])), (k_3.mono (by omega) (by omega)), (by first | omega | (simp only [LE]; omega)), (by first | omega | (simp only [LE]; omega)), rfl, rfl⟩
  refine jQ (cB (dF h_8)) <| jU <| jB <| jD <| jF <| jA (jC (v := iv n_6) rfl) <| jA (jC (v := iv n) rfl) <| jA (jg (c := n_6 + n) rfl rfl (wr (by omega))) <| jA (jG (v := iv (n_6 + n)) rfl) <| jE ?_
  refine jB <| jD <| jF <| jA (jC (v := pv p) rfl) <| jA (jC (v := iv (n_6 + n)) rfl) ?_
  refine jH rfl (jI [0, 0, 0, 0] Tryz.call124 rfl (N_setNum p x_4 m_5 k_3 (by omega) (by omega) [99, 47, 99, 108, 111, 99, 107] (n_6 + n) (by decide) (by omega)) rfl (fun _ _ => trivial)) ?_
  rintro _ _ ⟨_, ⟨x_11, m_12, e_9, k_10, rfl, rfl⟩, rfl⟩
  refine jE <| jB <| jD <| jF <| jA (jG (v := iv 0) rfl) <| jE <| jB <| jD <| jD <| jF ?_
  refine jA (jC (v := pv p) rfl) ?_
  refine jH rfl (jI [0, 0, 0, 0] Tryz.call130 rfl (N_under p x_11 m_12 k_10 (by omega) (by omega) [116, 47] (by decide)) rfl (fun _ _ => trivial)) ?_
  rintro _ _ ⟨_, ⟨x_15, m_16, l_17a, l_17c, l_17, e_13, k_14, f_18, rfl, rfl⟩, rfl⟩
  refine jA (kK kW rfl) <| jA (jC (v := iv 0) rfl) <| jE <| jB <| jm ?_
  have hll := f_18.1
  refine kE (fun k_ e_ L_ => ∃ j : Nat, ∃ x : MA, ∃ mm : MS, ∃ expired_ : Int, (j ≤ l_17.length) ∧ (mm.ok ((S + 1) + 2 * j) (((T + 1) + 1) + 1 + 7 * j)) ∧ (0 ≤ expired_ ∧ expired_ ≤ ((j : Nat) : Int)) ∧ (MS.tickL (n_6 + n) (l_17.drop j) mm expired_ = MS.tickL (n_6 + n) l_17 m_16 0) ∧ e_ 0 = pv p ∧ e_ 4 = iv 0 ∧ e_ 5 = iv 0 ∧ e_ 6 = iv (n_6 + n) ∧ e_ 7 = iv expired_ ∧ e_ 25 = .slice l_17a l_17.length l_17c ∧ e_ 26 = nv l_17.length ∧ e_ 27 = nv j ∧ L_ = [mb p x mm, rC x.a0 x.c0 mm.s, rS x.a1 x.c1 mm.r, rS x.a2 x.c2 mm.w, rS l_17a l_17c l_17] ∧ k_ = l_17.length - j) _ ⟨0, x_15, m_16, 0, by omega, (k_14.mono (by omega) (by omega)), (by first | omega | (simp only [LE]; omega)), rfl, rfl, rfl, rfl, rfl, rfl, rfl, rfl, rfl, rfl, rfl⟩ ?_
  rintro _ e_19 _ ⟨j, x, mm, expired_, hj, hkmm, hx, hR, he_20, he_21, he_22, he_23, he_24, he_25, he_26, he_27, rfl, rfl⟩
  refine jD <| jF <| jA (js he_27 he_26) <| jE <| jB <| jD ?_
  by_cases h_28 : ((j : Nat) : Int) < ((l_17.length : Nat) : Int)
  · have hlt : j < l_17.length := by omega
    have hbj := f_18.2 j hlt
    try simp only [List.length_cons, List.length_nil] at hbj
    refine jR (cB (dT h_28)) <| jU <| jB <| jD <| jm <| jD <| jF ?_
    refine JL.facts fun hst => ?_
    obtain ⟨hr_29, hr_29b, -⟩ := row_some 4 rfl (by omega) hst
    refine jA (kH (i := j) kW ka hr_29 hr_29b he_25 he_27 (by omega)) <| jT (LO.loadR1 4 (v := str (l_17.getD j [])) rfl rfl kZ (atS (by omega))) <| jA (jG (v := str (l_17.getD j [])) rfl) <| jE <| jB <| jD <| jD <| jF <| jA (jC (v := pv p) he_20) <| jA (jC (v := str (l_17.getD j [])) rfl) ?_
    refine jH rfl (jI [0, 0, 0, 0] Tryz.call118 rfl (N_num p x mm hkmm (by omega) (by omega) (l_17.getD j [])) rfl (fun _ _ => trivial)) ?_
    rintro _ _ ⟨_, ⟨x_32, m_33, n_34, e_30, k_31, f_35, rfl, rfl⟩, rfl⟩
    refine jA (jC (v := iv (n_6 + n)) he_23) <| jA (kS rfl rfl) <| jE <| jB ?_
    by_cases h_36 : (n_6 + n) < n_34
    · refine jR (cB (dT h_36)) <| kB <| jn <| kC <| jB <| jF <| jA (jg (c := ((j + 1 : Nat) : Int)) he_27 rfl (wr (by omega))) <| jA (jC (v := iv ((j + 1 : Nat) : Int)) rfl) <| jE <| jr [0, 0, 0, 0, 0] (A := [mb p x_32 m_33, rC x_32.a0 x_32.c0 m_33.s, rS x_32.a1 x_32.c1 m_33.r, rS x_32.a2 x_32.c2 m_33.w, rS l_17a l_17c l_17]) rfl ?_
      refine jt (l_17.length - (j + 1)) (by omega) ⟨j + 1, x_32, m_33, expired_, by omega, (k_31.mono (by omega) (by omega)), (by first | omega | (simp only [LE]; omega)), (by rw [drop_at (getD_some (d := []) hlt)] at hR; simp only [MS.tickL, h_1, e_2, h_8, e_9, e_13, h_28, e_30, h_36, SB] at hR; (repeat (first | rw [if_pos (by omega)] at hR | rw [if_neg (by omega)] at hR)); exact hR), he_20, he_21, he_22, he_23, he_24, he_25, he_26, rfl, rfl, rfl⟩
    refine jQ (cB (dF h_36)) <| jU <| jB <| jD <| jF <| jA (jC (v := pv p) he_20) <| jA (jC (v := str (l_17.getD j [])) rfl) ?_
    refine jH rfl (jI [0, 0, 0, 0] Tryz.call127 rfl (N_layNil p x_32 m_33 k_31 (by omega) (by omega) (l_17.getD j []) (by omega)) rfl (fun _ _ => trivial)) ?_
    rintro _ _ ⟨_, ⟨x_39, m_40, e_37, k_38, rfl, rfl⟩, rfl⟩
    refine jE <| jB <| jD <| jF <| jA (jC (v := pv p) he_20) <| jA (jC (v := str (l_17.getD j [])) rfl) <| jA (PO.sliceSl (i := 2) kY rfl rfl (by omega)) ?_
    refine jH rfl (jI [] Tryz.call141 rfl (N_numOf ((l_17.getD j []).drop 2) (by first | omega | (simp only [LE]; omega))) rfl (fun _ _ => trivial)) ?_
    rintro _ _ ⟨_, ⟨n_43, e_41, f_44, rfl, rfl⟩, rfl⟩
    refine jH rfl (jI [0, 0, 0, 0] Tryz.call72 rfl (N_send p x_39 m_40 k_38 (by omega) (by omega) n_43 14 (by omega) (by omega)) rfl (fun _ _ => trivial)) ?_
    rintro _ _ ⟨_, ⟨x_47, m_48, n_49, e_45, k_46, f_50, rfl, rfl⟩, rfl⟩
    refine jE <| jB <| jF <| jA (jC (v := iv expired_) he_24) <| jA (jg (c := expired_ + 1) rfl rfl (wr (by omega))) <| jA (jG (v := iv (expired_ + 1)) rfl) <| jE <| jk <| jB <| jF ?_
    refine jA (jg (c := ((j + 1 : Nat) : Int)) he_27 rfl (wr (by omega))) <| jA (jC (v := iv ((j + 1 : Nat) : Int)) rfl) <| jE <| jr [0, 0, 0, 0, 0] (A := [mb p x_47 m_48, rC x_47.a0 x_47.c0 m_48.s, rS x_47.a1 x_47.c1 m_48.r, rS x_47.a2 x_47.c2 m_48.w, rS l_17a l_17c l_17]) rfl ?_
    refine jt (l_17.length - (j + 1)) (by omega) ⟨j + 1, x_47, m_48, (expired_ + 1), by omega, (k_46.mono (by omega) (by omega)), (by first | omega | (simp only [LE]; omega)), (by rw [drop_at (getD_some (d := []) hlt)] at hR; simp only [MS.tickL, h_1, e_2, h_8, e_9, e_13, h_28, e_30, h_36, e_37, e_41, e_45, SB] at hR; (repeat (first | rw [if_pos (by omega)] at hR | rw [if_neg (by omega)] at hR)); exact hR), he_20, he_21, he_22, he_23, rfl, he_25, he_26, rfl, rfl, rfl⟩
  rw [List.drop_of_length_le (by omega)] at hR
  simp only [MS.tickL] at hR
  have hE := hR.symm
  refine jQ (cB (dF h_28)) <| kB <| jn <| jn <| kC <| jB <| jD <| jF <| jA (jC (v := iv expired_) he_24) <| jA (jG (v := iv expired_) rfl) ?_
  refine jA (jG (v := iv 0) rfl) <| jE <| jB <| jM <| jj (.inl rfl) rfl (jN (v := iv expired_) rfl) (jN (v := iv 0) rfl) (tS 4 _) ?_
  exact ⟨x, mm, expired_, 0, (by simp only [MS.tick, h_1, e_2, h_8, e_9, e_13, h_28, hE, SB]; (repeat (first | rw [if_pos (by omega)] | rw [if_neg (by omega)])); all_goals (first | rfl | simp only [SB, h_1, e_2, h_8, e_9, e_13, h_28, hE])), (hkmm.mono (by omega) (by omega)), (by first | omega | (simp only [LE]; omega)), (by first | omega | (simp only [LE]; omega)), rfl, rfl⟩

theorem M_tick (x : MA) (m : MS) {S T : Nat} (hk : m.ok S T) (hS : S ≤ 4000000) (hT : T ≤ 4000000) (n : Int) (hn : -9223372036854775808 ≤ n ∧ n ≤ 9223372036854775807) :
    Ct Tryz.prog 44 [mv x m, .int .i64 n] (mr x m) (fun _ => True) (fun v A' => ∃ x' m' r0 r1, MS.tick m n = (m', r0, r1) ∧ m'.ok (3 * S + 3) (T + 7 * S + 10) ∧ (0 ≤ r0 ∧ r0 ≤ 1000000000) ∧ (0 ≤ r1 ∧ r1 ≤ 9) ∧ v = .tuple #[mv x' m', .int .i64 r0, .int .i64 r1] ∧ A' = mr x' m') := by
  refine Ct.intro Tryz.func44 rfl Tryz.ntmps44 (lb rfl) fun w0 hpre => ?_
  refine jD <| jF ?_
  refine jH rfl (jv (cs := (mc x m)) rfl rfl) ?_
  rintro _ _ ⟨b_1, rfl, rfl⟩
  refine jH rfl (jh (z := zM) (cs := zC) kd rfl) ?_
  rintro _ _ ⟨b_2, rfl, rfl⟩
  refine jA (jG (v := iv 0) rfl) <| jA (jG (v := iv 0) rfl) <| jE <| jB <| jD <| jD <| jF <| jA (jC (v := iv n) rfl) <| jA (js rfl rfl) <| jE ?_
  refine jB ?_
  by_cases h_3 : n < 1
  · refine jR (cB (dT h_3)) <| jD <| jF <| jT (jP 1 x m rfl rfl) ?_
    refine jH rfl (jW 0 x m rfl rfl rfl rfl) ?_
    rintro _ _ rfl
    refine jA (jG (v := iv 0) rfl) <| jA (jG (v := iv 4) rfl) <| jE <| jB <| jM <| jX <| kL (pick_perm [2, 2, 2] (A := [rC x.a0 x.c0 m.s, rS x.a1 x.c1 m.r, rS x.a2 x.c2 m.w]) (F := [mb b_2 x m, mb b_1 x m]) rfl).symm <| Done.three (.inl rfl) rfl (je (jP 3 x m rfl rfl) ⟨_, rfl⟩) (jN (v := iv 0) rfl) (jN (v := iv 4) rfl) (tS 3 _) ?_
    exact ⟨x, m, 0, 4, (by simp only [MS.tick, h_3, SB]; (repeat (first | rw [if_pos (by omega)] | rw [if_neg (by omega)])); all_goals (first | rfl | simp only [SB, h_3])), (hk.mono (by omega) (by omega)), (by first | omega | (simp only [LE]; omega)), (by first | omega | (simp only [LE]; omega)), rfl, rfl⟩
  refine jQ (cB (dF h_3)) <| jU <| jB <| jD <| jF <| jT (jP 1 x m rfl rfl) ?_
  refine jH rfl (jI [2, 2, 2] Tryz.call84 rfl (N_sNumAt x m hk (by omega) (by omega) [99, 47, 99, 108, 111, 99, 107]) rfl (fun _ _ => trivial)) ?_
  rintro _ _ ⟨_, ⟨x_6, m_7, n_8, e_4, k_5, f_9, rfl, rfl⟩, rfl⟩
  refine jA (jC (v := .tuple #[mv x_6 m_7, iv n_8]) rfl) <| jA (jS (v := mv x_6 m_7) rfl rfl) <| jA (jS (v := iv n_8) rfl rfl) ?_
  refine jH rfl (jW 4 x_6 m_7 rfl rfl rfl rfl) ?_
  rintro _ _ rfl
  refine jA (jG (v := iv n_8) rfl) <| jE <| jB <| jD <| jD <| jF <| jA (jC (v := iv n) rfl) <| jA (jC (v := iv n_8) rfl) <| jA (kR (c := 999 - n_8) rfl rfl (wr (by omega))) <| jA (kS rfl rfl) ?_
  refine jE <| jB ?_
  by_cases h_10 : (999 - n_8) < n
  · refine jR (cB (dT h_10)) <| jD <| jF <| jT (jP 4 x_6 m_7 rfl rfl) ?_
    refine jH rfl (jW 3 x_6 m_7 rfl rfl rfl rfl) ?_
    rintro _ _ rfl
    refine jA (jG (v := iv 0) rfl) <| jA (jG (v := iv 3) rfl) <| jE <| jB <| jM <| jX <| Done.three (.inl rfl) rfl (je (jP 3 x_6 m_7 rfl rfl) ⟨_, rfl⟩) (jN (v := iv 0) rfl) (jN (v := iv 3) rfl) (tS 3 _) ?_
    exact ⟨x_6, m_7, 0, 3, (by simp only [MS.tick, h_3, e_4, h_10, SB]; (repeat (first | rw [if_pos (by omega)] | rw [if_neg (by omega)])); all_goals (first | rfl | simp only [SB, h_3, e_4, h_10])), (k_5.mono (by omega) (by omega)), (by first | omega | (simp only [LE]; omega)), (by first | omega | (simp only [LE]; omega)), rfl, rfl⟩
  refine jQ (cB (dF h_10)) <| jU <| jB <| jD <| jF <| jT (jP 4 x_6 m_7 rfl rfl) <| jA (jC (v := iv n_8) rfl) <| jA (jC (v := iv n) rfl) <| jA (jg (c := n_8 + n) rfl rfl (wr (by omega))) ?_
  refine jH rfl (jI [0, 0, 0] Tryz.call90 rfl (N_sSetNum x_6 m_7 k_5 (by omega) (by omega) [99, 47, 99, 108, 111, 99, 107] (n_8 + n) (by decide) (by omega)) rfl (fun _ _ => trivial)) ?_
  rintro _ _ ⟨_, ⟨x_13, m_14, e_11, k_12, rfl, rfl⟩, rfl⟩
  refine jH rfl (jW 4 x_13 m_14 rfl rfl rfl rfl) ?_
  rintro _ _ rfl
  refine jE <| jB <| jD <| jF <| jT (jP 4 x_13 m_14 rfl rfl) ?_
  refine jH rfl (jI [0, 0, 0] Tryz.call106 rfl (N_sUnder x_13 m_14 k_12 (by omega) (by omega) [116, 47] (by decide)) rfl (fun _ _ => trivial)) ?_
  rintro _ _ ⟨_, ⟨x_17, m_18, l_19a, l_19c, l_19, e_15, k_16, f_20, rfl, rfl⟩, rfl⟩
  refine jA (jC (v := .tuple #[mv x_17 m_18, .slice l_19a l_19.length l_19c]) rfl) <| jA (jS (v := mv x_17 m_18) rfl rfl) <| jA (jS (v := .slice l_19a l_19.length l_19c) rfl rfl) ?_
  refine jH rfl (jW 5 x_17 m_18 rfl rfl rfl rfl) ?_
  rintro _ _ rfl
  refine jA (jG (v := .slice l_19a l_19.length l_19c) rfl) <| jE <| jB <| jD <| jF <| jA (jG (v := iv 0) rfl) <| jE <| jB <| jD <| jD ?_
  refine jF <| jA (jG (v := iv 0) rfl) <| jE <| jB <| jm ?_
  have hll := f_20.1
  refine JC.perm (pick_perm [5, 0, 0, 0, 0, 0] (A := [mb b_1 x_17 m_18, rC x_17.a0 x_17.c0 m_18.s, rS x_17.a1 x_17.c1 m_18.r, rS x_17.a2 x_17.c2 m_18.w, rS l_19a l_19c l_19, bk b_2 35 zC]) (F := []) rfl).symm <| kE (fun k_ e_ L_ => ∃ j : Nat, ∃ x : MA, ∃ mm : MS, ∃ kv9_ : Int, (j ≤ l_19.length) ∧ (mm.ok ((S + 1) + 2 * j) (((T + 1) + 1) + 1 + 7 * j)) ∧ (0 ≤ kv9_ ∧ kv9_ ≤ ((j : Nat) : Int)) ∧ (MS.tickL (n_8 + n) (l_19.drop j) mm kv9_ = MS.tickL (n_8 + n) l_19 m_18 0) ∧ e_ 1 = iv n ∧ e_ 2 = .pointer (some ⟨b_1, 0, none⟩) ∧ e_ 4 = .pointer (some ⟨b_2, 0, none⟩) ∧ e_ 5 = iv 0 ∧ e_ 6 = iv 0 ∧ e_ 7 = iv n_8 ∧ e_ 8 = .slice l_19a l_19.length l_19c ∧ e_ 9 = iv kv9_ ∧ e_ 10 = nv j ∧ L_ = [mb b_1 x mm, rC x.a0 x.c0 mm.s, rS x.a1 x.c1 mm.r, rS x.a2 x.c2 mm.w, rS l_19a l_19c l_19, bk b_2 35 zC] ∧ k_ = l_19.length - j) _ ⟨0, x_17, m_18, 0, by omega, (k_16.mono (by omega) (by omega)), (by first | omega | (simp only [LE]; omega)), rfl, rfl, rfl, rfl, rfl, rfl, rfl, rfl, rfl, rfl, rfl, rfl⟩ ?_
  rintro _ e_21 _ ⟨j, x, mm, kv9_, hj, hkmm, hx, hR, he_22, he_23, he_24, he_25, he_26, he_27, he_28, he_29, he_30, rfl, rfl⟩
  refine jD <| jD <| jF <| jA (jC (v := nv j) he_30) <| jA (jC (v := .slice l_19a l_19.length l_19c) he_28) <| jA (kK kW rfl) <| jA (js rfl rfl) <| jE <| jB ?_
  by_cases h_31 : ((j : Nat) : Int) < ((l_19.length : Nat) : Int)
  · have hlt : j < l_19.length := by omega
    have hbj := f_20.2 j hlt
    try simp only [List.length_cons, List.length_nil] at hbj
    refine jR (cB (dT h_31)) <| jU <| jB <| jD <| jm <| jD <| jF <| jA (jG (v := iv 0) rfl) <| jE <| jB ?_
    refine jD <| jq [mb b_1 x mm] 9 mixed (by simp) <| jl 0 rfl (jP 0 x mm rfl he_23) <| jK 1 rfl (jC (v := .slice l_19a l_19.length l_19c) he_28) <| jK 2 rfl (jC (v := nv j) he_30) ?_
    refine JA.facts fun hst => ?_
    obtain ⟨hr_32, hr_32b, -⟩ := row_some 4 rfl (by omega) hst
    refine jK 3 rfl (kH (i := j) kW ka hr_32 hr_32b rfl rfl (by omega)) <| jL (i := 4) ?_
    refine jO rfl rfl (ja (LO.loadR1 4 (v := str (l_19.getD j [])) rfl rfl kZ (atS (by omega)))) ?_
    rintro _ _ ⟨rfl, rfl⟩
    refine ⟨(by simp), ?_⟩
    refine jL (i := 5) ?_
    refine jO rfl rfl (jI [1, 1, 1] Tryz.call84 rfl (N_sNumAt x mm hkmm (by omega) (by omega) (l_19.getD j [])) rfl (fun _ _ => trivial)) ?_
    rintro _ _ ⟨_, ⟨x_41, m_42, n_43, e_39, k_40, f_44, rfl, rfl⟩, rfl⟩
    refine ⟨(by simp), ?_⟩
    refine jK 6 rfl (jC (v := .tuple #[mv x_41 m_42, iv n_43]) rfl) <| jK 7 rfl (jS (v := mv x_41 m_42) rfl rfl) <| jK 8 rfl (jS (v := iv n_43) rfl rfl) <| jL (i := 9) ?_
    refine jo rfl (jW 3 x_41 m_42 rfl he_23 rfl rfl) ?_
    rintro _ _ rfl
    refine jK 10 rfl (jG (v := iv n_43) rfl) <| kG (by kernel_rfl) <| jB <| jD <| jF <| jA (jC (v := iv n_43) rfl) <| jA (jC (v := iv n_8) he_27) <| jA (jC (v := iv n) he_22) <| jA (jg (c := n_8 + n) rfl rfl (wr (by omega))) <| jA (PO.leq rfl rfl) ?_
    refine jE <| jB ?_
    by_cases h_45 : n_43 ≤ (n_8 + n)
    · refine jR (cB (dT h_45)) <| jD <| jq [mb b_1 x_41 m_42] 5 mixed (by simp) <| jl 0 rfl (jP 0 x_41 m_42 rfl he_23) <| jK 1 rfl (jC (v := .slice l_19a l_19.length l_19c) he_28) <| jK 2 rfl (jC (v := nv j) he_30) <| jK 3 rfl (kH (i := j) kW ka hr_32 hr_32b rfl rfl (by omega)) <| jL (i := 4) ?_
      refine jO rfl rfl (ja (LO.loadR1 4 (v := str (l_19.getD j [])) rfl rfl kZ (atS (by omega)))) ?_
      rintro _ _ ⟨rfl, rfl⟩
      refine ⟨(by simp), ?_⟩
      refine jL (i := 5) ?_
      refine jo rfl (jI [0, 0, 0] Tryz.call92 rfl (N_sLayNil x_41 m_42 k_40 (by omega) (by omega) (l_19.getD j []) (by omega)) rfl (fun _ _ => trivial)) ?_
      rintro _ _ ⟨_, ⟨x_52, m_53, e_50, k_51, rfl, rfl⟩, rfl⟩
      refine jL (i := 6) ?_
      refine jp rfl (jW 3 x_52 m_53 rfl he_23 rfl rfl) ?_
      rintro _ _ rfl
      refine jB <| jD <| jq [mb b_1 x_52 m_53] 11 mixed (by simp) <| jl 0 rfl (jP 0 x_52 m_53 rfl he_23) <| jK 1 rfl (jC (v := .slice l_19a l_19.length l_19c) he_28) <| jK 2 rfl (jC (v := nv j) he_30) <| jK 3 rfl (kH (i := j) kW ka hr_32 hr_32b rfl rfl (by omega)) <| jL (i := 4) ?_
      refine jO rfl rfl (ja (LO.loadR1 4 (v := str (l_19.getD j [])) rfl rfl kZ (atS (by omega)))) ?_
      rintro _ _ ⟨rfl, rfl⟩
      refine ⟨(by simp), ?_⟩
      refine jK 5 rfl (PO.sliceSl (i := 2) kY rfl rfl (by omega)) <| jL (i := 6) ?_
      refine jO rfl rfl (jI [] Tryz.call107 rfl (N_sNumOf ((l_19.getD j []).drop 2) (by first | omega | (simp only [LE]; omega))) rfl (fun _ _ => trivial)) ?_
      rintro _ _ ⟨_, ⟨n_60, e_58, f_61, rfl, rfl⟩, rfl⟩
      refine ⟨(by simp), ?_⟩
      refine jL (i := 7) ?_
      refine jO rfl rfl (jI [0, 0, 0] Tryz.call41 rfl (M_send x_52 m_53 k_51 (by omega) (by omega) n_60 14 (by omega) (by omega)) rfl (fun _ _ => trivial)) ?_
      rintro _ _ ⟨_, ⟨x_70, m_71, n_72, e_68, k_69, f_73, rfl, rfl⟩, rfl⟩
      refine ⟨(by simp), ?_⟩
      refine jK 8 rfl (jC (v := .tuple #[mv x_70 m_71, iv n_72]) rfl) <| jK 9 rfl (jS (v := mv x_70 m_71) rfl rfl) <| jK 10 rfl (jS (v := iv n_72) rfl rfl) <| jL (i := 11) ?_
      refine jp rfl (jW 3 x_70 m_71 rfl he_23 rfl rfl) ?_
      rintro _ _ rfl
      refine jB <| jF <| jA (jC (v := iv kv9_) he_29) <| jA (jg (c := kv9_ + 1) rfl rfl (wr (by omega))) <| jA (jG (v := iv (kv9_ + 1)) rfl) <| jE <| jk <| jB <| jF <| jA (jC (v := nv j) he_30) ?_
      refine jA (jg (c := ((j + 1 : Nat) : Int)) rfl rfl (wr (by omega))) <| jA (jG (v := iv ((j + 1 : Nat) : Int)) rfl) <| jE <| jr [3, 0, 0, 0, 0, 0] (A := [mb b_1 x_70 m_71, rC x_70.a0 x_70.c0 m_71.s, rS x_70.a1 x_70.c1 m_71.r, rS x_70.a2 x_70.c2 m_71.w, rS l_19a l_19c l_19, bk b_2 35 zC]) rfl ?_
      refine jt (l_19.length - (j + 1)) (by omega) ⟨j + 1, x_70, m_71, (kv9_ + 1), by omega, (k_69.mono (by omega) (by omega)), (by first | omega | (simp only [LE]; omega)), (by rw [drop_at (getD_some (d := []) hlt)] at hR; simp only [MS.tickL, h_3, e_4, h_10, e_11, e_15, h_31, e_39, h_45, e_50, e_58, e_68, SB] at hR; (repeat (first | rw [if_pos (by omega)] at hR | rw [if_neg (by omega)] at hR)); exact hR), he_22, he_23, he_24, he_25, he_26, he_27, he_28, rfl, rfl, rfl, rfl⟩
    refine jQ (cB (dF h_45)) <| jU <| jk <| jB <| jF <| jA (jC (v := nv j) he_30) <| jA (jg (c := ((j + 1 : Nat) : Int)) rfl rfl (wr (by omega))) <| jA (jG (v := iv ((j + 1 : Nat) : Int)) rfl) <| jE <| jr [3, 0, 0, 0, 0, 0] (A := [mb b_1 x_41 m_42, rC x_41.a0 x_41.c0 m_42.s, rS x_41.a1 x_41.c1 m_42.r, rS x_41.a2 x_41.c2 m_42.w, rS l_19a l_19c l_19, bk b_2 35 zC]) rfl ?_
    refine jt (l_19.length - (j + 1)) (by omega) ⟨j + 1, x_41, m_42, kv9_, by omega, (k_40.mono (by omega) (by omega)), (by first | omega | (simp only [LE]; omega)), (by rw [drop_at (getD_some (d := []) hlt)] at hR; simp only [MS.tickL, h_3, e_4, h_10, e_11, e_15, h_31, e_39, h_45, SB] at hR; (repeat (first | rw [if_pos (by omega)] at hR | rw [if_neg (by omega)] at hR)); exact hR), he_22, he_23, he_24, he_25, he_26, he_27, he_28, he_29, rfl, rfl, rfl⟩
  rw [List.drop_of_length_le (by omega)] at hR
  simp only [MS.tickL] at hR
  have hE := hR.symm
  refine jQ (cB (dF h_31)) <| kB <| jn <| jn <| kC <| jB <| jD <| jF <| jT (jP 0 x mm rfl he_23) <| jA (jC (v := iv kv9_) he_29) ?_
  refine jH rfl (jW 5 x mm rfl he_24 rfl rfl) ?_
  rintro _ _ rfl
  refine jA (jG (v := iv kv9_) rfl) <| jA (jG (v := iv 0) rfl) <| jE <| jB <| jM <| kL (pick_perm [1, 1, 1] (A := [rC x.a0 x.c0 mm.s, rS x.a1 x.c1 mm.r, rS x.a2 x.c2 mm.w]) (F := [mb b_1 x mm, rS l_19a l_19c l_19, mb b_2 x mm]) rfl).symm <| Done.three (.inl rfl) rfl (je (jP 5 x mm rfl he_24) ⟨_, he_24⟩) (jN (v := iv kv9_) rfl) (jN (v := iv 0) rfl) (tS 3 _) ?_
  exact ⟨x, mm, kv9_, 0, (by simp only [MS.tick, h_3, e_4, h_10, e_11, e_15, h_31, hE, SB]; (repeat (first | rw [if_pos (by omega)] | rw [if_neg (by omega)])); all_goals (first | rfl | simp only [SB, h_3, e_4, h_10, e_11, e_15, h_31, hE])), (hkmm.mono (by omega) (by omega)), (by first | omega | (simp only [LE]; omega)), (by first | omega | (simp only [LE]; omega)), rfl, rfl⟩

theorem N_dropPages (p : Nat) (x : MA) (m : MS) {S T : Nat} (hk : m.ok S T) (hS : S ≤ 40000000) (hT : T ≤ 40000000) (id : Int) (hid : -9223372036854775808 ≤ id ∧ id ≤ 9223372036854775807) :
    Ct Tryz.prog 68 [.pointer (some ⟨p, 0, none⟩), .int .i64 id] (mb p x m :: mr x m) (fun _ => True) (fun v A' => ∃ x' m', MS.dropPages m id = m' ∧ m'.ok (S) (T + S + 1) ∧ v = .tuple #[] ∧ A' = mb p x' m' :: mr x' m') := by
  refine Ct.intro Tryz.func68 rfl Tryz.ntmps68 (lb rfl) fun w0 hpre => ?_
  refine jF <| jA (jC (v := pv p) rfl) <| jA (jC (v := iv id) rfl) ?_
  refine jH rfl (jI [] Tryz.call138 rfl (N_pagesKey id (by omega)) rfl (fun _ _ => trivial)) ?_
  rintro _ _ ⟨_, ⟨u_3, e_1, f_4, rfl, rfl⟩, rfl⟩
  refine jH rfl (jI [0, 0, 0, 0] Tryz.call128 rfl (N_wipe p x m hk (by omega) (by omega) u_3 (by omega)) rfl (fun _ _ => trivial)) ?_
  rintro _ _ ⟨_, ⟨x_7, m_8, e_5, k_6, rfl, rfl⟩, rfl⟩
  refine jE <| Done.none (.inr rfl) rfl (List.Sublist.refl _) ?_
  exact ⟨x_7, m_8, (by simp only [MS.dropPages, e_1, e_5, SB]; (repeat (first | rw [if_pos (by omega)] | rw [if_neg (by omega)])); all_goals (first | rfl | simp only [SB, e_1, e_5])), (k_6.mono (by omega) (by omega)), rfl, rfl⟩

theorem M_dropPages (x : MA) (m : MS) {S T : Nat} (hk : m.ok S T) (hS : S ≤ 40000000) (hT : T ≤ 40000000) (id : Int) (hid : -9223372036854775808 ≤ id ∧ id ≤ 9223372036854775807) :
    Ct Tryz.prog 112 [mv x m, .int .i64 id] (mr x m) (fun _ => True) (fun v A' => ∃ x' m', MS.dropPages m id = m' ∧ m'.ok (S) (T + S + 1) ∧ v = mv x' m' ∧ A' = mr x' m') := by
  refine Ct.intro Tryz.func112 rfl Tryz.ntmps112 (lb rfl) fun w0 hpre => ?_
  refine jD <| jF ?_
  refine jH rfl (jv (cs := (mc x m)) rfl rfl) ?_
  rintro _ _ ⟨b_1, rfl, rfl⟩
  refine jH rfl (jh (z := zM) (cs := zC) kd rfl) ?_
  rintro _ _ ⟨b_2, rfl, rfl⟩
  refine jE <| jB <| jD <| jq [mb b_1 x m] 3 mixed (by simp) <| jl 0 rfl (jP 0 x m rfl rfl) <| jK 1 rfl (jC (v := iv id) rfl) <| jL (i := 2) ?_
  refine jO rfl rfl (jI [] Tryz.call108 rfl (N_l11Head id (by omega)) rfl (fun _ _ => trivial)) ?_
  rintro _ _ ⟨_, ⟨u_9, e_7, f_10, rfl, rfl⟩, rfl⟩
  refine ⟨(by simp), ?_⟩
  refine jL (i := 3) ?_
  refine jo rfl (jI [2, 2, 2] Tryz.call93 rfl (M_wipe x m hk (by omega) (by omega) u_9 (by omega)) rfl (fun _ _ => trivial)) ?_
  rintro _ _ ⟨_, ⟨x_17, m_18, e_15, k_16, rfl, rfl⟩, rfl⟩
  refine jL (i := 4) ?_
  refine jp rfl (jW 3 x_17 m_18 rfl rfl rfl rfl) ?_
  rintro _ _ rfl
  refine jB <| jM <| jV (.inl rfl) rfl (je (jP 3 x_17 m_18 rfl rfl) ⟨_, rfl⟩) (tS 3 _) ?_
  exact ⟨x_17, m_18, (by simp only [MS.dropPages, e_7, e_15, SB]; (repeat (first | rw [if_pos (by omega)] | rw [if_neg (by omega)])); all_goals (first | rfl | simp only [SB, e_7, e_15])), (k_16.mono (by omega) (by omega)), rfl, rfl⟩

theorem N_forkPages (p : Nat) (x : MA) (m : MS) {S T : Nat} (hk : m.ok S T) (hS : S ≤ 20000000) (hT : T ≤ 20000000) (from_ : Int) (to_ : Int) (hfrom_ : -9223372036854775808 ≤ from_ ∧ from_ ≤ 9223372036854775807) (hto_ : -9223372036854775808 ≤ to_ ∧ to_ ≤ 9223372036854775807) :
    Ct Tryz.prog 66 [.pointer (some ⟨p, 0, none⟩), .int .i64 from_, .int .i64 to_] (mb p x m :: mr x m) (fun _ => True) (fun v A' => ∃ x' m', MS.forkPages m from_ to_ = m' ∧ m'.ok (S + S) (T + 2 * S + 1) ∧ v = .tuple #[] ∧ A' = mb p x' m' :: mr x' m') := by
  refine Ct.intro Tryz.func66 rfl Tryz.ntmps66 (lb rfl) fun w0 hpre => ?_
  refine jD <| jF <| jA (jC (v := pv p) rfl) <| jA (jC (v := iv from_) rfl) ?_
  refine jH rfl (jI [] Tryz.call138 rfl (N_pagesKey from_ (by omega)) rfl (fun _ _ => trivial)) ?_
  rintro _ _ ⟨_, ⟨u_3, e_1, f_4, rfl, rfl⟩, rfl⟩
  refine jH rfl (jI [0, 0, 0, 0] Tryz.call130 rfl (N_under p x m hk (by omega) (by omega) u_3 (by omega)) rfl (fun _ _ => trivial)) ?_
  rintro _ _ ⟨_, ⟨x_7, m_8, l_9a, l_9c, l_9, e_5, k_6, f_10, rfl, rfl⟩, rfl⟩
  refine jA (kK kW rfl) <| jA (jC (v := iv 0) rfl) <| jE <| jB <| jm ?_
  have hll := f_10.1
  refine kE (fun k_ e_ L_ => ∃ j : Nat, ∃ x : MA, ∃ mm : MS, (j ≤ l_9.length) ∧ (mm.ok (S + j) (T + 1 + 2 * j)) ∧ (MS.forkL u_3.length to_ (l_9.drop j) mm = MS.forkL u_3.length to_ l_9 m_8) ∧ e_ 0 = pv p ∧ e_ 1 = iv from_ ∧ e_ 2 = iv to_ ∧ e_ 11 = .slice l_9a l_9.length l_9c ∧ e_ 12 = nv l_9.length ∧ e_ 13 = nv j ∧ L_ = [mb p x mm, rC x.a0 x.c0 mm.s, rS x.a1 x.c1 mm.r, rS x.a2 x.c2 mm.w, rS l_9a l_9c l_9] ∧ k_ = l_9.length - j) _ ⟨0, x_7, m_8, by omega, (k_6.mono (by omega) (by omega)), rfl, rfl, rfl, rfl, rfl, rfl, rfl, rfl, rfl⟩ ?_
  rintro _ e_11 _ ⟨j, x, mm, hj, hkmm, hR, he_12, he_13, he_14, he_15, he_16, he_17, rfl, rfl⟩
  refine jD <| jF <| jA (js he_17 he_16) <| jE <| jB <| jD ?_
  by_cases h_18 : ((j : Nat) : Int) < ((l_9.length : Nat) : Int)
  · have hlt : j < l_9.length := by omega
    have hbj := f_10.2 j hlt
    try simp only [List.length_cons, List.length_nil] at hbj
    refine jR (cB (dT h_18)) <| jU <| jB <| jD <| jm <| jD <| jF ?_
    refine JL.facts fun hst => ?_
    obtain ⟨hr_19, hr_19b, -⟩ := row_some 4 rfl (by omega) hst
    refine jA (kH (i := j) kW ka hr_19 hr_19b he_15 he_17 (by omega)) <| jT (LO.loadR1 4 (v := str (l_9.getD j [])) rfl rfl kZ (atS (by omega))) <| jA (jG (v := str (l_9.getD j [])) rfl) <| jE <| jB <| jq [] 1000 mixed (by simp) <| jK 0 rfl (jC (v := pv p) he_12) <| jK 1 rfl (jC (v := iv to_) he_14) <| jK 3 rfl (jC (v := str (l_9.getD j [])) rfl) <| jK 4 rfl (jC (v := iv from_) he_13) ?_
    refine jK 9 rfl (jC (v := pv p) he_12) <| jK 10 rfl (jC (v := str (l_9.getD j [])) rfl) <| jL (i := 2) ?_
    refine jO rfl rfl (jI [] Tryz.call138 rfl (N_pagesKey to_ (by omega)) rfl (fun _ _ => trivial)) ?_
    rintro _ _ ⟨_, ⟨u_42, e_40, f_43, rfl, rfl⟩, rfl⟩
    refine ⟨(fun _ h => by cases h), ?_⟩
    refine jL (i := 5) ?_
    refine jO rfl rfl (jI [] Tryz.call138 rfl (N_pagesKey from_ (by omega)) rfl (fun _ _ => trivial)) ?_
    rintro _ _ ⟨_, ⟨u_50, e_48, f_51, rfl, rfl⟩, rfl⟩
    have hqe_48 := e_1.symm.trans e_48
    subst hqe_48
    refine ⟨(fun _ h => by cases h), ?_⟩
    refine jK 6 rfl (kJ kY rfl) <| jK 7 rfl (PO.sliceSl (i := u_3.length) kY rfl rfl (by omega)) <| jK 8 rfl (kO rfl rfl (by (try simp only [List.length_append, List.length_cons, List.length_nil, List.length_drop, List.length_take]); omega)) <| jL (i := 11) ?_
    refine jO rfl rfl (jI [0, 0, 0, 0] Tryz.call139 rfl (N_look p x mm hkmm (by omega) (by omega) (l_9.getD j [])) rfl (fun _ _ => trivial)) ?_
    rintro _ _ ⟨_, ⟨x_60, m_61, u_62, e_58, k_59, f_63, rfl, rfl⟩, rfl⟩
    refine ⟨(fun _ h => by cases h), ?_⟩
    refine jL (i := 12) ?_
    refine jO rfl rfl (jI [0, 0, 0, 0] Tryz.call127 rfl (N_lay p x_60 m_61 k_59 (by omega) (by omega) (u_42 ++ ((l_9.getD j []).drop u_3.length)) u_62 (by first | omega | (simp only [LE]; omega))) rfl (fun _ _ => trivial)) ?_
    rintro _ _ ⟨_, ⟨x_70, m_71, e_68, k_69, rfl, rfl⟩, rfl⟩
    refine ⟨(fun _ h => by cases h), ?_⟩
    refine kG (by kernel_rfl) <| jk <| jB <| jF <| jA (jg (c := ((j + 1 : Nat) : Int)) he_17 rfl (wr (by omega))) <| jA (jC (v := iv ((j + 1 : Nat) : Int)) rfl) <| jE <| jr [0, 0, 0, 0, 0] (A := [mb p x_70 m_71, rC x_70.a0 x_70.c0 m_71.s, rS x_70.a1 x_70.c1 m_71.r, rS x_70.a2 x_70.c2 m_71.w, rS l_9a l_9c l_9]) rfl ?_
    refine jt (l_9.length - (j + 1)) (by omega) ⟨j + 1, x_70, m_71, by omega, (k_69.mono (by omega) (by omega)), (by rw [drop_at (getD_some (d := []) hlt)] at hR; simp only [MS.forkL, e_1, e_5, h_18, e_40, e_58, e_68, SB] at hR; (repeat (first | rw [if_pos (by omega)] at hR | rw [if_neg (by omega)] at hR)); exact hR), he_12, he_13, he_14, he_15, he_16, rfl, rfl, rfl⟩
  rw [List.drop_of_length_le (by omega)] at hR
  simp only [MS.forkL] at hR
  have hE := hR.symm
  refine jQ (cB (dF h_18)) <| kB <| jn <| jn <| kC <| Done.none (.inr rfl) rfl (tS 4 _) ?_
  exact ⟨x, mm, (by simp only [MS.forkPages, e_1, e_5, h_18, hE, SB]; (repeat (first | rw [if_pos (by omega)] | rw [if_neg (by omega)])); all_goals (first | rfl | simp only [SB, e_1, e_5, h_18, hE])), (hkmm.mono (by omega) (by omega)), rfl, rfl⟩

theorem M_forkPages (x : MA) (m : MS) {S T : Nat} (hk : m.ok S T) (hS : S ≤ 20000000) (hT : T ≤ 20000000) (from_ : Int) (to_ : Int) (hfrom_ : -9223372036854775808 ≤ from_ ∧ from_ ≤ 9223372036854775807) (hto_ : -9223372036854775808 ≤ to_ ∧ to_ ≤ 9223372036854775807) :
    Ct Tryz.prog 110 [mv x m, .int .i64 from_, .int .i64 to_] (mr x m) (fun _ => True) (fun v A' => ∃ x' m', MS.forkPages m from_ to_ = m' ∧ m'.ok (S + S) (T + 2 * S + 1) ∧ v = mv x' m' ∧ A' = mr x' m') := by
  refine Ct.intro Tryz.func110 rfl Tryz.ntmps110 (lb rfl) fun w0 hpre => ?_
  refine jD <| jF ?_
  refine jH rfl (jv (cs := (mc x m)) rfl rfl) ?_
  rintro _ _ ⟨b_1, rfl, rfl⟩
  refine jH rfl (jh (z := zM) (cs := zC) kd rfl) ?_
  rintro _ _ ⟨b_2, rfl, rfl⟩
  refine jE <| jB <| jD <| jq [mb b_1 x m] 7 mixed (by simp) <| jl 0 rfl (jP 0 x m rfl rfl) <| jK 1 rfl (jC (v := iv from_) rfl) <| jL (i := 2) ?_
  refine jO rfl rfl (jI [] Tryz.call108 rfl (N_l11Head from_ (by omega)) rfl (fun _ _ => trivial)) ?_
  rintro _ _ ⟨_, ⟨u_9, e_7, f_10, rfl, rfl⟩, rfl⟩
  refine ⟨(by simp), ?_⟩
  refine jL (i := 3) ?_
  refine jO rfl rfl (jI [2, 2, 2] Tryz.call106 rfl (N_sUnder x m hk (by omega) (by omega) u_9 (by omega)) rfl (fun _ _ => trivial)) ?_
  rintro _ _ ⟨_, ⟨x_19, m_20, l_21a, l_21c, l_21, e_17, k_18, f_22, rfl, rfl⟩, rfl⟩
  refine ⟨(by simp), ?_⟩
  refine jK 4 rfl (jC (v := .tuple #[mv x_19 m_20, .slice l_21a l_21.length l_21c]) rfl) <| jK 5 rfl (jS (v := mv x_19 m_20) rfl rfl) <| jK 6 rfl (jS (v := .slice l_21a l_21.length l_21c) rfl rfl) <| jL (i := 7) ?_
  refine jo rfl (jW 5 x_19 m_20 rfl rfl rfl rfl) ?_
  rintro _ _ rfl
  refine jK 8 rfl (jG (v := .slice l_21a l_21.length l_21c) rfl) <| kG (by kernel_rfl) <| jB <| jD <| jD <| jF <| jA (jG (v := iv 0) rfl) <| jE <| jB <| jm ?_
  have hll := f_22.1
  refine JC.perm (pick_perm [5, 0, 0, 0, 0, 0] (A := [mb b_1 x_19 m_20, rC x_19.a0 x_19.c0 m_20.s, rS x_19.a1 x_19.c1 m_20.r, rS x_19.a2 x_19.c2 m_20.w, rS l_21a l_21c l_21, bk b_2 35 zC]) (F := []) rfl).symm <| kE (fun k_ e_ L_ => ∃ j : Nat, ∃ x : MA, ∃ mm : MS, (j ≤ l_21.length) ∧ (mm.ok (S + j) (T + 1 + 2 * j)) ∧ (MS.forkL u_9.length to_ (l_21.drop j) mm = MS.forkL u_9.length to_ l_21 m_20) ∧ e_ 1 = iv from_ ∧ e_ 2 = iv to_ ∧ e_ 3 = .pointer (some ⟨b_1, 0, none⟩) ∧ e_ 6 = .pointer (some ⟨b_2, 0, none⟩) ∧ e_ 7 = .slice l_21a l_21.length l_21c ∧ e_ 8 = nv j ∧ L_ = [mb b_1 x mm, rC x.a0 x.c0 mm.s, rS x.a1 x.c1 mm.r, rS x.a2 x.c2 mm.w, rS l_21a l_21c l_21, bk b_2 35 zC] ∧ k_ = l_21.length - j) _ ⟨0, x_19, m_20, by omega, (k_18.mono (by omega) (by omega)), rfl, rfl, rfl, rfl, rfl, rfl, rfl, rfl, rfl⟩ ?_
  rintro _ e_23 _ ⟨j, x, mm, hj, hkmm, hR, he_24, he_25, he_26, he_27, he_28, he_29, rfl, rfl⟩
  refine jD <| jD <| jF <| jA (jC (v := nv j) he_29) <| jA (jC (v := .slice l_21a l_21.length l_21c) he_28) <| jA (kK kW rfl) <| jA (js rfl rfl) <| jE <| jB ?_
  by_cases h_30 : ((j : Nat) : Int) < ((l_21.length : Nat) : Int)
  · have hlt : j < l_21.length := by omega
    have hbj := f_22.2 j hlt
    try simp only [List.length_cons, List.length_nil] at hbj
    refine jR (cB (dT h_30)) <| jU <| jB <| jD <| jm <| jD <| jF <| jA (jG (v := str []) rfl) <| jE <| jB ?_
    refine jD <| jq [mb b_1 x mm] 9 mixed (by simp) <| jl 0 rfl (jP 0 x mm rfl he_26) <| jK 1 rfl (jC (v := .slice l_21a l_21.length l_21c) he_28) <| jK 2 rfl (jC (v := nv j) he_29) ?_
    refine JA.facts fun hst => ?_
    obtain ⟨hr_31, hr_31b, -⟩ := row_some 4 rfl (by omega) hst
    refine jK 3 rfl (kH (i := j) kW ka hr_31 hr_31b rfl rfl (by omega)) <| jL (i := 4) ?_
    refine jO rfl rfl (ja (LO.loadR1 4 (v := str (l_21.getD j [])) rfl rfl kZ (atS (by omega)))) ?_
    rintro _ _ ⟨rfl, rfl⟩
    refine ⟨(by simp), ?_⟩
    refine jL (i := 5) ?_
    refine jO rfl rfl (jI [1, 1, 1] Tryz.call102 rfl (N_sLook x mm hkmm (by omega) (by omega) (l_21.getD j [])) rfl (fun _ _ => trivial)) ?_
    rintro _ _ ⟨_, ⟨x_40, m_41, u_42, e_38, k_39, f_43, rfl, rfl⟩, rfl⟩
    refine ⟨(by simp), ?_⟩
    refine jK 6 rfl (jC (v := .tuple #[mv x_40 m_41, str u_42]) rfl) <| jK 7 rfl (jS (v := mv x_40 m_41) rfl rfl) <| jK 8 rfl (jS (v := str u_42) rfl rfl) <| jL (i := 9) ?_
    refine jo rfl (jW 3 x_40 m_41 rfl he_26 rfl rfl) ?_
    rintro _ _ rfl
    refine jK 10 rfl (jG (v := str u_42) rfl) <| kG (by kernel_rfl) <| jB <| jq [mb b_1 x_40 m_41] 14 mixed (by simp) <| jl 0 rfl (jP 0 x_40 m_41 rfl he_26) <| jK 1 rfl (jC (v := iv to_) he_25) <| jK 3 rfl (jC (v := .slice l_21a l_21.length l_21c) he_28) <| jK 4 rfl (jC (v := nv j) he_29) <| jK 5 rfl (kH (i := j) kW ka hr_31 hr_31b rfl rfl (by omega)) <| jK 7 rfl (jC (v := iv from_) he_24) ?_
    refine jK 12 rfl (jC (v := str u_42) rfl) ?_
    refine kM (i := 2) (j := 6) (by kernel_rfl) ?_ ?_
    · refine jO rfl rfl (jI [] Tryz.call108 rfl (N_l11Head to_ (by omega)) rfl (fun _ _ => trivial)) ?_
      rintro _ _ ⟨_, ⟨u_70, e_68, f_71, rfl, rfl⟩, rfl⟩
      refine ⟨(by simp), ?_⟩
      refine kM (i := 6) (j := 8) (by kernel_rfl) ?_ ?_
      · refine jO rfl rfl (ja (LO.loadR1 4 (v := str (l_21.getD j [])) rfl rfl kZ (atS (by omega)))) ?_
        rintro _ _ ⟨rfl, rfl⟩
        refine ⟨(by simp), ?_⟩
        refine jL (i := 8) ?_
        refine jO rfl rfl (jI [] Tryz.call108 rfl (N_l11Head from_ (by omega)) rfl (fun _ _ => trivial)) ?_
        rintro _ _ ⟨_, ⟨u_82, e_80, f_83, rfl, rfl⟩, rfl⟩
        have hqe_80 := e_7.symm.trans e_80
        subst hqe_80
        refine ⟨(by simp), ?_⟩
        refine jK 9 rfl (kJ kY rfl) <| jK 10 rfl (PO.sliceSl (i := u_9.length) kY rfl rfl (by omega)) <| jK 11 rfl (kO rfl rfl (by (try simp only [List.length_append, List.length_cons, List.length_nil, List.length_drop, List.length_take]); omega)) <| jL (i := 13) ?_
        refine jO rfl rfl (jI [0, 0, 0] Tryz.call92 rfl (N_sLay x_40 m_41 k_39 (by omega) (by omega) (u_70 ++ ((l_21.getD j []).drop u_9.length)) u_42 (by first | omega | (simp only [LE]; omega))) rfl (fun _ _ => trivial)) ?_
        rintro _ _ ⟨_, ⟨x_90, m_91, e_88, k_89, rfl, rfl⟩, rfl⟩
        refine ⟨(by simp), ?_⟩
        refine jL (i := 14) ?_
        refine jp rfl (jW 3 x_90 m_91 rfl he_26 rfl rfl) ?_
        rintro _ _ rfl
        refine jk <| jB <| jF <| jA (jC (v := nv j) he_29) <| jA (jg (c := ((j + 1 : Nat) : Int)) rfl rfl (wr (by omega))) <| jA (jG (v := iv ((j + 1 : Nat) : Int)) rfl) <| jE <| jr [3, 0, 0, 0, 0, 0] (A := [mb b_1 x_90 m_91, rC x_90.a0 x_90.c0 m_91.s, rS x_90.a1 x_90.c1 m_91.r, rS x_90.a2 x_90.c2 m_91.w, rS l_21a l_21c l_21, bk b_2 35 zC]) rfl ?_
        refine jt (l_21.length - (j + 1)) (by omega) ⟨j + 1, x_90, m_91, by omega, (k_89.mono (by omega) (by omega)), (by rw [drop_at (getD_some (d := []) hlt)] at hR; simp only [MS.forkL, e_7, e_17, h_30, e_38, e_68, e_88, SB] at hR; (repeat (first | rw [if_pos (by omega)] at hR | rw [if_neg (by omega)] at hR)); exact hR), he_24, he_25, he_26, he_27, he_28, rfl, rfl, rfl⟩
      refine jO rfl rfl (jI [] Tryz.call108 rfl (N_l11Head from_ (by omega)) rfl (fun _ _ => trivial)) ?_
      rintro _ _ ⟨_, ⟨u_94, e_92, f_95, rfl, rfl⟩, rfl⟩
      have hqe_92 := e_7.symm.trans e_92
      subst hqe_92
      refine ⟨(by simp), ?_⟩
      refine jK 9 rfl (kJ kY rfl) <| jL (i := 6) ?_
      refine jO rfl rfl (ja (LO.loadR1 4 (v := str (l_21.getD j [])) rfl rfl kZ (atS (by omega)))) ?_
      rintro _ _ ⟨rfl, rfl⟩
      refine ⟨(by simp), ?_⟩
      refine jK 10 rfl (PO.sliceSl (i := u_9.length) kY rfl rfl (by omega)) <| jK 11 rfl (kO rfl rfl (by (try simp only [List.length_append, List.length_cons, List.length_nil, List.length_drop, List.length_take]); omega)) <| jL (i := 13) ?_
      refine jO rfl rfl (jI [0, 0, 0] Tryz.call92 rfl (N_sLay x_40 m_41 k_39 (by omega) (by omega) (u_70 ++ ((l_21.getD j []).drop u_9.length)) u_42 (by first | omega | (simp only [LE]; omega))) rfl (fun _ _ => trivial)) ?_
      rintro _ _ ⟨_, ⟨x_102, m_103, e_100, k_101, rfl, rfl⟩, rfl⟩
      refine ⟨(by simp), ?_⟩
      refine jL (i := 14) ?_
      refine jp rfl (jW 3 x_102 m_103 rfl he_26 rfl rfl) ?_
      rintro _ _ rfl
      refine jk <| jB <| jF <| jA (jC (v := nv j) he_29) <| jA (jg (c := ((j + 1 : Nat) : Int)) rfl rfl (wr (by omega))) <| jA (jG (v := iv ((j + 1 : Nat) : Int)) rfl) <| jE <| jr [3, 0, 0, 0, 0, 0] (A := [mb b_1 x_102 m_103, rC x_102.a0 x_102.c0 m_103.s, rS x_102.a1 x_102.c1 m_103.r, rS x_102.a2 x_102.c2 m_103.w, rS l_21a l_21c l_21, bk b_2 35 zC]) rfl ?_
      refine jt (l_21.length - (j + 1)) (by omega) ⟨j + 1, x_102, m_103, by omega, (k_101.mono (by omega) (by omega)), (by rw [drop_at (getD_some (d := []) hlt)] at hR; simp only [MS.forkL, e_7, e_17, h_30, e_38, e_68, e_100, SB] at hR; (repeat (first | rw [if_pos (by omega)] at hR | rw [if_neg (by omega)] at hR)); exact hR), he_24, he_25, he_26, he_27, he_28, rfl, rfl, rfl⟩
    refine jO rfl rfl (ja (LO.loadR1 4 (v := str (l_21.getD j [])) rfl rfl kZ (atS (by omega)))) ?_
    rintro _ _ ⟨rfl, rfl⟩
    refine ⟨(by simp), ?_⟩
    refine jL (i := 2) ?_
    refine jO rfl rfl (jI [] Tryz.call108 rfl (N_l11Head to_ (by omega)) rfl (fun _ _ => trivial)) ?_
    rintro _ _ ⟨_, ⟨u_110, e_108, f_111, rfl, rfl⟩, rfl⟩
    refine ⟨(by simp), ?_⟩
    refine jL (i := 8) ?_
    refine jO rfl rfl (jI [] Tryz.call108 rfl (N_l11Head from_ (by omega)) rfl (fun _ _ => trivial)) ?_
    rintro _ _ ⟨_, ⟨u_118, e_116, f_119, rfl, rfl⟩, rfl⟩
    have hqe_116 := e_7.symm.trans e_116
    subst hqe_116
    refine ⟨(by simp), ?_⟩
    refine jK 9 rfl (kJ kY rfl) <| jK 10 rfl (PO.sliceSl (i := u_9.length) kY rfl rfl (by omega)) <| jK 11 rfl (kO rfl rfl (by (try simp only [List.length_append, List.length_cons, List.length_nil, List.length_drop, List.length_take]); omega)) <| jL (i := 13) ?_
    refine jO rfl rfl (jI [0, 0, 0] Tryz.call92 rfl (N_sLay x_40 m_41 k_39 (by omega) (by omega) (u_110 ++ ((l_21.getD j []).drop u_9.length)) u_42 (by first | omega | (simp only [LE]; omega))) rfl (fun _ _ => trivial)) ?_
    rintro _ _ ⟨_, ⟨x_126, m_127, e_124, k_125, rfl, rfl⟩, rfl⟩
    refine ⟨(by simp), ?_⟩
    refine jL (i := 14) ?_
    refine jp rfl (jW 3 x_126 m_127 rfl he_26 rfl rfl) ?_
    rintro _ _ rfl
    refine jk <| jB <| jF <| jA (jC (v := nv j) he_29) <| jA (jg (c := ((j + 1 : Nat) : Int)) rfl rfl (wr (by omega))) <| jA (jG (v := iv ((j + 1 : Nat) : Int)) rfl) <| jE <| jr [3, 0, 0, 0, 0, 0] (A := [mb b_1 x_126 m_127, rC x_126.a0 x_126.c0 m_127.s, rS x_126.a1 x_126.c1 m_127.r, rS x_126.a2 x_126.c2 m_127.w, rS l_21a l_21c l_21, bk b_2 35 zC]) rfl ?_
    refine jt (l_21.length - (j + 1)) (by omega) ⟨j + 1, x_126, m_127, by omega, (k_125.mono (by omega) (by omega)), (by rw [drop_at (getD_some (d := []) hlt)] at hR; simp only [MS.forkL, e_7, e_17, h_30, e_38, e_108, e_124, SB] at hR; (repeat (first | rw [if_pos (by omega)] at hR | rw [if_neg (by omega)] at hR)); exact hR), he_24, he_25, he_26, he_27, he_28, rfl, rfl, rfl⟩
  rw [List.drop_of_length_le (by omega)] at hR
  simp only [MS.forkL] at hR
  have hE := hR.symm
  refine jQ (cB (dF h_30)) <| kB <| jn <| jn <| kC <| jB <| jD <| jF <| jT (jP 0 x mm rfl he_26) ?_
  refine jH rfl (jW 5 x mm rfl he_27 rfl rfl) ?_
  rintro _ _ rfl
  refine jE <| jB <| jM <| kL (pick_perm [1, 1, 1] (A := [rC x.a0 x.c0 mm.s, rS x.a1 x.c1 mm.r, rS x.a2 x.c2 mm.w]) (F := [mb b_1 x mm, rS l_21a l_21c l_21, mb b_2 x mm]) rfl).symm <| jV (.inl rfl) rfl (je (jP 5 x mm rfl he_27) ⟨_, he_27⟩) (tS 3 _) ?_
  exact ⟨x, mm, (by simp only [MS.forkPages, e_7, e_17, h_30, hE, SB]; (repeat (first | rw [if_pos (by omega)] | rw [if_neg (by omega)])); all_goals (first | rfl | simp only [SB, e_7, e_17, h_30, hE])), (hkmm.mono (by omega) (by omega)), rfl, rfl⟩

end Go.Proofs.YthdgcbdfcclgbaaGreatDoor

set_option linter.unusedSimpArgs false
set_option linter.unusedVariables false
set_option linter.unnecessarySimpa false
namespace Go.Proofs.YthdgcbdfcclgbaaGreatDoor
open Go Go.RowKit

theorem digit_fin : ∀ d : Fin 16, Lib.Hx.digit d.val = hexFig d.val := by decide +kernel
theorem hexVal_fin : ∀ n : Fin 16, hexVal (hexFig n.val) = some n.val := by decide +kernel
theorem byte_fin : ∀ c : Fin 256, (match hexVal (UInt8.ofNat c.val) with | some n => decide (n < 16) && decide (Lib.Hx.v (UInt8.ofNat c.val) = n) && decide (hexFig n = UInt8.ofNat c.val) | none => true) = true := by decide +kernel
theorem hexVal_some {c : UInt8} {n : Nat} (h : hexVal c = some n) : n < 16 ∧ Lib.Hx.v c = n ∧ hexFig n = c := by
  have := byte_fin ⟨c.toNat, UInt8.toNat_lt c⟩
  rw [show UInt8.ofNat (⟨c.toNat, UInt8.toNat_lt c⟩ : Fin 256).val = c from UInt8.ofNat_toNat] at this
  rw [h] at this
  simp only [Bool.and_eq_true, decide_eq_true_eq] at this
  exact ⟨this.1.1, this.1.2, this.2⟩
theorem encode_hexB : ∀ l : Str, Lib.Hx.encode l = hexB l
  | [] => rfl
  | c :: l => by
    have hc := UInt8.toNat_lt c
    rw [Lib.Hx.encode_cons, hexB, encode_hexB l, digit_fin ⟨c.toNat / 16, by omega⟩, digit_fin ⟨c.toNat % 16, by omega⟩]
theorem unhexL_hexB : ∀ r : Str, unhexL (hexB r) = some r
  | [] => rfl
  | c :: r => by
    have hc := UInt8.toNat_lt c
    rw [hexB, unhexL, hexVal_fin ⟨c.toNat / 16, by omega⟩, hexVal_fin ⟨c.toNat % 16, by omega⟩, unhexL_hexB r]
    simp only
    rw [show 16 * (c.toNat / 16) + c.toNat % 16 = c.toNat by omega, UInt8.ofNat_toNat]
theorem unhexL_dec : ∀ (t r : Str), unhexL t = some r → hexB r = t ∧ Lib.Hx.decode t = (r, .ok)
  | [], r, h => by
    simp only [unhexL, Option.some.injEq] at h
    subst h
    exact ⟨rfl, Lib.Hx.decode_nil⟩
  | [_], r, h => by simp [unhexL] at h
  | a :: b :: t, r, h => by
    unfold unhexL at h
    split at h
    · rename_i hh ll rr h1 h2 h3
      simp only [Option.some.injEq] at h
      subst h
      obtain ⟨i1, i2⟩ := unhexL_dec t rr h3
      obtain ⟨a1, a2, a3⟩ := hexVal_some h1
      obtain ⟨b1, b2, b3⟩ := hexVal_some h2
      have hn : (UInt8.ofNat (16 * hh + ll)).toNat = 16 * hh + ll := UInt8.toNat_ofNat_of_lt' (by show _ < 256; omega)
      refine ⟨?_, ?_⟩
      · rw [hexB, hn, i1, show (16 * hh + ll) / 16 = hh by omega, show (16 * hh + ll) % 16 = ll by omega, a3, b3]
      · rw [Lib.Hx.decode_two, a2, b2, if_neg (by omega), if_neg (by omega), i2, Nat.mul_comm]
    · cases h
theorem unhex_yes {t r : Str} (hd : Lib.Hx.decode t = (r, .ok)) (h1 : ¬ (20000 : Int) < (r.length : Int)) (h2 : hexB r = t) : unhex t = (r, true) := by
  have hl := hexB_len r
  unfold unhex
  rw [if_neg (by rw [← h2, hl]; omega), ← h2, unhexL_hexB]
theorem unhex_err {t : Str} (hd : ∀ r, Lib.Hx.decode t ≠ (r, .ok)) : unhex t = ([], false) := by
  unfold unhex
  split
  · rfl
  · cases h : unhexL t with
    | none => rfl
    | some r => exact absurd (unhexL_dec t r h).2 (hd r)
theorem unhex_long {t r : Str} (hd : Lib.Hx.decode t = (r, .ok)) (h1 : (20000 : Int) < (r.length : Int)) : unhex t = ([], false) := by
  unfold unhex
  split
  · rfl
  · rename_i hl
    cases h : unhexL t with
    | none => rfl
    | some r' =>
      have := unhexL_dec t r' h
      rw [hd] at this
      have e : r = r' := (Prod.mk.inj this.2).1
      subst e
      have := unhexL_len t r h
      omega
theorem unhex_ne {t r : Str} (hd : Lib.Hx.decode t = (r, .ok)) (h1 : ¬ hexB r = t) : unhex t = ([], false) := by
  unfold unhex
  split
  · rfl
  · cases h : unhexL t with
    | none => rfl
    | some r' =>
      have := unhexL_dec t r' h
      rw [hd] at this
      have e : r = r' := (Prod.mk.inj this.2).1
      subst e
      exact absurd this.1 h1
/-- What Hex hands back. -/
def hexP (s : Str) : Str × Bool := if 20000 < (s.length : Int) then ([], false) else (hexB s, true)
theorem hexS_P (s : Str) : hexS s = (hexP s).1 := by
  unfold hexS hexP
  by_cases h : 20000 < s.length
  · rw [if_pos h, if_pos (by omega)]
  · rw [if_neg h, if_neg (by omega)]
def hexAcc : Str → Str → Str
  | [], out => out
  | c :: s, out => hexAcc s (out ++ [hexFig (c.toNat / 16), hexFig (c.toNat % 16)])
theorem hexAcc_app : ∀ (s out : Str), hexAcc s out = out ++ hexB s
  | [], out => by simp [hexAcc, hexB]
  | c :: s, out => by rw [hexAcc, hexAcc_app s, hexB]; simp
def hexV (c : UInt8) : Int := match hexVal c with | some n => (n : Int) | none => -1
theorem unhexL_step {t out : Str} {j : Nat} (h : j + 1 < t.length) : (unhexL (t.drop j)).map (out ++ ·) = if hexV (t.getD j 0) < 0 ∨ hexV (t.getD (j + 1) 0) < 0 then none else
    (unhexL (t.drop (j + 2))).map ((out ++ [UInt8.ofNat (16 * hexV (t.getD j 0) + hexV (t.getD (j + 1) 0)).toNat]) ++ ·) := by
  rw [drop_at (getD_some (d := (0 : UInt8)) (by omega : j < t.length)), drop_at (getD_some (d := (0 : UInt8)) h), unhexL]
  unfold hexV
  cases h1 : hexVal (t.getD j 0) with
  | none => simp
  | some a =>
    cases h2 : hexVal (t.getD (j + 1) 0) with
    | none => simp
    | some b =>
      rw [if_neg (by simp only; omega)]
      have e : (16 * (a : Int) + (b : Int)).toNat = 16 * a + b := by omega
      simp only [e]
      cases unhexL (t.drop (j + 2)) with
      | none => rfl
      | some r => simp
theorem unhex_some {t r : Str} (h : unhexL t = some r) (h1 : ¬ (40000 : Int) < (t.length : Int)) : unhex t = (r, true) := by
  unfold unhex
  rw [if_neg (by omega), h]
theorem unhex_none {t : Str} (h : unhexL t = none) : unhex t = ([], false) := by
  unfold unhex
  rw [h]
  split <;> rfl
theorem unhexL_odd : ∀ (t : Str), t.length % 2 = 1 → unhexL t = none
  | [], h => by simp at h
  | [_], _ => rfl
  | a :: b :: t, h => by
    unfold unhexL
    rw [unhexL_odd t (by simp only [List.length_cons] at h; omega)]
    cases hexVal a <;> cases hexVal b <;> rfl
theorem unhex_bad {t : Str} (h : (40000 : Int) < (t.length : Int) ∨ ¬ ((t.length % 2 : Nat) : Int) = 0) : unhex t = ([], false) := by
  rcases h with h | h
  · unfold unhex
    rw [if_pos (by omega)]
  · exact unhex_none (unhexL_odd t (by omega))
theorem unhex_fst {t : Str} {u : Str} (h : unhex t = (u, false)) : u = [] := by
  unfold unhex at h
  split at h
  · simp at h; exact h
  · split at h <;> simp at h
    exact h
theorem messageOf_nil {v : Str} (h : v = []) : messageOf v = [] := by subst h; rfl
theorem messageOf_one {v : Str} (h : ¬ v = []) (h2 : ((v.getD 0 0).toNat : Int) = 45) : messageOf v = (unhex (v.drop 1)).1 := by
  cases v with
  | nil => exact absurd rfl h
  | cons c t =>
    have hc : c = 45 := by
      simp only [List.getD_cons_zero] at h2
      apply UInt8.toNat.inj
      show c.toNat = 45
      omega
    unfold messageOf
    simp [hc]
theorem messageOf_no {v : Str} (h2 : ¬ ((v.getD 0 0).toNat : Int) = 45) : messageOf v = [] := by
  cases v with
  | nil => rfl
  | cons c t =>
    have hc : ¬ c = 45 := by
      intro e
      subst e
      simp at h2
    unfold messageOf
    simp [hc]
theorem prefix45 {v : Str} : prefixB v [45] = true ↔ ∃ t, v = 45 :: t := by
  unfold prefixB
  simp only [List.length_cons, List.length_nil, Bool.and_eq_true, decide_eq_true_eq]
  cases v with
  | nil => simp
  | cons c t => simp
theorem hexAcc_nil (s : Str) : hexAcc s [] = hexB s := by rw [hexAcc_app]; rfl
theorem hexP_no {s : Str} (h : ¬ (20000 : Int) < (s.length : Int)) : hexP s = (hexB s, true) := by unfold hexP; rw [if_neg h]
theorem hexP_yes {s : Str} (h : (20000 : Int) < (s.length : Int)) : hexP s = ([], false) := by unfold hexP; rw [if_pos h]
theorem hexFig_lo {k : Nat} (h : k < 10) : (hexFig k).toNat = 48 + k := by
  unfold hexFig
  rw [if_pos h, UInt8.toNat_ofNat_of_lt' (by show _ < 256; omega)]
theorem hexFig_hi {k : Nat} (h : ¬ k < 10) (h2 : k < 16) : (hexFig k).toNat = 87 + k := by
  unfold hexFig
  rw [if_neg h, UInt8.toNat_ofNat_of_lt' (by show _ < 256; omega)]
theorem hexV_a {c : UInt8} (h1 : 48 ≤ c.toNat) (h2 : c.toNat ≤ 57) : hexV c = (c.toNat : Int) - 48 := by
  unfold hexV hexVal
  rw [if_pos ⟨h1, h2⟩]
  simp only
  omega
theorem hexV_b {c : UInt8} (h1 : 97 ≤ c.toNat) (h2 : c.toNat ≤ 102) : hexV c = (c.toNat : Int) - 97 + 10 := by
  unfold hexV hexVal
  rw [if_neg (by omega), if_pos ⟨h1, h2⟩]
  simp only
  omega
theorem hexV_c {c : UInt8} (h1 : c.toNat < 48 ∨ 57 < c.toNat) (h2 : c.toNat < 97 ∨ 102 < c.toNat) : hexV c = -1 := by
  unfold hexV hexVal
  rw [if_neg (by omega), if_neg (by omega)]
theorem messageOf_cutT {v u : Str} (h : cutPre v [45] = (u, true)) : messageOf v = (unhex u).1 := by
  unfold cutPre at h
  split at h
  · rename_i hp
    obtain ⟨t, rfl⟩ := prefix45.1 hp
    simp only [Prod.mk.injEq, and_true] at h
    subst h
    rfl
  · simp at h
theorem messageOf_cutF {v u : Str} (h : cutPre v [45] = (u, false)) : messageOf v = [] := by
  unfold cutPre at h
  split at h
  · simp at h
  · rename_i hp
    cases v with
    | nil => rfl
    | cons c t =>
      unfold messageOf
      simp only
      rw [if_neg]
      intro hc
      subst hc
      exact hp (prefix45.2 ⟨t, rfl⟩)
end Go.Proofs.YthdgcbdfcclgbaaGreatDoor

set_option linter.unusedSimpArgs false
set_option linter.unusedVariables false
set_option linter.unnecessarySimpa false
namespace Go.Proofs.YthdgcbdfcclgbaaGreatDoor
open Go Go.RowKit

@[reducible] def rB (a : Option Addr) (c : Nat) (l : Str) : Res := .row (.slice a l.length c) 5 1 l.length (l.map encB)
theorem wr8u {x : Int} {c : UInt8} (h : 0 ≤ x ∧ x < 256) (hc : c = UInt8.ofNat x.toNat) : IntKind.u8.wrap x = ((c.toNat : Nat) : Int) := by
  subst hc
  refine wr8 ⟨?_, by omega, by omega⟩
  rw [UInt8.toNat_ofNat_of_lt' (by show _ < 256; omega)]
  omega
theorem setB {l : Str} {i : Nat} {c : UInt8} (h : i < l.length) : (l.map encB).take (i * 1) ++ [.int .u8 (c.toNat : Int)] ++ (l.map encB).drop (i * 1 + 1) = (l.set i c).map encB := by
  have e : ∀ q : Str, q.flatMap (fun s => [encB s]) = q.map encB := fun q => by
    induction q with
    | nil => rfl
    | cons x q ih => rw [List.flatMap_cons, ih]; rfl
  have := flat_set (enc := fun s => [encB s]) (k := 1) (fun _ => rfl) l i c h
  rw [e, e] at this
  exact this
section
variable {P : Program} {ops : Array Oper} {Q : Exit → Act → World → Prop} {n : Nat} {w0 w : World} {D : List Nat} {L : List Res} {e : Env}
variable {d : Option Tmp} {ty : TypeId} {pos : String} {aft : Array Edge} {gd : Option (Nat × Bool)}
/-- A text's bytes, copied into a row of their own. -/
theorem JO.toBytes {src dst : TypeId} {x : Operand} {s : Str} (hs : P.underlying src = some .string) (hd : P.underlying dst = some (.slice TB)) (he : P.underlying TB = some (.int .u8)) (hx : rd n e x = str s) (hm : s.length ≤ maxLen) :
    JO P n w0 D L e ⟨d, .convert src dst x, ty, pos, aft, gd⟩ (fun u L' => ∃ a c, u = .slice a s.length c ∧ L' = .row (.slice a s.length c) TB 1 s.length (s.map encB) :: L) := JO.ofRun fun w hw => by
  have hsz : (ByteArray.mk s.toArray).size = s.length := size_mk s
  have hrun := Lib.run_convert_string_bytes (P := P) w src dst TB ⟨s.toArray⟩ hs hd he
  have hge := grownCap_ge w s.length 0 TB
  have hle := grownCap_le_maxLen w s.length 0 TB hm
  have hcs : (Lib.bytesCells w TB ⟨s.toArray⟩).size = grownCap w s.length 0 TB := by
    unfold Lib.bytesCells
    rw [hsz]
    simp
    omega
  have hcl : (Lib.bytesCells w TB ⟨s.toArray⟩).toList.take s.length = s.map encB := by
    unfold Lib.bytesCells
    simp only [Array.toList_append, Array.toList_map]
    rw [List.take_append_of_le_length (by simp), List.take_of_length_le (by simp)]
  refine ⟨_, .row (.slice (some ⟨w.heap.size, 0, none⟩) s.length (grownCap w s.length 0 TB)) TB 1 s.length (s.map encB) :: L, Lib.bytesWorld w TB ⟨s.toArray⟩, ?_, ⟨_, _, rfl, rfl⟩, ?_⟩
  · simp only [execOp, hx, str, Sem.run_bind, hrun, Result.andThen_ok, hsz]
    rfl
  · refine hw.turn (A := []) (A' := [.row (.slice (some ⟨w.heap.size, 0, none⟩) s.length (grownCap w s.length 0 TB)) TB 1 s.length (s.map encB)]) (F := L) (List.Perm.refl _) rfl rfl rfl (by rw [Lib.bytesWorld_size]; omega)
      (fun k hk _ => Lib.bytesWorld_at_old w _ _ k hk) ?_ (by simp [idsOf, Res.ids, Value.ownBlock]) ?_
    · intro r hr
      simp only [List.mem_singleton] at hr
      subst hr
      refine ⟨by simp, .inr ⟨w.heap.size, _, _, rfl, Nat.zero_le _, ⟨_, Lib.bytesWorld_at_new w TB ⟨s.toArray⟩, .inr ⟨Nat.le_refl _, rfl⟩⟩, hge, hle, by rw [hcs, Nat.mul_one], by rw [Nat.mul_one]; exact hcl⟩⟩
    · intro i hi
      simp only [idsOf, Res.ids, Value.ownBlock, List.flatMap_cons, List.flatMap_nil, List.append_nil, Option.mem_toList, Option.some.injEq] at hi
      exact .inr (by omega)
end

theorem N_hexEnc (a : Option Addr) (c : Nat) (l : Str) (hl : l.length ≤ 1000000000000) : Ct Tryz.prog 181 [.slice a l.length c] [] (fun w => Sees w (.slice a l.length c) 1 l.length (l.map encB)) (fun v A' => v = str (hexB l) ∧ A' = []) := fun w hA hs => by
  obtain ⟨hlen, hs⟩ := hs
  rcases hs with ⟨hv, h0⟩ | ⟨b, o, cap, hv, h1, h2, h3, h4⟩
  · have hl0 : l = [] := List.length_eq_zero_iff.1 h0
    subst hl0
    simp only [Value.slice.injEq] at hv
    obtain ⟨rfl, _, rfl⟩ := hv
    refine (Tryz.hex_EncodeToString_nil w).mono fun e w' h => ?_
    obtain ⟨rfl, hb⟩ := h
    exact ⟨_, [], rfl, ⟨rfl, rfl⟩, hA.below hb⟩
  · simp only [Value.slice.injEq] at hv
    obtain ⟨rfl, _, rfl⟩ := hv
    refine (Tryz.hex_EncodeToString_bytes b o c l w (fun i hi => ?_) h3 (by omega)).mono fun e w' h => ?_
    · exact h4 i _ (by rw [List.getElem?_map, List.getElem?_eq_getElem hi]; rfl)
    · obtain ⟨rfl, hb⟩ := h
      exact ⟨_, [], rfl, ⟨by rw [encode_hexB]; rfl, rfl⟩, hA.below hb⟩
/-- What DecodeString hands back. -/
def decPost (t : Str) (v : Value) (A' : List Res) : Prop := ∃ a c, ∃ r : Str, ((Lib.Hx.decode t = (r, .ok) ∧ v = .tuple #[.slice a r.length c, .nilIface]) ∨ ((∀ r, Lib.Hx.decode t ≠ (r, .ok)) ∧ ∃ te pe, v = .tuple #[.slice a r.length c, .iface te pe])) ∧ A' = [rB a c r]
theorem N_hexDec (t : Str) (ht : t.length ≤ 1000000000000) : Ct Tryz.prog 192 [str t] [] (fun w => HexOk w) (fun v A' => decPost t v A') := fun w hA hx => by
  obtain ⟨tp, p, hE⟩ := hx.cell
  have hl : (ByteArray.mk t.toArray).data.toList = t := by simp
  refine (Tryz.hex_DecodeString_owns ⟨t.toArray⟩ w _ hE (by rw [size_mk]; omega)).mono fun e w' h => ?_
  rw [hl] at h
  obtain ⟨v, rfl, hown, hb⟩ := h
  generalize hd : Lib.Hx.decode t = q at hown
  obtain ⟨r, o⟩ := q
  simp only at hown
  have hvs : ∃ a c, v = .slice a r.length c := by
    rcases hown.2 with ⟨hv, h0⟩ | ⟨g, cap, cur, hv, _⟩
    · exact ⟨none, 0, by rw [hv, h0]⟩
    · exact ⟨_, _, hv⟩
  obtain ⟨a, c, rfl⟩ := hvs
  have hst : St w (idsOf []) [rB a c r] w' := by
    refine (St.start hA).turn (A := []) (A' := [rB a c r]) (F := []) (List.Perm.refl _) hb.os hb.tape hb.output hb.size (fun k hk _ => hb.block k hk) ?_ ?_ ?_
    · intro x hx'
      simp only [List.mem_singleton] at hx'
      subst hx'
      have h1 := World.ownsR.of hown
      refine ⟨h1.1, ?_⟩
      rcases h1.2 with h | ⟨g, cap, cur, hv, _, rest⟩
      · exact .inl h
      · exact .inr ⟨g, cap, cur, hv, Nat.zero_le _, rest⟩
    · simp only [idsOf, Res.ids, List.flatMap_cons, List.flatMap_nil, List.append_nil]
      cases (Value.slice a r.length c).ownBlock <;> simp
    · intro i hi
      simp only [idsOf, Res.ids, List.flatMap_cons, List.flatMap_nil, List.append_nil, Option.mem_toList] at hi
      exact .inr (World.ownsRow.lt hown i hi).1
  refine ⟨_, _, rfl, ⟨a, c, r, ?_, rfl⟩, hst⟩
  cases o with
  | ok => exact .inl ⟨hd, rfl⟩
  | bad q => exact .inr ⟨fun r' h => by rw [hd] at h; simp at h, _, _, rfl⟩
  | odd => exact .inr ⟨fun r' h => by rw [hd] at h; simp at h, _, _, rfl⟩
end Go.Proofs.YthdgcbdfcclgbaaGreatDoor

set_option linter.unusedSimpArgs false
set_option linter.unusedVariables false
set_option linter.unnecessarySimpa false
namespace Go.Proofs.YthdgcbdfcclgbaaGreatDoor
open Go Go.RowKit
attribute [local irreducible] JL JC JQ JO LO PO JA JX Ct

theorem N_figure (k : Nat) (h : k < 16) :
    Ct Tryz.prog 150 [.int .i64 ((k : Nat) : Int)] [] (fun _ => True) (fun v A' => v = .int .u8 (((hexFig k).toNat : Nat) : Int) ∧ A' = []) := by
  refine Ct.intro Tryz.func150 rfl Tryz.ntmps150 (lb rfl) fun w0 hpre => ?_
  refine jD <| jF <| jA (jG (v := .int .u8 0) rfl) <| jE <| jB <| jD <| jD <| jF <| jA (jC (v := nv k) rfl) <| jA (js rfl rfl) ?_
  refine jE <| jB ?_
  by_cases h_1 : ((k : Nat) : Int) < 10
  · refine jR (cB (dT h_1)) <| jD <| jF <| jA (jC (v := nv k) rfl) <| jA (jg (c := ((48 + k : Nat) : Int)) rfl rfl (wr (by omega))) <| jA (PO.convI (c := (((UInt8.ofNat (48 + k)).toNat : Nat) : Int)) kr kk rfl (wr8u (c := UInt8.ofNat (48 + k)) (by omega) (by rw [Int.toNat_natCast]))) <| jA (jG (v := .int .u8 (((UInt8.ofNat (48 + k)).toNat : Nat) : Int)) rfl) <| jE <| jB <| jM ?_
    refine jX <| jV (.inl rfl) rfl (jN (v := .int .u8 (((UInt8.ofNat (48 + k)).toNat : Nat) : Int)) rfl) (List.nil_sublist _) ?_
    refine ⟨?_, rfl⟩
    exact congrArg (fun q : Nat => Value.int .u8 (q : Int)) (by first | (rw [hexFig_lo (by omega), UInt8.toNat_ofNat_of_lt' (by show _ < 256; omega)]) | (rw [hexFig_hi (by omega) (by omega), UInt8.toNat_ofNat_of_lt' (by show _ < 256; omega)]; omega))
  refine jQ (cB (dF h_1)) <| jU <| jB <| jD <| jF <| jA (jC (v := nv k) rfl) <| jA (jg (c := ((97 + k : Nat) : Int)) rfl rfl (wr (by omega))) <| jA (kR (c := ((97 + k : Nat) : Int) - 10) rfl rfl (wr (by omega))) <| jA (PO.convI (c := (((UInt8.ofNat (((97 + k : Nat) : Int) - 10).toNat).toNat : Nat) : Int)) kr kk rfl (wr8u (by omega) rfl)) <| jA (jG (v := .int .u8 (((UInt8.ofNat (((97 + k : Nat) : Int) - 10).toNat).toNat : Nat) : Int)) rfl) ?_
  refine jE <| jB <| jM <| jV (.inl rfl) rfl (jN (v := .int .u8 (((UInt8.ofNat (((97 + k : Nat) : Int) - 10).toNat).toNat : Nat) : Int)) rfl) (List.nil_sublist _) ?_
  refine ⟨?_, rfl⟩
  exact congrArg (fun q : Nat => Value.int .u8 (q : Int)) (by first | (rw [hexFig_lo (by omega), UInt8.toNat_ofNat_of_lt' (by show _ < 256; omega)]) | (rw [hexFig_hi (by omega) (by omega), UInt8.toNat_ofNat_of_lt' (by show _ < 256; omega)]; omega))

theorem N_value (c : UInt8) :
    Ct Tryz.prog 152 [.int .u8 ((c.toNat : Nat) : Int)] [] (fun _ => True) (fun v A' => ∃ r0, hexV c = r0 ∧ (-1 ≤ r0 ∧ r0 ≤ 15) ∧ v = .int .i64 r0 ∧ A' = []) := by
  have hc8 := UInt8.toNat_lt c
  refine Ct.intro Tryz.func152 rfl Tryz.ntmps152 (lb rfl) fun w0 hpre => ?_
  refine jD <| jF <| jA (jG (v := iv 0) rfl) <| jE <| jB <| jD <| jD <| jF <| jA (jC (v := .int .u8 ((c.toNat : Nat) : Int)) rfl) <| jA (kT rfl rfl) ?_
  refine jA (jC (v := .bool (decide (48 ≤ ((c.toNat : Nat) : Int)))) rfl) ?_
  by_cases h_1 : 48 ≤ ((c.toNat : Nat) : Int)
  · refine jb rfl rfl rfl (cB (dT h_1)) (ja (jd (jC (v := .int .u8 ((c.toNat : Nat) : Int)) rfl))) ?_
    rintro _ _ ⟨rfl, rfl⟩
    refine jb rfl rfl rfl (cB (dT h_1)) (ja (jd (PO.leq rfl rfl))) ?_
    rintro _ _ ⟨rfl, rfl⟩
    refine jA (jx (v := .bool (decide (((c.toNat : Nat) : Int) ≤ 57))) (cB (dT h_1)) rfl) <| jE <| jB ?_
    by_cases h_2 : ((c.toNat : Nat) : Int) ≤ 57
    · refine jR (cB (dT h_2)) <| jD <| jF <| jA (jC (v := .int .u8 ((c.toNat : Nat) : Int)) rfl) <| jA (PO.convI (c := ((c.toNat : Nat) : Int)) kk kr rfl (wr (by omega))) <| jA (kR (c := ((c.toNat : Nat) : Int) - 48) rfl rfl (wr (by omega))) <| jA (jG (v := iv (((c.toNat : Nat) : Int) - 48)) rfl) <| jE <| jB <| jM ?_
      refine jX <| jV (.inl rfl) rfl (jN (v := iv (((c.toNat : Nat) : Int) - 48)) rfl) (List.nil_sublist _) ?_
      refine ⟨_, ?_, ?_, rfl, rfl⟩
      · first | exact hexV_a (by omega) (by omega) | exact hexV_b (by omega) (by omega) | exact hexV_c (by omega) (by omega)
      omega
    refine jQ (cB (dF h_2)) <| jU <| jB <| jD <| jD <| jF <| jA (jC (v := .int .u8 ((c.toNat : Nat) : Int)) rfl) <| jA (kT rfl rfl) <| jA (jC (v := .bool (decide (97 ≤ ((c.toNat : Nat) : Int)))) rfl) ?_
    by_cases h_3 : 97 ≤ ((c.toNat : Nat) : Int)
    · refine jb rfl rfl rfl (cB (dT h_3)) (ja (jd (jC (v := .int .u8 ((c.toNat : Nat) : Int)) rfl))) ?_
      rintro _ _ ⟨rfl, rfl⟩
      refine jb rfl rfl rfl (cB (dT h_3)) (ja (jd (PO.leq rfl rfl))) ?_
      rintro _ _ ⟨rfl, rfl⟩
      refine jA (jx (v := .bool (decide (((c.toNat : Nat) : Int) ≤ 102))) (cB (dT h_3)) rfl) <| jE <| jB ?_
      by_cases h_4 : ((c.toNat : Nat) : Int) ≤ 102
      · refine jR (cB (dT h_4)) <| jD <| jF <| jA (jC (v := .int .u8 ((c.toNat : Nat) : Int)) rfl) <| jA (PO.convI (c := ((c.toNat : Nat) : Int)) kk kr rfl (wr (by omega))) <| jA (kR (c := ((c.toNat : Nat) : Int) - 97) rfl rfl (wr (by omega))) <| jA (jg (c := (((c.toNat : Nat) : Int) - 97) + 10) rfl rfl (wr (by omega))) <| jA (jG (v := iv ((((c.toNat : Nat) : Int) - 97) + 10)) rfl) <| jE <| jB ?_
        refine jM <| jX <| jV (.inl rfl) rfl (jN (v := iv ((((c.toNat : Nat) : Int) - 97) + 10)) rfl) (List.nil_sublist _) ?_
        refine ⟨_, ?_, ?_, rfl, rfl⟩
        · first | exact hexV_a (by omega) (by omega) | exact hexV_b (by omega) (by omega) | exact hexV_c (by omega) (by omega)
        omega
      refine jQ (cB (dF h_4)) <| jU <| jB <| jD <| jF <| jA (jG (v := iv (-1)) rfl) <| jE <| jB <| jM <| jV (.inl rfl) rfl (jN (v := iv (-1)) rfl) (List.nil_sublist _) ?_
      refine ⟨_, ?_, ?_, rfl, rfl⟩
      · first | exact hexV_a (by omega) (by omega) | exact hexV_b (by omega) (by omega) | exact hexV_c (by omega) (by omega)
      omega
    refine jY (b := false) rfl rfl rfl (cB (dF h_3)) <| jY (b := false) rfl rfl rfl (cB (dF h_3)) <| jA (jw (v := .bool false) (cB (dF h_3)) rfl) <| jE <| jB <| jQ (cB rfl) <| jU <| jB <| jD <| jF ?_
    refine jA (jG (v := iv (-1)) rfl) <| jE <| jB <| jM <| jV (.inl rfl) rfl (jN (v := iv (-1)) rfl) (List.nil_sublist _) ?_
    refine ⟨_, ?_, ?_, rfl, rfl⟩
    · first | exact hexV_a (by omega) (by omega) | exact hexV_b (by omega) (by omega) | exact hexV_c (by omega) (by omega)
    omega
  refine jY (b := false) rfl rfl rfl (cB (dF h_1)) <| jY (b := false) rfl rfl rfl (cB (dF h_1)) <| jA (jw (v := .bool false) (cB (dF h_1)) rfl) <| jE <| jB <| jQ (cB rfl) <| jU <| jB <| jD <| jD ?_
  refine jF <| jA (jC (v := .int .u8 ((c.toNat : Nat) : Int)) rfl) <| jA (kT rfl rfl) <| jA (jC (v := .bool (decide (97 ≤ ((c.toNat : Nat) : Int)))) rfl) ?_
  by_cases h_5 : 97 ≤ ((c.toNat : Nat) : Int)
  · refine jb rfl rfl rfl (cB (dT h_5)) (ja (jd (jC (v := .int .u8 ((c.toNat : Nat) : Int)) rfl))) ?_
    rintro _ _ ⟨rfl, rfl⟩
    refine jb rfl rfl rfl (cB (dT h_5)) (ja (jd (PO.leq rfl rfl))) ?_
    rintro _ _ ⟨rfl, rfl⟩
    refine jA (jx (v := .bool (decide (((c.toNat : Nat) : Int) ≤ 102))) (cB (dT h_5)) rfl) <| jE <| jB ?_
    by_cases h_6 : ((c.toNat : Nat) : Int) ≤ 102
    · refine jR (cB (dT h_6)) <| jD <| jF <| jA (jC (v := .int .u8 ((c.toNat : Nat) : Int)) rfl) <| jA (PO.convI (c := ((c.toNat : Nat) : Int)) kk kr rfl (wr (by omega))) <| jA (kR (c := ((c.toNat : Nat) : Int) - 97) rfl rfl (wr (by omega))) <| jA (jg (c := (((c.toNat : Nat) : Int) - 97) + 10) rfl rfl (wr (by omega))) <| jA (jG (v := iv ((((c.toNat : Nat) : Int) - 97) + 10)) rfl) <| jE <| jB ?_
      refine jM <| jX <| jV (.inl rfl) rfl (jN (v := iv ((((c.toNat : Nat) : Int) - 97) + 10)) rfl) (List.nil_sublist _) ?_
      refine ⟨_, ?_, ?_, rfl, rfl⟩
      · first | exact hexV_a (by omega) (by omega) | exact hexV_b (by omega) (by omega) | exact hexV_c (by omega) (by omega)
      omega
    refine jQ (cB (dF h_6)) <| jU <| jB <| jD <| jF <| jA (jG (v := iv (-1)) rfl) <| jE <| jB <| jM <| jV (.inl rfl) rfl (jN (v := iv (-1)) rfl) (List.nil_sublist _) ?_
    refine ⟨_, ?_, ?_, rfl, rfl⟩
    · first | exact hexV_a (by omega) (by omega) | exact hexV_b (by omega) (by omega) | exact hexV_c (by omega) (by omega)
    omega
  refine jY (b := false) rfl rfl rfl (cB (dF h_5)) <| jY (b := false) rfl rfl rfl (cB (dF h_5)) <| jA (jw (v := .bool false) (cB (dF h_5)) rfl) <| jE <| jB <| jQ (cB rfl) <| jU <| jB <| jD <| jF ?_
  refine jA (jG (v := iv (-1)) rfl) <| jE <| jB <| jM <| jV (.inl rfl) rfl (jN (v := iv (-1)) rfl) (List.nil_sublist _) ?_
  refine ⟨_, ?_, ?_, rfl, rfl⟩
  · first | exact hexV_a (by omega) (by omega) | exact hexV_b (by omega) (by omega) | exact hexV_c (by omega) (by omega)
  omega

theorem N_sHex (s : Str) (hs : s.length ≤ 1000000000000) :
    Ct Tryz.prog 100 [str s] ([]) (fun _ => True) (fun v A' => ∃ r0 r1, hexP s = (r0, r1) ∧ r0.length ≤ 40000 ∧ v = .tuple #[str r0, .bool r1] ∧ A' = []) := by
  refine Ct.intro Tryz.func100 rfl Tryz.ntmps100 (lb rfl) fun w0 hpre => ?_
  refine jD <| jF <| jA (jG (v := str []) rfl) <| jA (jG (v := .bool false) rfl) <| jE <| jB <| jD <| jD <| jF <| jA (jC (v := str s) rfl) ?_
  refine jA (kJ kY rfl) <| jA (kS rfl rfl) <| jE <| jB ?_
  by_cases h_1 : 20000 < (s.length : Int)
  · refine jR (cB (dT h_1)) <| jD <| jF <| jA (jG (v := str []) rfl) <| jA (jG (v := .bool false) rfl) <| jE <| jB <| jM <| jX <| jj (.inl rfl) rfl (jN (v := str []) rfl) (jN (v := .bool false) rfl) (List.nil_sublist _) ?_
    exact ⟨[], false, (by first | exact hexP_yes (by assumption) | (rw [hexP_no (by assumption), ← hexAcc_nil, hE])), (by first | omega | (simp only [LE]; omega)), rfl, rfl⟩
  refine jQ (cB (dF h_1)) <| jU <| jB <| jD <| jF ?_
  refine jH rfl (kI (ps := []) (cur := #[]) ki kq kw rfl (by kernel_rfl) (by decide) (by decide)) ?_
  rintro _ _ ⟨a_2, rfl, rfl⟩
  refine jA (jG (v := .slice a_2 0 0) rfl) <| jE <| jB <| jD <| jD <| jF <| jA (jG (v := iv 0) rfl) <| jE <| jB <| jm ?_
  refine kE (fun k_ e_ L_ => ∃ j : Nat, ∃ out_a : Option Addr, ∃ out_c : Nat, ∃ out_ : Str, (j ≤ s.length) ∧ (out_.length ≤ 2 * j) ∧ (hexAcc (s.drop j) out_ = hexAcc s ([] : List UInt8)) ∧ e_ 0 = str s ∧ e_ 2 = str [] ∧ e_ 3 = .bool false ∧ e_ 4 = .slice out_a out_.length out_c ∧ e_ 5 = nv j ∧ L_ = [Res.row (.slice out_a out_.length out_c) 5 1 out_.length (out_.map encB)] ∧ k_ = s.length - j) _ ⟨0, a_2, 0, ([] : List UInt8), by omega, (by first | omega | (simp only [LE]; omega)), rfl, rfl, rfl, rfl, rfl, rfl, rfl, rfl⟩ ?_
  rintro _ e_3 _ ⟨j, out_a, out_c, out_, hj, ho, hR, he_4, he_5, he_6, he_7, he_8, rfl, rfl⟩
  refine jD <| jD <| jF <| jA (jC (v := nv j) he_8) <| jA (jC (v := str s) he_4) <| jA (kJ kY rfl) <| jA (js rfl rfl) <| jE <| jB ?_
  by_cases h_9 : ((j : Nat) : Int) < (s.length : Int)
  · have hlt : j < s.length := by omega
    have hu8 := UInt8.toNat_lt (s.getD j 0)
    refine jR (cB (dT h_9)) <| jU <| jB <| jD <| jm <| jq [] 15 mixed (by simp) <| jK 0 rfl (jC (v := .slice out_a out_.length out_c) he_7) <| jK 1 rfl (jC (v := str s) he_4) <| jK 2 rfl (jC (v := nv j) he_8) <| jK 3 rfl (PO.indexS (i := j) (c := s.getD j 0) kY rfl rfl (getD_some (by omega))) ?_
    refine jK 4 rfl (PO.convI (c := ((s.getD j 0).toNat : Int)) kk kr rfl (wr (by omega))) <| jK 5 rfl (PO.quoN (c := ((((s.getD j 0).toNat) / 16 : Nat) : Int)) rfl rfl (by omega) (by omega) (by omega) (wr (by omega))) <| jK 7 rfl (jC (v := str s) he_4) <| jK 8 rfl (jC (v := nv j) he_8) <| jK 9 rfl (PO.indexS (i := j) (c := s.getD j 0) kY rfl rfl (getD_some (by omega))) <| jK 10 rfl (PO.convI (c := ((s.getD j 0).toNat : Int)) kk kr rfl (wr (by omega))) <| jK 11 rfl (PO.remN (c := ((((s.getD j 0).toNat) % 16 : Nat) : Int)) rfl rfl (by omega) (by omega) (by omega)) <| jL (i := 6) ?_
    refine jO rfl rfl (jI [] Tryz.call150 rfl (N_figure (((s.getD j 0).toNat) / 16) (by omega)) rfl (fun _ _ => trivial)) ?_
    rintro _ _ ⟨_, ⟨rfl, rfl⟩, rfl⟩
    refine ⟨(fun _ h => by cases h), ?_⟩
    refine jL (i := 12) ?_
    refine jO rfl rfl (jI [] Tryz.call150 rfl (N_figure (((s.getD j 0).toNat) % 16) (by omega)) rfl (fun _ _ => trivial)) ?_
    rintro _ _ ⟨_, ⟨rfl, rfl⟩, rfl⟩
    refine ⟨(fun _ h => by cases h), ?_⟩
    refine jL (i := 13) ?_
    refine jO rfl rfl (kI (ps := [(0, .int .u8 (((hexFig (((s.getD j 0).toNat) / 16)).toNat : Nat) : Int)), (1, .int .u8 (((hexFig (((s.getD j 0).toNat) % 16)).toNat : Nat) : Int))]) (cur := #[.int .u8 (((hexFig (((s.getD j 0).toNat) / 16)).toNat : Nat) : Int), .int .u8 (((hexFig (((s.getD j 0).toNat) % 16)).toNat : Nat) : Int)]) ki kq kw rfl (by kernel_rfl) (by decide) (by decide)) ?_
    rintro _ _ ⟨a_11, rfl, rfl⟩
    refine ⟨(fun _ h => by cases h), ?_⟩
    refine jL (i := 14) ?_
    refine jO rfl rfl (kF 1 (q := 2) (news := ([hexFig (((s.getD j 0).toNat) / 16), hexFig (((s.getD j 0).toNat) % 16)] : List UInt8).map encB) (n' := (out_ ++ ([hexFig (((s.getD j 0).toNat) / 16), hexFig (((s.getD j 0).toNat) % 16)] : List UInt8)).length) (cs' := (out_ ++ ([hexFig (((s.getD j 0).toNat) / 16), hexFig (((s.getD j 0).toNat) % 16)] : List UInt8)).map encB) rfl ki ki Tryz.typeInfo5 rfl (by' := 1) rfl rfl rfl rfl rfl (fun w hw => Src.sees (hw.see (i := 0) rfl) (oneB _)) (by (try simp only [LE]); omega) (by (try simp only [LE]); omega) (by simp only [List.length_append, List.length_take, List.length_drop, List.length_cons, List.length_nil] <;> first | rfl | omega) (by simp only [List.map_append])) ?_
    rintro _ _ ⟨a_14, c_15, rfl, rfl⟩
    refine ⟨(fun _ h => by cases h), ?_⟩
    refine jK 15 rfl (jG (v := .slice a_14 ((out_ ++ ([hexFig (((s.getD j 0).toNat) / 16), hexFig (((s.getD j 0).toNat) % 16)] : List UInt8)).length) c_15) rfl) <| kG (by kernel_rfl) <| jk <| jB <| jF <| jA (jC (v := nv j) he_8) <| jA (jg (c := ((j + 1 : Nat) : Int)) rfl rfl (wr (by omega))) <| jA (jG (v := iv ((j + 1 : Nat) : Int)) rfl) <| jE <| jr [1] (A := [Res.row (.slice a_14 ((out_ ++ ([hexFig (((s.getD j 0).toNat) / 16), hexFig (((s.getD j 0).toNat) % 16)] : List UInt8)).length) c_15) 5 1 ((out_ ++ ([hexFig (((s.getD j 0).toNat) / 16), hexFig (((s.getD j 0).toNat) % 16)] : List UInt8)).length) ((out_ ++ ([hexFig (((s.getD j 0).toNat) / 16), hexFig (((s.getD j 0).toNat) % 16)] : List UInt8)).map encB)]) rfl ?_
    refine jt (s.length - (j + 1)) (by omega) ⟨j + 1, a_14, c_15, (out_ ++ ([hexFig (((s.getD j 0).toNat) / 16), hexFig (((s.getD j 0).toNat) % 16)] : List UInt8)), by omega, (by first | omega | (simp only [LE]; omega)), (by rw [drop_at (getD_some (d := 0) hlt)] at hR; simp only [hexAcc, h_1, h_9, SB] at hR; (repeat (first | rw [if_pos (by omega)] at hR | rw [if_neg (by omega)] at hR)); exact hR), he_4, he_5, he_6, rfl, rfl, rfl, rfl⟩
  rw [List.drop_of_length_le (by omega)] at hR
  simp only [hexAcc] at hR
  have hE := hR.symm
  refine jQ (cB (dF h_9)) <| kB <| jn <| jn <| kC <| jB <| jD <| jF <| jA (jC (v := .slice out_a out_.length out_c) he_7) <| jT (LO.toStr 0 out_ rfl ki kk kY rfl rfl) ?_
  refine jA (jG (v := str out_) rfl) <| jA (jG (v := .bool true) rfl) <| jE <| jB <| jM <| jj (.inl rfl) rfl (jN (v := str out_) rfl) (jN (v := .bool true) rfl) (List.nil_sublist _) ?_
  exact ⟨out_, true, (by first | exact hexP_yes (by assumption) | (rw [hexP_no (by assumption), ← hexAcc_nil, hE])), (by first | omega | (simp only [LE]; omega)), rfl, rfl⟩

theorem N_hex (s : Str) (hs : s.length ≤ 1000000000000) :
    Ct Tryz.prog 162 [str s] ([]) (fun _ => True) (fun v A' => ∃ r0 r1, hexP s = (r0, r1) ∧ r0.length ≤ 40000 ∧ v = .tuple #[str r0, .bool r1] ∧ A' = []) := by
  refine Ct.intro Tryz.func162 rfl Tryz.ntmps162 (lb rfl) fun w0 hpre => ?_
  refine jD <| jF <| jA (jG (v := str []) rfl) <| jA (jG (v := .bool false) rfl) <| jE <| jB <| jD <| jD <| jF <| jA (jC (v := str s) rfl) ?_
  refine jA (kJ kY rfl) <| jA (kS rfl rfl) <| jE <| jB ?_
  by_cases h_1 : 20000 < (s.length : Int)
  · refine jR (cB (dT h_1)) <| jD <| jF <| jA (jG (v := str []) rfl) <| jA (jG (v := .bool false) rfl) <| jE <| jB <| jM <| jX <| jj (.inl rfl) rfl (jN (v := str []) rfl) (jN (v := .bool false) rfl) (List.nil_sublist _) ?_
    exact ⟨[], false, (by first | exact hexP_yes (by assumption) | exact hexP_no (by assumption)), (by first | (rw [hexB_len]; omega) | (simp only [List.length_nil]; omega)), rfl, rfl⟩
  refine jQ (cB (dF h_1)) <| jU <| jB <| jD <| jF <| jA (jC (v := str s) rfl) ?_
  refine jH rfl (JO.toBytes kY ki kk rfl (by unfold maxLen; omega)) ?_
  rintro _ _ ⟨a_2, c_3, rfl, rfl⟩
  refine jH rfl (jI [] Tryz.call181 rfl (N_hexEnc a_2 c_3 s (by omega)) rfl (fun w hw => hw.see (i := 0) rfl)) ?_
  rintro _ _ ⟨_, ⟨rfl, rfl⟩, rfl⟩
  refine jA (jG (v := str (hexB s)) rfl) <| jA (jG (v := .bool true) rfl) <| jE <| jB <| jM <| jj (.inl rfl) rfl (jN (v := str (hexB s)) rfl) (jN (v := .bool true) rfl) (List.nil_sublist _) ?_
  exact ⟨(hexB s), true, (by first | exact hexP_yes (by assumption) | exact hexP_no (by assumption)), (by first | (rw [hexB_len]; omega) | (simp only [List.length_nil]; omega)), rfl, rfl⟩

theorem N_hexOf (s : Str) (hs : s.length ≤ 1000000000000) :
    Ct Tryz.prog 136 [str s] ([]) (fun _ => True) (fun v A' => ∃ r0, hexS s = r0 ∧ r0.length ≤ 40000 ∧ v = str r0 ∧ A' = []) := by
  refine Ct.intro Tryz.func136 rfl Tryz.ntmps136 (lb rfl) fun w0 hpre => ?_
  refine jD <| jF <| jA (jG (v := str []) rfl) <| jE <| jB <| jD <| jF <| jA (jC (v := str s) rfl) ?_
  refine jH rfl (jI [] Tryz.call162 rfl (N_hex s (by omega)) rfl (fun _ _ => trivial)) ?_
  rintro _ _ ⟨_, ⟨u_3, b_5, e_1, f_4, rfl, rfl⟩, rfl⟩
  refine jA (jC (v := .tuple #[str u_3, .bool b_5]) rfl) <| jA (jS (v := str u_3) rfl rfl) <| jA (jS (v := .bool b_5) rfl rfl) <| jA (jG (v := str u_3) rfl) <| jA (jG (v := .bool b_5) rfl) <| jE <| jB <| jD <| jF <| jA (jC (v := str u_3) rfl) ?_
  refine jA (jG (v := str u_3) rfl) <| jE <| jB <| jM <| jV (.inl rfl) rfl (jN (v := str u_3) rfl) (List.nil_sublist _) ?_
  exact ⟨u_3, (by simp only [hexS_P, e_1, SB]; (repeat (first | rw [if_pos (by omega)] | rw [if_neg (by omega)])); all_goals (first | rfl | simp only [SB, e_1])), (by first | omega | (simp only [LE]; omega)), rfl, rfl⟩

theorem N_unhex (t : Str) (ht : t.length ≤ 1000000000000) :
    Ct Tryz.prog 180 [str t] ([]) (fun w => HexOk w) (fun v A' => ∃ r0 r1, unhex t = (r0, r1) ∧ r0.length ≤ 20000 ∧ v = .tuple #[str r0, .bool r1] ∧ A' = []) := by
  refine Ct.introL Tryz.func180 rfl Tryz.ntmps180 (lb rfl) fun w0 hpre hlow => ?_
  refine jD <| jF <| jA (jG (v := str []) rfl) <| jA (jG (v := .bool false) rfl) <| jE <| jB <| jD <| jF <| jA (jC (v := str t) rfl) ?_
  refine jH rfl (jI [] Tryz.call192 rfl (N_hexDec t (by omega)) rfl (fun w hw => hw.hex hlow hpre)) ?_
  rintro _ _ ⟨_, ⟨da, dc, dr, ⟨hd, rfl⟩ | ⟨hd, te, pe, rfl⟩, rfl⟩, rfl⟩
  · refine jA (jC (v := .tuple #[.slice da dr.length dc, .nilIface]) rfl) <| jA (jS (v := .slice da dr.length dc) rfl rfl) <| jA (jS (v := .nilIface) rfl rfl) <| jA (jG (v := .slice da dr.length dc) rfl) <| jA (jG (v := .nilIface) rfl) <| jE <| jB <| jD <| jD <| jF ?_
    refine jA (jC (v := .nilIface) rfl) <| jA (PO.neqIfN Tryz.underlying162 rfl rfl) <| jA (jC (v := .bool false) rfl) <| jb rfl rfl rfl (cB rfl) (ja (jd (jC (v := .slice da dr.length dc) rfl))) ?_
    rintro _ _ ⟨rfl, rfl⟩
    refine jb rfl rfl rfl (cB rfl) (ja (jd (kK ki rfl))) ?_
    rintro _ _ ⟨rfl, rfl⟩
    refine jb rfl rfl rfl (cB rfl) (ja (jd (kS rfl rfl))) ?_
    rintro _ _ ⟨rfl, rfl⟩
    refine jA (jw (v := .bool (decide (20000 < ((dr.length : Nat) : Int)))) (cB rfl) rfl) <| jA (jC (v := .bool (decide (20000 < ((dr.length : Nat) : Int)))) rfl) ?_
    by_cases h_1 : 20000 < ((dr.length : Nat) : Int)
    · refine jY (b := true) rfl rfl rfl (cB (dT h_1)) <| jY (b := true) rfl rfl rfl (cB (dT h_1)) <| jY (b := true) rfl rfl rfl (cB (dT h_1)) <| jY (b := true) rfl rfl rfl (cB (dT h_1)) <| jA (jx (v := .bool true) (cB (dT h_1)) rfl) <| jE <| jB <| jR (cB rfl) <| jD <| jF ?_
      refine jA (jG (v := str []) rfl) <| jA (jG (v := .bool false) rfl) <| jE <| jB <| jM <| jX <| jj (.inl rfl) rfl (jN (v := str []) rfl) (jN (v := .bool false) rfl) (List.nil_sublist _) ?_
      exact ⟨[], false, (by first | exact unhex_err hd | exact unhex_long hd (by assumption) | exact unhex_ne hd (by assumption) | exact unhex_yes hd (by assumption) (by assumption)), (by first | omega | (simp only [LE]; omega)), rfl, rfl⟩
    refine jb rfl rfl rfl (cB (dF h_1)) (ja (jd (jC (v := .slice da dr.length dc) rfl))) ?_
    rintro _ _ ⟨rfl, rfl⟩
    refine jb rfl rfl rfl (cB (dF h_1)) (jI [] Tryz.call181 rfl (N_hexEnc da dc dr (by omega)) rfl (fun w hw => hw.see (i := 0) rfl)) ?_
    rintro _ _ ⟨_, ⟨rfl, rfl⟩, rfl⟩
    refine jb rfl rfl rfl (cB (dF h_1)) (ja (jd (jC (v := str t) rfl))) ?_
    rintro _ _ ⟨rfl, rfl⟩
    refine jb rfl rfl rfl (cB (dF h_1)) (ja (jd (PO.neqS rfl rfl))) ?_
    rintro _ _ ⟨rfl, rfl⟩
    refine jA (jw (v := .bool (!(decide ((hexB dr) = t)))) (cB (dF h_1)) rfl) <| jE <| jB ?_
    by_cases h_2 : (hexB dr) = t
    · refine jQ (cB (cN (dT h_2))) <| jU <| jB <| jD <| jF <| jA (jC (v := .slice da dr.length dc) rfl) <| jT (LO.toStr 0 dr rfl ki kk kY rfl rfl) <| jA (jG (v := str dr) rfl) <| jA (jG (v := .bool true) rfl) <| jE ?_
      refine jB <| jM <| jj (.inl rfl) rfl (jN (v := str dr) rfl) (jN (v := .bool true) rfl) (List.nil_sublist _) ?_
      exact ⟨dr, true, (by first | exact unhex_err hd | exact unhex_long hd (by assumption) | exact unhex_ne hd (by assumption) | exact unhex_yes hd (by assumption) (by assumption)), (by first | omega | (simp only [LE]; omega)), rfl, rfl⟩
    refine jR (cB (cN (dF h_2))) <| jD <| jF <| jA (jG (v := str []) rfl) <| jA (jG (v := .bool false) rfl) <| jE <| jB <| jM <| jX <| jj (.inl rfl) rfl (jN (v := str []) rfl) (jN (v := .bool false) rfl) (List.nil_sublist _) ?_
    exact ⟨[], false, (by first | exact unhex_err hd | exact unhex_long hd (by assumption) | exact unhex_ne hd (by assumption) | exact unhex_yes hd (by assumption) (by assumption)), (by first | omega | (simp only [LE]; omega)), rfl, rfl⟩
  refine jA (jC (v := .tuple #[.slice da dr.length dc, (.iface te pe)]) rfl) <| jA (jS (v := .slice da dr.length dc) rfl rfl) <| jA (jS (v := (.iface te pe)) rfl rfl) <| jA (jG (v := .slice da dr.length dc) rfl) <| jA (jG (v := (.iface te pe)) rfl) <| jE <| jB <| jD <| jD <| jF ?_
  refine jA (jC (v := (.iface te pe)) rfl) <| jA (PO.neqIfS Tryz.underlying162 rfl rfl) <| jA (jC (v := .bool true) rfl) <| jY (b := true) rfl rfl rfl (cB rfl) <| jY (b := true) rfl rfl rfl (cB rfl) <| jY (b := true) rfl rfl rfl (cB rfl) <| jA (jx (v := .bool true) (cB rfl) rfl) <| jA (jC (v := .bool true) rfl) <| jY (b := true) rfl rfl rfl (cB rfl) <| jY (b := true) rfl rfl rfl (cB rfl) ?_
  refine jY (b := true) rfl rfl rfl (cB rfl) <| jY (b := true) rfl rfl rfl (cB rfl) <| jA (jx (v := .bool true) (cB rfl) rfl) <| jE <| jB <| jR (cB rfl) <| jD <| jF <| jA (jG (v := str []) rfl) <| jA (jG (v := .bool false) rfl) ?_
  refine jE <| jB <| jM <| jX <| jj (.inl rfl) rfl (jN (v := str []) rfl) (jN (v := .bool false) rfl) (List.nil_sublist _) ?_
  exact ⟨[], false, (by first | exact unhex_err hd | exact unhex_long hd (by assumption) | exact unhex_ne hd (by assumption) | exact unhex_yes hd (by assumption) (by assumption)), (by first | omega | (simp only [LE]; omega)), rfl, rfl⟩

theorem N_messageOf (q : Str) (hq : q.length ≤ 1000000000000) :
    Ct Tryz.prog 163 [str q] ([]) (fun w => HexOk w) (fun v A' => ∃ r0, messageOf q = r0 ∧ r0.length ≤ 20000 ∧ v = str r0 ∧ A' = []) := by
  refine Ct.introL Tryz.func163 rfl Tryz.ntmps163 (lb rfl) fun w0 hpre hlow => ?_
  refine jD <| jF <| jA (jG (v := str []) rfl) <| jE <| jB <| jD <| jF <| jA (jC (v := str q) rfl) ?_
  refine jH rfl (jI [] Tryz.call182 rfl (N_cutPrefix q [45]) rfl (fun _ _ => trivial)) ?_
  rintro _ _ ⟨_, ⟨u_3, b_5, e_1, f_4, rfl, rfl⟩, rfl⟩
  refine jA (jC (v := .tuple #[str u_3, .bool b_5]) rfl) <| jA (jS (v := str u_3) rfl rfl) <| jA (jS (v := .bool b_5) rfl rfl) <| jA (jG (v := str u_3) rfl) <| jA (jG (v := .bool b_5) rfl) <| jE <| jB <| jD <| jD <| jF ?_
  refine jA (jC (v := .bool b_5) rfl) <| jA (kA rfl) <| jE <| jB ?_
  rcases Bool.eq_false_or_eq_true (b_5) with h_6 | h_6
  · have hm := messageOf_cutT (e_1.trans (congrArg _ h_6))
    refine jQ (cB (cN h_6)) <| jU <| jB <| jD <| jF <| jA (jC (v := str u_3) rfl) ?_
    refine jH rfl (jI [] Tryz.call180 rfl (N_unhex u_3 (by omega)) rfl (fun w hw => hw.hex hlow hpre)) ?_
    rintro _ _ ⟨_, ⟨u_9, b_11, e_7, f_10, rfl, rfl⟩, rfl⟩
    refine jA (jC (v := .tuple #[str u_9, .bool b_11]) rfl) <| jA (jS (v := str u_9) rfl rfl) <| jA (jS (v := .bool b_11) rfl rfl) <| jA (jG (v := str u_9) rfl) <| jA (jG (v := .bool b_11) rfl) <| jE <| jB <| jD <| jF <| jA (jC (v := str u_9) rfl) ?_
    refine jA (jG (v := str u_9) rfl) <| jE <| jB <| jM <| jV (.inl rfl) rfl (jN (v := str u_9) rfl) (List.nil_sublist _) ?_
    exact ⟨u_9, (by simp only [if_true, e_1, h_6, hm, e_7, SB]; (repeat (first | rw [if_pos (by omega)] | rw [if_neg (by omega)])); all_goals (first | rfl | simp only [SB, e_1, h_6, hm, e_7])), (by first | omega | (simp only [LE]; omega)), rfl, rfl⟩
  have hm := messageOf_cutF (e_1.trans (congrArg _ h_6))
  refine jR (cB (cN h_6)) <| jD <| jF <| jA (jG (v := str []) rfl) <| jE <| jB <| jM <| jX <| jV (.inl rfl) rfl (jN (v := str []) rfl) (List.nil_sublist _) ?_
  exact ⟨[], (by simp only [if_true, e_1, h_6, hm, SB]; (repeat (first | rw [if_pos (by omega)] | rw [if_neg (by omega)])); all_goals (first | rfl | simp only [SB, e_1, h_6, hm])), (by first | omega | (simp only [LE]; omega)), rfl, rfl⟩

theorem N_sUnhex (t : Str) (ht : t.length ≤ 1000000000000) :
    Ct Tryz.prog 103 [str t] ([]) (fun _ => True) (fun v A' => ∃ r0 r1, unhex t = (r0, r1) ∧ r0.length ≤ 20000 ∧ v = .tuple #[str r0, .bool r1] ∧ A' = []) := by
  refine Ct.intro Tryz.func103 rfl Tryz.ntmps103 (lb rfl) fun w0 hpre => ?_
  refine jD <| jF <| jA (jG (v := str []) rfl) <| jA (jG (v := .bool false) rfl) <| jE <| jB <| jD <| jD <| jF <| jA (jC (v := str t) rfl) ?_
  refine jA (kJ kY rfl) <| jA (kS rfl rfl) <| jA (jC (v := .bool (decide (40000 < (t.length : Int)))) rfl) ?_
  by_cases h_1 : 40000 < (t.length : Int)
  · refine jY (b := true) rfl rfl rfl (cB (dT h_1)) <| jY (b := true) rfl rfl rfl (cB (dT h_1)) <| jY (b := true) rfl rfl rfl (cB (dT h_1)) <| jY (b := true) rfl rfl rfl (cB (dT h_1)) <| jA (jx (v := .bool true) (cB (dT h_1)) rfl) <| jE <| jB <| jR (cB rfl) <| jD <| jF ?_
    refine jA (jG (v := str []) rfl) <| jA (jG (v := .bool false) rfl) <| jE <| jB <| jM <| jX <| jj (.inl rfl) rfl (jN (v := str []) rfl) (jN (v := .bool false) rfl) (List.nil_sublist _) ?_
    exact ⟨[], false, (by first | exact unhex_bad (by omega) | exact unhex_some (by rw [List.drop_of_length_le (by omega)] at hR; rw [← hR]; simp [unhexL]) (by assumption) | exact unhex_none (by rw [unhexL_step (by omega)] at hR; simp only [if_true] at hR; rw [if_pos (by omega)] at hR; exact hR.symm)), (by first | omega | (simp only [LE]; omega)), rfl, rfl⟩
  refine jb rfl rfl rfl (cB (dF h_1)) (ja (jd (jC (v := str t) rfl))) ?_
  rintro _ _ ⟨rfl, rfl⟩
  refine jb rfl rfl rfl (cB (dF h_1)) (ja (jd (kJ kY rfl))) ?_
  rintro _ _ ⟨rfl, rfl⟩
  refine jb rfl rfl rfl (cB (dF h_1)) (ja (jd (PO.remN (c := ((t.length % 2 : Nat) : Int)) rfl rfl (by omega) (by omega) (by omega)))) ?_
  rintro _ _ ⟨rfl, rfl⟩
  refine jb rfl rfl rfl (cB (dF h_1)) (ja (jd (kQ rfl rfl))) ?_
  rintro _ _ ⟨rfl, rfl⟩
  refine jA (jw (v := .bool (!(decide (((t.length % 2 : Nat) : Int) = 0)))) (cB (dF h_1)) rfl) <| jE <| jB ?_
  by_cases h_2 : ((t.length % 2 : Nat) : Int) = 0
  · refine jQ (cB (cN (dT h_2))) <| jU <| jB <| jD <| jF ?_
    refine jH rfl (kI (ps := []) (cur := #[]) ki kq kw rfl (by kernel_rfl) (by decide) (by decide)) ?_
    rintro _ _ ⟨a_3, rfl, rfl⟩
    refine jA (jG (v := .slice a_3 0 0) rfl) <| jE <| jB <| jD <| jD <| jF <| jA (jG (v := iv 0) rfl) <| jE <| jB <| jm ?_
    refine kE (fun k_ e_ L_ => ∃ j : Nat, ∃ oa : Option Addr, ∃ oc : Nat, ∃ o_ : Str, (j ≤ t.length) ∧ ((t.length - j) % 2 = 0) ∧ (o_.length * 2 ≤ j) ∧ ((unhexL (t.drop j)).map (o_ ++ ·) = unhexL t) ∧ e_ 0 = str t ∧ e_ 4 = .slice oa o_.length oc ∧ e_ 5 = nv j ∧ L_ = [Res.row (.slice oa o_.length oc) 5 1 o_.length (o_.map encB)] ∧ k_ = t.length - j) _ ⟨0, a_3, 0, [], by omega, by omega, (by simp), (by simp), rfl, rfl, rfl, rfl, rfl⟩ ?_
    rintro _ e_4 _ ⟨j, oa, oc, o_, hj, hj2, ho, hR, he_5, he_6, he_7, rfl, rfl⟩
    refine jD <| jD <| jF <| jA (jC (v := nv j) he_7) <| jA (jC (v := str t) he_5) <| jA (kJ kY rfl) <| jA (js rfl rfl) <| jE <| jB ?_
    by_cases h_8 : ((j : Nat) : Int) < (t.length : Int)
    · refine jR (cB (dT h_8)) <| jU <| jB <| jD <| jm <| jD <| jF <| jA (jC (v := str t) he_5) <| jA (jC (v := nv j) he_7) <| jA (PO.indexS (i := j) (c := t.getD j 0) kY rfl rfl (getD_some (by omega))) ?_
      have hu_9 := UInt8.toNat_lt (t.getD j 0)
      refine jH rfl (jI [] Tryz.call152 rfl (N_value (t.getD j 0)) rfl (fun _ _ => trivial)) ?_
      rintro _ _ ⟨_, ⟨n_10, e_11, f_12, rfl, rfl⟩, rfl⟩
      refine jA (jG (v := iv n_10) rfl) <| jE <| jB <| jD <| jF <| jA (jC (v := str t) he_5) <| jA (jC (v := nv j) he_7) <| jA (jg (c := ((j + 1 : Nat) : Int)) rfl rfl (wr (by omega))) <| jA (PO.indexS (i := j + 1) (c := t.getD (j + 1) 0) kY rfl rfl (getD_some (by omega))) ?_
      have hu_13 := UInt8.toNat_lt (t.getD (j + 1) 0)
      refine jH rfl (jI [] Tryz.call152 rfl (N_value (t.getD (j + 1) 0)) rfl (fun _ _ => trivial)) ?_
      rintro _ _ ⟨_, ⟨n_14, e_15, f_16, rfl, rfl⟩, rfl⟩
      refine jA (jG (v := iv n_14) rfl) <| jE <| jB <| jD <| jD <| jF <| jA (jC (v := iv n_10) rfl) <| jA (js rfl rfl) <| jA (jC (v := .bool (decide (n_10 < 0))) rfl) ?_
      by_cases h_17 : n_10 < 0
      · refine jY (b := true) rfl rfl rfl (cB (dT h_17)) <| jY (b := true) rfl rfl rfl (cB (dT h_17)) <| jA (jx (v := .bool true) (cB (dT h_17)) rfl) <| jE <| jB <| jR (cB rfl) <| jD <| jF <| jA (jG (v := str []) rfl) <| jA (jG (v := .bool false) rfl) ?_
        refine jE <| jB <| jM <| jX <| jz <| jX <| jX <| jz <| jX <| jj (.inl rfl) rfl (jN (v := str []) rfl) (jN (v := .bool false) rfl) (List.nil_sublist _) ?_
        exact ⟨[], false, (by first | exact unhex_bad (by omega) | exact unhex_some (by rw [List.drop_of_length_le (by omega)] at hR; rw [← hR]; simp [unhexL]) (by assumption) | exact unhex_none (by rw [unhexL_step (by omega)] at hR; simp only [e_11, e_15] at hR; rw [if_pos (by omega)] at hR; exact hR.symm)), (by first | omega | (simp only [LE]; omega)), rfl, rfl⟩
      refine jb rfl rfl rfl (cB (dF h_17)) (ja (jd (jC (v := iv n_14) rfl))) ?_
      rintro _ _ ⟨rfl, rfl⟩
      refine jb rfl rfl rfl (cB (dF h_17)) (ja (jd (js rfl rfl))) ?_
      rintro _ _ ⟨rfl, rfl⟩
      refine jA (jw (v := .bool (decide (n_14 < 0))) (cB (dF h_17)) rfl) <| jE <| jB ?_
      by_cases h_18 : n_14 < 0
      · refine jR (cB (dT h_18)) <| jD <| jF <| jA (jG (v := str []) rfl) <| jA (jG (v := .bool false) rfl) <| jE <| jB <| jM <| jX <| jz ?_
        refine jX <| jX <| jz <| jX <| jj (.inl rfl) rfl (jN (v := str []) rfl) (jN (v := .bool false) rfl) (List.nil_sublist _) ?_
        exact ⟨[], false, (by first | exact unhex_bad (by omega) | exact unhex_some (by rw [List.drop_of_length_le (by omega)] at hR; rw [← hR]; simp [unhexL]) (by assumption) | exact unhex_none (by rw [unhexL_step (by omega)] at hR; simp only [e_11, e_15] at hR; rw [if_pos (by omega)] at hR; exact hR.symm)), (by first | omega | (simp only [LE]; omega)), rfl, rfl⟩
      refine jQ (cB (dF h_18)) <| jU <| jB <| jF <| jA (jC (v := .slice oa o_.length oc) he_6) <| jA (jC (v := iv n_10) rfl) <| jA (PO.mul (c := 16 * n_10) rfl rfl (wr (by omega))) <| jA (jC (v := iv n_14) rfl) <| jA (jg (c := (16 * n_10) + n_14) rfl rfl (wr (by omega))) <| jA (PO.convI (c := (((UInt8.ofNat ((16 * n_10) + n_14).toNat).toNat : Nat) : Int)) kr kk rfl (wr8u (by omega) rfl)) ?_
      refine jH rfl (kI (ps := [(0, .int .u8 (((UInt8.ofNat ((16 * n_10) + n_14).toNat).toNat : Nat) : Int))]) (cur := #[.int .u8 (((UInt8.ofNat ((16 * n_10) + n_14).toNat).toNat : Nat) : Int)]) ki kq kw rfl (by kernel_rfl) (by decide) (by decide)) ?_
      rintro _ _ ⟨a_19, rfl, rfl⟩
      refine jH rfl (kF 1 (q := 1) (news := ([UInt8.ofNat ((16 * n_10) + n_14).toNat] : List UInt8).map encB) (n' := (o_ ++ ([UInt8.ofNat ((16 * n_10) + n_14).toNat] : List UInt8)).length) (cs' := (o_ ++ ([UInt8.ofNat ((16 * n_10) + n_14).toNat] : List UInt8)).map encB) rfl ki ki Tryz.typeInfo5 rfl (by' := 1) rfl rfl rfl rfl rfl (fun w hw => Src.sees (hw.see (i := 0) rfl) (oneB _)) (by (try simp only [LE]); omega) (by (try simp only [LE]); omega) (by simp only [List.length_append, List.length_take, List.length_drop, List.length_cons, List.length_nil] <;> first | rfl | omega) (by simp only [List.map_append])) ?_
      rintro _ _ ⟨a_20, c_21, rfl, rfl⟩
      refine jA (jG (v := .slice a_20 ((o_ ++ ([UInt8.ofNat ((16 * n_10) + n_14).toNat] : List UInt8)).length) c_21) rfl) <| jE <| jk <| jB <| jF <| jA (jC (v := nv j) he_7) <| jA (jg (c := ((j + 2 : Nat) : Int)) rfl rfl (wr (by omega))) <| jA (jG (v := iv ((j + 2 : Nat) : Int)) rfl) <| jE <| jr [1] (A := [Res.row (.slice a_20 ((o_ ++ ([UInt8.ofNat ((16 * n_10) + n_14).toNat] : List UInt8)).length) c_21) 5 1 ((o_ ++ ([UInt8.ofNat ((16 * n_10) + n_14).toNat] : List UInt8)).length) ((o_ ++ ([UInt8.ofNat ((16 * n_10) + n_14).toNat] : List UInt8)).map encB)]) rfl ?_
      refine jt (t.length - (j + 2)) (by omega) ⟨j + 2, a_20, c_21, (o_ ++ ([UInt8.ofNat ((16 * n_10) + n_14).toNat] : List UInt8)), by omega, by omega, (by simp only [List.length_append, List.length_cons, List.length_nil]; omega), (by rw [unhexL_step (by omega)] at hR; simp only [e_11, e_15] at hR; rw [if_neg (by omega)] at hR; exact hR), he_5, rfl, rfl, rfl, rfl⟩
    refine jQ (cB (dF h_8)) <| kB <| jn <| jn <| kC <| jB <| jD <| jF <| jA (jC (v := .slice oa o_.length oc) he_6) <| jT (LO.toStr 0 o_ rfl ki kk kY rfl rfl) ?_
    refine jA (jG (v := str o_) rfl) <| jA (jG (v := .bool true) rfl) <| jE <| jB <| jM <| jj (.inl rfl) rfl (jN (v := str o_) rfl) (jN (v := .bool true) rfl) (List.nil_sublist _) ?_
    exact ⟨o_, true, (unhex_some (by rw [List.drop_of_length_le (by omega)] at hR; exact hR.symm.trans (by simp [unhexL])) (by omega)), (by first | omega | (simp only [LE]; omega)), rfl, rfl⟩
  refine jR (cB (cN (dF h_2))) <| jD <| jF <| jA (jG (v := str []) rfl) <| jA (jG (v := .bool false) rfl) <| jE <| jB <| jM <| jX <| jj (.inl rfl) rfl (jN (v := str []) rfl) (jN (v := .bool false) rfl) (List.nil_sublist _) ?_
  exact ⟨[], false, (by first | exact unhex_bad (by omega) | exact unhex_some (by rw [List.drop_of_length_le (by omega)] at hR; rw [← hR]; simp [unhexL]) (by assumption) | exact unhex_none (by rw [unhexL_step (by omega)] at hR; simp only [if_true] at hR; rw [if_pos (by omega)] at hR; exact hR.symm)), (by first | omega | (simp only [LE]; omega)), rfl, rfl⟩

end Go.Proofs.YthdgcbdfcclgbaaGreatDoor
