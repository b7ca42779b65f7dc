/-
  Texts of the walk, joined: what each one proves stands at its theorems.
-/
import Derived.Test.YthdgcbdfcclgbaaGreatDoorS18HEX
import Derived.Lib.MinMax
set_option linter.unusedSimpArgs false
set_option linter.unusedVariables false
set_option linter.unnecessarySimpa false
namespace Go.Proofs.YthdgcbdfcclgbaaGreatDoor
open Go Go.RowKit
attribute [local irreducible] JL JC JQ JO LO PO JA JX Ct

theorem N_message (p : Nat) (x : MA) (m : MS) {S T : Nat} (hk : m.ok S T) (hS : S ≤ 90000000) (hT : T ≤ 90000000) (key : Str) :
    Ct Tryz.prog 137 [.pointer (some ⟨p, 0, none⟩), str key] (mb p x m :: mr x m) (fun w => HexOk w) (fun v A' => ∃ x' m' r0, MS.message m key = (m', r0) ∧ m'.ok (S) (T + 1) ∧ r0.length ≤ 20000 ∧ v = str r0 ∧ A' = mb p x' m' :: mr x' m') := by
  refine Ct.introL Tryz.func137 rfl Tryz.ntmps137 (lb rfl) fun w0 hpre hlow => ?_
  refine jD <| jF <| jA (jG (v := str []) rfl) <| jE <| jB <| jD <| jF <| jA (jC (v := pv p) rfl) <| jA (jC (v := str key) rfl) ?_
  refine jH rfl (jI [0, 0, 0, 0] Tryz.call139 rfl (N_look p x m hk (by omega) (by omega) key) rfl (fun _ _ => trivial)) ?_
  rintro _ _ ⟨_, ⟨x_3, m_4, u_5, e_1, k_2, f_6, rfl, rfl⟩, rfl⟩
  refine jH rfl (jI [] Tryz.call163 rfl (N_messageOf u_5 (by omega)) rfl (fun w hw => hw.hex hlow hpre)) ?_
  rintro _ _ ⟨_, ⟨u_9, e_7, f_10, rfl, rfl⟩, rfl⟩
  refine jA (jG (v := str u_9) rfl) <| jE <| jB <| jM <| jV (.inl rfl) rfl (jN (v := str u_9) rfl) (List.Sublist.refl _) ?_
  exact ⟨x_3, m_4, u_9, (by simp only [MS.message, e_1, e_7, SB]; (repeat (first | rw [if_pos (by omega)] | rw [if_neg (by omega)])); all_goals (first | rfl | simp only [SB, e_1, e_7])), (k_2.mono (by omega) (by omega)), (by first | omega | (simp only [LE]; omega)), rfl, rfl⟩

theorem N_putOut (p : Nat) (x : MA) (m : MS) {S T : Nat} (hk : m.ok S T) (hS : S ≤ 50000000) (hT : T ≤ 50000000) (text : Str) (htext : text.length ≤ 1000000000000) :
    Ct Tryz.prog 78 [.pointer (some ⟨p, 0, none⟩), str text] (mb p x m :: mr x m) (fun _ => True) (fun v A' => ∃ x' m' r0, MS.putOut m text = (m', r0) ∧ m'.ok (S + 2) (T + 3) ∧ (0 ≤ r0 ∧ r0 ≤ 9) ∧ v = .int .i64 r0 ∧ A' = mb p x' m' :: mr x' m') := by
  refine Ct.intro Tryz.func78 rfl Tryz.ntmps78 (lb rfl) fun w0 hpre => ?_
  refine jD <| jF <| jA (jG (v := iv 0) rfl) <| jE <| jB <| jD <| jD <| jF <| jA (jC (v := str text) rfl) <| jA (kJ kY rfl) ?_
  refine jH rfl (jI [] Tryz.call120 rfl (C_within (text.length : Int) 1 20) rfl (fun _ _ => trivial)) ?_
  rintro _ _ ⟨_, ⟨rfl, rfl⟩, rfl⟩
  refine jA (kA rfl) <| jE <| jB ?_
  rcases Bool.eq_false_or_eq_true (decide (1 ≤ (text.length : Int)) && decide ((text.length : Int) ≤ 20)) with h_1 | h_1
  · have h_1d := h_1
    simp only [Bool.and_eq_true, Bool.and_eq_false_iff, decide_eq_true_eq, decide_eq_false_iff_not] at h_1d
    refine jQ (cB (cN h_1)) <| jU <| jB <| jD <| jF <| jA (jC (v := pv p) rfl) ?_
    refine jH rfl (jI [0, 0, 0, 0] Tryz.call118 rfl (N_num p x m hk (by omega) (by omega) [100, 47, 110]) rfl (fun _ _ => trivial)) ?_
    rintro _ _ ⟨_, ⟨x_4, m_5, n_6, e_2, k_3, f_7, rfl, rfl⟩, rfl⟩
    refine jA (jG (v := iv n_6) rfl) <| jE <| jB <| jD <| jD <| jF <| jA (jC (v := iv n_6) rfl) <| jA (kT rfl rfl) <| jE <| jB ?_
    by_cases h_8 : 40 ≤ n_6
    · refine jR (cB (dT h_8)) <| jD <| jF <| jA (jG (v := iv 3) rfl) <| jE <| jB <| jM <| jX <| jV (.inl rfl) rfl (jN (v := iv 3) rfl) (List.Sublist.refl _) ?_
      exact ⟨x_4, m_5, 3, (by simp only [MS.putOut, h_1, e_2, h_8, SB]; (repeat (first | rw [if_pos (by omega)] | rw [if_neg (by omega)])); all_goals (first | rfl | simp only [SB, h_1, e_2, h_8])), (k_3.mono (by omega) (by omega)), (by first | omega | (simp only [LE]; omega)), rfl, rfl⟩
    refine jQ (cB (dF h_8)) <| jU <| jB <| jD <| jF <| jA (jC (v := pv p) rfl) <| jA (jC (v := iv n_6) rfl) <| jA (jg (c := n_6 + 1) rfl rfl (wr (by omega))) ?_
    refine jH rfl (jI [0, 0, 0, 0] Tryz.call124 rfl (N_setNum p x_4 m_5 k_3 (by omega) (by omega) [100, 47, 110] (n_6 + 1) (by decide) (by omega)) rfl (fun _ _ => trivial)) ?_
    rintro _ _ ⟨_, ⟨x_11, m_12, e_9, k_10, rfl, rfl⟩, rfl⟩
    refine jE <| jB <| jD <| jF <| jA (jC (v := pv p) rfl) <| jA (jC (v := iv n_6) rfl) <| jA (jg (c := n_6 + 1) rfl rfl (wr (by omega))) ?_
    refine jH rfl (jI [] Tryz.call129 rfl (N_keyNum [100, 47] (n_6 + 1) [] (show List.length ([100, 47] : Str) ≤ 2 by decide) (by omega) (show List.length ([] : Str) ≤ 0 by decide) (by omega)) rfl (fun _ _ => trivial)) ?_
    rintro _ _ ⟨_, ⟨u_15, e_13, f_16, rfl, rfl⟩, rfl⟩
    refine jA (jC (v := str text) rfl) ?_
    refine jH rfl (jI [] Tryz.call136 rfl (N_hexOf text (by omega)) rfl (fun _ _ => trivial)) ?_
    rintro _ _ ⟨_, ⟨u_19, e_17, f_20, rfl, rfl⟩, rfl⟩
    refine jA (kO rfl rfl (by (try simp only [List.length_append, List.length_cons, List.length_nil, List.length_drop, List.length_take]); omega)) ?_
    refine jH rfl (jI [0, 0, 0, 0] Tryz.call127 rfl (N_lay p x_11 m_12 k_10 (by omega) (by omega) u_15 ([45] ++ u_19) (by omega)) rfl (fun _ _ => trivial)) ?_
    rintro _ _ ⟨_, ⟨x_23, m_24, e_21, k_22, rfl, rfl⟩, rfl⟩
    refine jE <| jB <| jD <| jF <| jA (jG (v := iv 0) rfl) <| jE <| jB <| jM <| jV (.inl rfl) rfl (jN (v := iv 0) rfl) (List.Sublist.refl _) ?_
    exact ⟨x_23, m_24, 0, (by simp only [MS.putOut, h_1, e_2, h_8, e_9, e_13, e_17, e_21, SB]; (repeat (first | rw [if_pos (by omega)] | rw [if_neg (by omega)])); all_goals (first | rfl | simp only [SB, h_1, e_2, h_8, e_9, e_13, e_17, e_21])), (k_22.mono (by omega) (by omega)), (by first | omega | (simp only [LE]; omega)), rfl, rfl⟩
  have h_1d := h_1
  simp only [Bool.and_eq_true, Bool.and_eq_false_iff, decide_eq_true_eq, decide_eq_false_iff_not] at h_1d
  refine jR (cB (cN h_1)) <| jD <| jF <| jA (jG (v := iv 4) rfl) <| jE <| jB <| jM <| jX <| jV (.inl rfl) rfl (jN (v := iv 4) rfl) (List.Sublist.refl _) ?_
  exact ⟨x, m, 4, (by simp only [MS.putOut, h_1, SB]; (repeat (first | rw [if_pos (by omega)] | rw [if_neg (by omega)])); all_goals (first | rfl | simp only [SB, h_1])), (hk.mono (by omega) (by omega)), (by first | omega | (simp only [LE]; omega)), rfl, rfl⟩

theorem M_putOut (x : MA) (m : MS) {S T : Nat} (hk : m.ok S T) (hS : S ≤ 50000000) (hT : T ≤ 50000000) (text : Str) (htext : text.length ≤ 1000000000000) :
    Ct Tryz.prog 47 [mv x m, str text] (mr x m) (fun _ => True) (fun v A' => ∃ x' m' r0, MS.putOut m text = (m', r0) ∧ m'.ok (S + 2) (T + 3) ∧ (0 ≤ r0 ∧ r0 ≤ 9) ∧ v = .tuple #[mv x' m', .int .i64 r0] ∧ A' = mr x' m') := by
  refine Ct.intro Tryz.func47 rfl Tryz.ntmps47 (lb rfl) fun w0 hpre => ?_
  refine jD <| jF ?_
  refine jH rfl (jv (cs := (mc x m)) rfl rfl) ?_
  rintro _ _ ⟨b_1, rfl, rfl⟩
  refine jH rfl (jh (z := zM) (cs := zC) kd rfl) ?_
  rintro _ _ ⟨b_2, rfl, rfl⟩
  refine jA (jG (v := iv 0) rfl) <| jE <| jB <| jD <| jD <| jF <| jA (jC (v := str text) rfl) <| jA (PO.eqlS rfl rfl) <| jA (jC (v := .bool (decide (text = []))) rfl) ?_
  by_cases h_3 : text = []
  · have h_3l : text.length = 0 := by rw [h_3]; rfl
    refine jY (b := true) rfl rfl rfl (cB (dT h_3)) <| jY (b := true) rfl rfl rfl (cB (dT h_3)) <| jY (b := true) rfl rfl rfl (cB (dT h_3)) <| jA (jx (v := .bool true) (cB (dT h_3)) rfl) <| jE <| jB <| jR (cB rfl) <| jD <| jF <| jT (jP 1 x m rfl rfl) ?_
    refine jH rfl (jW 0 x m rfl rfl rfl rfl) ?_
    rintro _ _ rfl
    refine jA (jG (v := iv 4) rfl) <| jE <| jB <| jM <| jX <| kL (pick_perm [2, 2, 2] (A := [rC x.a0 x.c0 m.s, rS x.a1 x.c1 m.r, rS x.a2 x.c2 m.w]) (F := [mb b_2 x m, mb b_1 x m]) rfl).symm <| jj (.inl rfl) rfl (je (jP 3 x m rfl rfl) ⟨_, rfl⟩) (jN (v := iv 4) rfl) (tS 3 _) ?_
    exact ⟨x, m, 4, (by simp only [MS.putOut, hexS_P, h_3, SB]; (repeat (first | rw [if_pos (by omega)] | rw [if_neg (by omega)])); all_goals (first | rfl | simp only [SB, h_3])), (hk.mono (by omega) (by omega)), (by first | omega | (simp only [LE]; omega)), rfl, rfl⟩
  have h_3l := List.length_pos_iff.2 h_3
  refine jb rfl rfl rfl (cB (dF h_3)) (ja (jd (jC (v := str text) rfl))) ?_
  rintro _ _ ⟨rfl, rfl⟩
  refine jb rfl rfl rfl (cB (dF h_3)) (ja (jd (kJ kY rfl))) ?_
  rintro _ _ ⟨rfl, rfl⟩
  refine jb rfl rfl rfl (cB (dF h_3)) (ja (jd (kS rfl rfl))) ?_
  rintro _ _ ⟨rfl, rfl⟩
  refine jA (jw (v := .bool (decide (20 < (text.length : Int)))) (cB (dF h_3)) rfl) <| jE <| jB ?_
  by_cases h_4 : 20 < (text.length : Int)
  · refine jR (cB (dT h_4)) <| jD <| jF <| jT (jP 1 x m rfl rfl) ?_
    refine jH rfl (jW 0 x m rfl rfl rfl rfl) ?_
    rintro _ _ rfl
    refine jA (jG (v := iv 4) rfl) <| jE <| jB <| jM <| jX <| kL (pick_perm [2, 2, 2] (A := [rC x.a0 x.c0 m.s, rS x.a1 x.c1 m.r, rS x.a2 x.c2 m.w]) (F := [mb b_2 x m, mb b_1 x m]) rfl).symm <| jj (.inl rfl) rfl (je (jP 3 x m rfl rfl) ⟨_, rfl⟩) (jN (v := iv 4) rfl) (tS 3 _) ?_
    exact ⟨x, m, 4, (by simp only [MS.putOut, hexS_P, h_3, h_4, SB]; (repeat (first | rw [if_pos (by omega)] | rw [if_neg (by omega)])); all_goals (first | rfl | simp only [SB, h_3, h_4])), (hk.mono (by omega) (by omega)), (by first | omega | (simp only [LE]; omega)), rfl, rfl⟩
  refine jQ (cB (dF h_4)) <| jU <| jB <| jD <| jF <| jT (jP 1 x m rfl rfl) ?_
  refine jH rfl (jI [2, 2, 2] Tryz.call84 rfl (N_sNumAt x m hk (by omega) (by omega) [100, 47, 110]) rfl (fun _ _ => trivial)) ?_
  rintro _ _ ⟨_, ⟨x_7, m_8, n_9, e_5, k_6, f_10, rfl, rfl⟩, rfl⟩
  refine jA (jC (v := .tuple #[mv x_7 m_8, iv n_9]) rfl) <| jA (jS (v := mv x_7 m_8) rfl rfl) <| jA (jS (v := iv n_9) rfl rfl) ?_
  refine jH rfl (jW 4 x_7 m_8 rfl rfl rfl rfl) ?_
  rintro _ _ rfl
  refine jA (jG (v := iv n_9) rfl) <| jE <| jB <| jD <| jD <| jF <| jA (jC (v := iv n_9) rfl) <| jA (kT rfl rfl) <| jE <| jB ?_
  by_cases h_11 : 40 ≤ n_9
  · refine jR (cB (dT h_11)) <| jD <| jF <| jT (jP 4 x_7 m_8 rfl rfl) ?_
    refine jH rfl (jW 3 x_7 m_8 rfl rfl rfl rfl) ?_
    rintro _ _ rfl
    refine jA (jG (v := iv 3) rfl) <| jE <| jB <| jM <| jX <| jj (.inl rfl) rfl (je (jP 3 x_7 m_8 rfl rfl) ⟨_, rfl⟩) (jN (v := iv 3) rfl) (tS 3 _) ?_
    exact ⟨x_7, m_8, 3, (by simp only [MS.putOut, hexS_P, h_3, h_4, e_5, h_11, SB]; (repeat (first | rw [if_pos (by omega)] | rw [if_neg (by omega)])); all_goals (first | rfl | simp only [SB, h_3, h_4, e_5, h_11])), (k_6.mono (by omega) (by omega)), (by first | omega | (simp only [LE]; omega)), rfl, rfl⟩
  refine jQ (cB (dF h_11)) <| jU <| jB <| jD <| jF <| jA (jC (v := str text) rfl) ?_
  refine jH rfl (jI [] Tryz.call100 rfl (N_sHex text (by omega)) rfl (fun _ _ => trivial)) ?_
  rintro _ _ ⟨_, ⟨u_14, b_16, e_12, f_15, rfl, rfl⟩, rfl⟩
  refine jA (jC (v := .tuple #[str u_14, .bool b_16]) rfl) <| jA (jS (v := str u_14) rfl rfl) <| jA (jS (v := .bool b_16) rfl rfl) <| jA (jG (v := str u_14) rfl) <| jA (jG (v := .bool b_16) rfl) <| jE <| jB <| jD <| jF <| jT (jP 4 x_7 m_8 rfl rfl) ?_
  refine jA (jC (v := iv n_9) rfl) <| jA (jg (c := n_9 + 1) rfl rfl (wr (by omega))) ?_
  refine jH rfl (jI [0, 0, 0] Tryz.call90 rfl (N_sSetNum x_7 m_8 k_6 (by omega) (by omega) [100, 47, 110] (n_9 + 1) (by decide) (by omega)) rfl (fun _ _ => trivial)) ?_
  rintro _ _ ⟨_, ⟨x_19, m_20, e_17, k_18, rfl, rfl⟩, rfl⟩
  refine jH rfl (jW 4 x_19 m_20 rfl rfl rfl rfl) ?_
  rintro _ _ rfl
  refine jE <| jB <| jD <| jq [mb b_1 x_19 m_20] 6 mixed (by simp) <| jl 0 rfl (jP 0 x_19 m_20 rfl rfl) <| jK 1 rfl (jC (v := iv n_9) rfl) <| jK 2 rfl (jg (c := n_9 + 1) rfl rfl (wr (by omega))) <| jK 4 rfl (jC (v := str u_14) rfl) <| jK 5 rfl (kO rfl rfl (by (try simp only [List.length_append, List.length_cons, List.length_nil, List.length_drop, List.length_take]); omega)) <| jL (i := 3) ?_
  refine jO rfl rfl (jI [] Tryz.call91 rfl (N_sKeyNum [100, 47] (n_9 + 1) [] (show List.length ([100, 47] : Str) ≤ 2 by decide) (by omega) (show List.length ([] : Str) ≤ 0 by decide) (by omega)) rfl (fun _ _ => trivial)) ?_
  rintro _ _ ⟨_, ⟨u_35, e_33, f_36, rfl, rfl⟩, rfl⟩
  refine ⟨(by simp), ?_⟩
  refine jL (i := 6) ?_
  refine jo rfl (jI [0, 0, 0] Tryz.call92 rfl (N_sLay x_19 m_20 k_18 (by omega) (by omega) u_35 ([45] ++ u_14) (by omega)) rfl (fun _ _ => trivial)) ?_
  rintro _ _ ⟨_, ⟨x_43, m_44, e_41, k_42, rfl, rfl⟩, rfl⟩
  refine jL (i := 7) ?_
  refine jo rfl (jW 3 x_43 m_44 rfl rfl rfl rfl) ?_
  rintro _ _ rfl
  refine jK 8 rfl (jG (v := iv 0) rfl) <| kG (by kernel_rfl) <| jB <| jM <| jj (.inl rfl) rfl (je (jP 3 x_43 m_44 rfl rfl) ⟨_, rfl⟩) (jN (v := iv 0) rfl) (tS 3 _) ?_
  exact ⟨x_43, m_44, 0, (by simp only [MS.putOut, hexS_P, h_3, h_4, e_5, h_11, e_12, e_17, e_33, e_41, SB]; (repeat (first | rw [if_pos (by omega)] | rw [if_neg (by omega)])); all_goals (first | rfl | simp only [SB, h_3, h_4, e_5, h_11, e_12, e_17, e_33, e_41])), (k_42.mono (by omega) (by omega)), (by first | omega | (simp only [LE]; omega)), rfl, rfl⟩

theorem N_putPipe (p : Nat) (x : MA) (m : MS) {S T : Nat} (hk : m.ok S T) (hS : S ≤ 50000000) (hT : T ≤ 50000000) (id : Int) (text : Str) (hid : -9223372036854775808 ≤ id ∧ id ≤ 9223372036854775807) (htext : text.length ≤ 1000000000000) :
    Ct Tryz.prog 63 [.pointer (some ⟨p, 0, none⟩), .int .i64 id, str text] (mb p x m :: mr x m) (fun _ => True) (fun v A' => ∃ x' m' r0, MS.putPipe m id text = (m', r0) ∧ m'.ok (S + 2) (T + 5) ∧ (0 ≤ r0 ∧ r0 ≤ 9) ∧ v = .int .i64 r0 ∧ A' = mb p x' m' :: mr x' m') := by
  refine Ct.intro Tryz.func63 rfl Tryz.ntmps63 (lb rfl) fun w0 hpre => ?_
  refine jD <| jF <| jA (jG (v := iv 0) rfl) <| jE <| jB <| jD <| jD <| jF <| jA (jC (v := pv p) rfl) <| jA (jC (v := iv id) rfl) ?_
  refine jH rfl (jI [0, 0, 0, 0] Tryz.call135 rfl (N_isPipe p x m hk (by omega) (by omega) id (by omega)) rfl (fun _ _ => trivial)) ?_
  rintro _ _ ⟨_, ⟨x_3, m_4, b_5, e_1, k_2, rfl, rfl⟩, rfl⟩
  refine jA (kA rfl) <| jE <| jB ?_
  rcases Bool.eq_false_or_eq_true (b_5) with h_6 | h_6
  · refine jQ (cB (cN h_6)) <| jU <| jB <| jD <| jD <| jF <| jA (jC (v := str text) rfl) <| jA (kJ kY rfl) <| jA (kS rfl rfl) <| jE ?_
    refine jB ?_
    by_cases h_7 : 20 < (text.length : Int)
    · refine jR (cB (dT h_7)) <| jD <| jF <| jA (jG (v := iv 4) rfl) <| jE <| jB <| jM <| jX <| jV (.inl rfl) rfl (jN (v := iv 4) rfl) (List.Sublist.refl _) ?_
      exact ⟨x_3, m_4, 4, (by simp only [MS.putPipe, e_1, h_6, h_7, SB]; (repeat (first | rw [if_pos (by omega)] | rw [if_neg (by omega)])); all_goals (first | rfl | simp only [SB, e_1, h_6, h_7])), (k_2.mono (by omega) (by omega)), (by first | omega | (simp only [LE]; omega)), rfl, rfl⟩
    refine jQ (cB (dF h_7)) <| jU <| jB <| jD <| jF <| jA (jC (v := pv p) rfl) <| jA (jC (v := iv id) rfl) ?_
    refine jH rfl (jI [] Tryz.call134 rfl (N_pipeKey id [47, 116] (by omega) (show List.length ([47, 116] : Str) ≤ 2 by decide) (by omega)) rfl (fun _ _ => trivial)) ?_
    rintro _ _ ⟨_, ⟨u_10, e_8, f_11, rfl, rfl⟩, rfl⟩
    refine jH rfl (jI [0, 0, 0, 0] Tryz.call118 rfl (N_num p x_3 m_4 k_2 (by omega) (by omega) u_10) rfl (fun _ _ => trivial)) ?_
    rintro _ _ ⟨_, ⟨x_14, m_15, n_16, e_12, k_13, f_17, rfl, rfl⟩, rfl⟩
    refine jA (jG (v := iv n_16) rfl) <| jE <| jB <| jD <| jF <| jA (jC (v := pv p) rfl) <| jA (jC (v := iv id) rfl) ?_
    refine jH rfl (jI [] Tryz.call134 rfl (N_pipeKey id [47, 104] (by omega) (show List.length ([47, 104] : Str) ≤ 2 by decide) (by omega)) rfl (fun _ _ => trivial)) ?_
    rintro _ _ ⟨_, ⟨u_20, e_18, f_21, rfl, rfl⟩, rfl⟩
    refine jH rfl (jI [0, 0, 0, 0] Tryz.call118 rfl (N_num p x_14 m_15 k_13 (by omega) (by omega) u_20) rfl (fun _ _ => trivial)) ?_
    rintro _ _ ⟨_, ⟨x_24, m_25, n_26, e_22, k_23, f_27, rfl, rfl⟩, rfl⟩
    refine jA (jG (v := iv n_26) rfl) <| jE <| jB <| jD <| jm <| jD <| jF <| jA (jC (v := iv n_16) rfl) <| jA (jC (v := iv n_26) rfl) <| jA (kR (c := n_16 - n_26) rfl rfl (wr (by omega))) ?_
    refine jA (kT rfl rfl) <| jA (jG (v := .bool (decide (4 ≤ (n_16 - n_26)))) rfl) <| jE <| jB ?_
    by_cases h_28 : 4 ≤ (n_16 - n_26)
    · refine jR (cB (dT h_28)) <| jD <| jF <| jA (jG (v := iv 5) rfl) <| jE <| jB <| jM <| jz <| jX <| jV (.inl rfl) rfl (jN (v := iv 5) rfl) (List.Sublist.refl _) ?_
      exact ⟨x_24, m_25, 5, (by simp only [MS.putPipe, e_1, h_6, h_7, e_8, e_12, e_18, e_22, h_28, SB]; (repeat (first | rw [if_pos (by omega)] | rw [if_neg (by omega)])); all_goals (first | rfl | simp only [SB, e_1, h_6, h_7, e_8, e_12, e_18, e_22, h_28])), (k_23.mono (by omega) (by omega)), (by first | omega | (simp only [LE]; omega)), rfl, rfl⟩
    refine jQ (cB (dF h_28)) <| jD <| jF <| jA (jC (v := iv n_16) rfl) <| jA (kT rfl rfl) <| jA (jG (v := .bool (decide (999 ≤ n_16))) rfl) <| jE <| jB ?_
    by_cases h_29 : 999 ≤ n_16
    · refine jR (cB (dT h_29)) <| jD <| jF <| jA (jG (v := iv 3) rfl) <| jE <| jB <| jM <| jz <| jX <| jV (.inl rfl) rfl (jN (v := iv 3) rfl) (List.Sublist.refl _) ?_
      exact ⟨x_24, m_25, 3, (by simp only [MS.putPipe, e_1, h_6, h_7, e_8, e_12, e_18, e_22, h_28, h_29, SB]; (repeat (first | rw [if_pos (by omega)] | rw [if_neg (by omega)])); all_goals (first | rfl | simp only [SB, e_1, h_6, h_7, e_8, e_12, e_18, e_22, h_28, h_29])), (k_23.mono (by omega) (by omega)), (by first | omega | (simp only [LE]; omega)), rfl, rfl⟩
    refine jQ (cB (dF h_29)) <| jU <| jk <| jB <| jD <| jF <| jA (jC (v := pv p) rfl) <| jA (jC (v := iv id) rfl) ?_
    refine jH rfl (jI [] Tryz.call134 rfl (N_pipeKey id [47, 116] (by omega) (show List.length ([47, 116] : Str) ≤ 2 by decide) (by omega)) rfl (fun _ _ => trivial)) ?_
    rintro _ _ ⟨_, ⟨u_32, e_30, f_33, rfl, rfl⟩, rfl⟩
    have hqe_30 := e_8.symm.trans e_30
    subst hqe_30
    refine jA (jC (v := iv n_16) rfl) <| jA (jg (c := n_16 + 1) rfl rfl (wr (by omega))) ?_
    refine jH rfl (jI [0, 0, 0, 0] Tryz.call124 rfl (N_setNum p x_24 m_25 k_23 (by omega) (by omega) u_10 (n_16 + 1) (by omega) (by omega)) rfl (fun _ _ => trivial)) ?_
    rintro _ _ ⟨_, ⟨x_36, m_37, e_34, k_35, rfl, rfl⟩, rfl⟩
    refine jE <| jB <| jD <| jF <| jA (jC (v := pv p) rfl) <| jA (jC (v := iv id) rfl) ?_
    refine jH rfl (jI [] Tryz.call134 rfl (N_pipeKey id [47, 113, 47] (by omega) (show List.length ([47, 113, 47] : Str) ≤ 3 by decide) (by omega)) rfl (fun _ _ => trivial)) ?_
    rintro _ _ ⟨_, ⟨u_40, e_38, f_41, rfl, rfl⟩, rfl⟩
    refine jA (jC (v := iv n_16) rfl) <| jA (jg (c := n_16 + 1) rfl rfl (wr (by omega))) ?_
    refine jH rfl (jI [] Tryz.call129 rfl (N_keyNum u_40 (n_16 + 1) [] (Nat.le_refl _) (by omega) (show List.length ([] : Str) ≤ 0 by decide) (by omega)) rfl (fun _ _ => trivial)) ?_
    rintro _ _ ⟨_, ⟨u_44, e_42, f_45, rfl, rfl⟩, rfl⟩
    refine jA (jC (v := str text) rfl) ?_
    refine jH rfl (jI [] Tryz.call136 rfl (N_hexOf text (by omega)) rfl (fun _ _ => trivial)) ?_
    rintro _ _ ⟨_, ⟨u_48, e_46, f_49, rfl, rfl⟩, rfl⟩
    refine jA (kO rfl rfl (by (try simp only [List.length_append, List.length_cons, List.length_nil, List.length_drop, List.length_take]); omega)) ?_
    refine jH rfl (jI [0, 0, 0, 0] Tryz.call127 rfl (N_lay p x_36 m_37 k_35 (by omega) (by omega) u_44 ([45] ++ u_48) (by omega)) rfl (fun _ _ => trivial)) ?_
    rintro _ _ ⟨_, ⟨x_52, m_53, e_50, k_51, rfl, rfl⟩, rfl⟩
    refine jE <| jB <| jD <| jF <| jA (jG (v := iv 0) rfl) <| jE <| jB <| jM <| jV (.inl rfl) rfl (jN (v := iv 0) rfl) (List.Sublist.refl _) ?_
    exact ⟨x_52, m_53, 0, (by simp only [MS.putPipe, e_1, h_6, h_7, e_8, e_12, e_18, e_22, h_28, h_29, e_34, e_38, e_42, e_46, e_50, SB]; (repeat (first | rw [if_pos (by omega)] | rw [if_neg (by omega)])); all_goals (first | rfl | simp only [SB, e_1, h_6, h_7, e_8, e_12, e_18, e_22, h_28, h_29, e_34, e_38, e_42, e_46, e_50])), (k_51.mono (by omega) (by omega)), (by first | omega | (simp only [LE]; omega)), rfl, rfl⟩
  refine jR (cB (cN h_6)) <| jD <| jF <| jA (jG (v := iv 2) rfl) <| jE <| jB <| jM <| jX <| jV (.inl rfl) rfl (jN (v := iv 2) rfl) (List.Sublist.refl _) ?_
  exact ⟨x_3, m_4, 2, (by simp only [MS.putPipe, e_1, h_6, SB]; (repeat (first | rw [if_pos (by omega)] | rw [if_neg (by omega)])); all_goals (first | rfl | simp only [SB, e_1, h_6])), (k_2.mono (by omega) (by omega)), (by first | omega | (simp only [LE]; omega)), rfl, rfl⟩

theorem M_putPipe (x : MA) (m : MS) {S T : Nat} (hk : m.ok S T) (hS : S ≤ 50000000) (hT : T ≤ 50000000) (id : Int) (text : Str) (hid : -9223372036854775808 ≤ id ∧ id ≤ 9223372036854775807) (htext : text.length ≤ 1000000000000) :
    Ct Tryz.prog 39 [mv x m, .int .i64 id, str text] (mr x m) (fun _ => True) (fun v A' => ∃ x' m' r0, MS.putPipe m id text = (m', r0) ∧ m'.ok (S + 2) (T + 5) ∧ (0 ≤ r0 ∧ r0 ≤ 9) ∧ v = .tuple #[mv x' m', .int .i64 r0] ∧ A' = mr x' m') := by
  refine Ct.intro Tryz.func39 rfl Tryz.ntmps39 (lb rfl) fun w0 hpre => ?_
  refine jD <| jF ?_
  refine jH rfl (jv (cs := (mc x m)) rfl rfl) ?_
  rintro _ _ ⟨b_1, rfl, rfl⟩
  refine jH rfl (jh (z := zM) (cs := zC) kd rfl) ?_
  rintro _ _ ⟨b_2, rfl, rfl⟩
  refine jA (jG (v := iv 0) rfl) <| jE <| jB <| jD <| jF <| jT (jP 1 x m rfl rfl) <| jA (jC (v := iv id) rfl) ?_
  refine jH rfl (jI [2, 2, 2] Tryz.call99 rfl (M_isPipe x m hk (by omega) (by omega) id (by omega)) rfl (fun _ _ => trivial)) ?_
  rintro _ _ ⟨_, ⟨x_5, m_6, b_7, e_3, k_4, rfl, rfl⟩, rfl⟩
  refine jA (jC (v := .tuple #[mv x_5 m_6, .bool b_7]) rfl) <| jA (jS (v := mv x_5 m_6) rfl rfl) <| jA (jS (v := .bool b_7) rfl rfl) ?_
  refine jH rfl (jW 4 x_5 m_6 rfl rfl rfl rfl) ?_
  rintro _ _ rfl
  refine jA (jG (v := .bool b_7) rfl) <| jE <| jB <| jD <| jD <| jF <| jA (jC (v := .bool b_7) rfl) <| jA (kA rfl) <| jE <| jB ?_
  rcases Bool.eq_false_or_eq_true (b_7) with h_8 | h_8
  · refine jQ (cB (cN h_8)) <| jU <| jB <| jD <| jD <| jF <| jA (jC (v := str text) rfl) <| jA (kJ kY rfl) <| jA (kS rfl rfl) <| jE ?_
    refine jB ?_
    by_cases h_9 : 20 < (text.length : Int)
    · refine jR (cB (dT h_9)) <| jD <| jF <| jT (jP 4 x_5 m_6 rfl rfl) ?_
      refine jH rfl (jW 3 x_5 m_6 rfl rfl rfl rfl) ?_
      rintro _ _ rfl
      refine jA (jG (v := iv 4) rfl) <| jE <| jB <| jM <| jX <| jj (.inl rfl) rfl (je (jP 3 x_5 m_6 rfl rfl) ⟨_, rfl⟩) (jN (v := iv 4) rfl) (tS 3 _) ?_
      exact ⟨x_5, m_6, 4, (by simp only [MS.putPipe, hexS_P, e_3, h_8, h_9, SB]; (repeat (first | rw [if_pos (by omega)] | rw [if_neg (by omega)])); all_goals (first | rfl | simp only [SB, e_3, h_8, h_9])), (k_4.mono (by omega) (by omega)), (by first | omega | (simp only [LE]; omega)), rfl, rfl⟩
    refine jQ (cB (dF h_9)) <| jU <| jB <| jD <| jq [mb b_1 x_5 m_6] 7 mixed (by simp) <| jl 0 rfl (jP 0 x_5 m_6 rfl rfl) <| jK 1 rfl (jC (v := iv id) rfl) <| jL (i := 2) ?_
    refine jO rfl rfl (jI [] Tryz.call98 rfl (N_l08Key id [47, 116] (by omega) (show List.length ([47, 116] : Str) ≤ 2 by decide) (by omega)) rfl (fun _ _ => trivial)) ?_
    rintro _ _ ⟨_, ⟨u_16, e_14, f_17, rfl, rfl⟩, rfl⟩
    refine ⟨(by simp), ?_⟩
    refine jL (i := 3) ?_
    refine jO rfl rfl (jI [0, 0, 0] Tryz.call84 rfl (N_sNumAt x_5 m_6 k_4 (by omega) (by omega) u_16) rfl (fun _ _ => trivial)) ?_
    rintro _ _ ⟨_, ⟨x_26, m_27, n_28, e_24, k_25, f_29, rfl, rfl⟩, rfl⟩
    refine ⟨(by simp), ?_⟩
    refine jK 4 rfl (jC (v := .tuple #[mv x_26 m_27, iv n_28]) rfl) <| jK 5 rfl (jS (v := mv x_26 m_27) rfl rfl) <| jK 6 rfl (jS (v := iv n_28) rfl rfl) <| jL (i := 7) ?_
    refine jo rfl (jW 4 x_26 m_27 rfl rfl rfl rfl) ?_
    rintro _ _ rfl
    refine jK 8 rfl (jG (v := iv n_28) rfl) <| kG (by kernel_rfl) <| jB <| jD <| jq [mb b_1 x_26 m_27] 7 mixed (by simp) <| jl 0 rfl (jP 0 x_26 m_27 rfl rfl) <| jK 1 rfl (jC (v := iv id) rfl) <| jL (i := 2) ?_
    refine jO rfl rfl (jI [] Tryz.call98 rfl (N_l08Key id [47, 104] (by omega) (show List.length ([47, 104] : Str) ≤ 2 by decide) (by omega)) rfl (fun _ _ => trivial)) ?_
    rintro _ _ ⟨_, ⟨u_36, e_34, f_37, rfl, rfl⟩, rfl⟩
    refine ⟨(by simp), ?_⟩
    refine jL (i := 3) ?_
    refine jO rfl rfl (jI [0, 0, 0] Tryz.call84 rfl (N_sNumAt x_26 m_27 k_25 (by omega) (by omega) u_36) rfl (fun _ _ => trivial)) ?_
    rintro _ _ ⟨_, ⟨x_46, m_47, n_48, e_44, k_45, f_49, rfl, rfl⟩, rfl⟩
    refine ⟨(by simp), ?_⟩
    refine jK 4 rfl (jC (v := .tuple #[mv x_46 m_47, iv n_48]) rfl) <| jK 5 rfl (jS (v := mv x_46 m_47) rfl rfl) <| jK 6 rfl (jS (v := iv n_48) rfl rfl) <| jL (i := 7) ?_
    refine jo rfl (jW 4 x_46 m_47 rfl rfl rfl rfl) ?_
    rintro _ _ rfl
    refine jK 8 rfl (jG (v := iv n_48) rfl) <| kG (by kernel_rfl) <| jB <| jD <| jD <| jF <| jA (jC (v := iv n_28) rfl) <| jA (jC (v := iv n_48) rfl) <| jA (kR (c := n_28 - n_48) rfl rfl (wr (by omega))) <| jA (kT rfl rfl) ?_
    refine jE <| jB ?_
    by_cases h_50 : 4 ≤ (n_28 - n_48)
    · refine jR (cB (dT h_50)) <| jD <| jF <| jT (jP 4 x_46 m_47 rfl rfl) ?_
      refine jH rfl (jW 3 x_46 m_47 rfl rfl rfl rfl) ?_
      rintro _ _ rfl
      refine jA (jG (v := iv 5) rfl) <| jE <| jB <| jM <| jX <| jj (.inl rfl) rfl (je (jP 3 x_46 m_47 rfl rfl) ⟨_, rfl⟩) (jN (v := iv 5) rfl) (tS 3 _) ?_
      exact ⟨x_46, m_47, 5, (by simp only [MS.putPipe, hexS_P, e_3, h_8, h_9, e_14, e_24, e_34, e_44, h_50, SB]; (repeat (first | rw [if_pos (by omega)] | rw [if_neg (by omega)])); all_goals (first | rfl | simp only [SB, e_3, h_8, h_9, e_14, e_24, e_34, e_44, h_50])), (k_45.mono (by omega) (by omega)), (by first | omega | (simp only [LE]; omega)), rfl, rfl⟩
    refine jQ (cB (dF h_50)) <| jU <| jB <| jD <| jD <| jF <| jA (jC (v := iv n_28) rfl) <| jA (kT rfl rfl) <| jE <| jB ?_
    by_cases h_51 : 999 ≤ n_28
    · refine jR (cB (dT h_51)) <| jD <| jF <| jT (jP 4 x_46 m_47 rfl rfl) ?_
      refine jH rfl (jW 3 x_46 m_47 rfl rfl rfl rfl) ?_
      rintro _ _ rfl
      refine jA (jG (v := iv 3) rfl) <| jE <| jB <| jM <| jX <| jj (.inl rfl) rfl (je (jP 3 x_46 m_47 rfl rfl) ⟨_, rfl⟩) (jN (v := iv 3) rfl) (tS 3 _) ?_
      exact ⟨x_46, m_47, 3, (by simp only [MS.putPipe, hexS_P, e_3, h_8, h_9, e_14, e_24, e_34, e_44, h_50, h_51, SB]; (repeat (first | rw [if_pos (by omega)] | rw [if_neg (by omega)])); all_goals (first | rfl | simp only [SB, e_3, h_8, h_9, e_14, e_24, e_34, e_44, h_50, h_51])), (k_45.mono (by omega) (by omega)), (by first | omega | (simp only [LE]; omega)), rfl, rfl⟩
    refine jQ (cB (dF h_51)) <| jU <| jB <| jD <| jF <| jA (jC (v := str text) rfl) ?_
    refine jH rfl (jI [] Tryz.call100 rfl (N_sHex text (by omega)) rfl (fun _ _ => trivial)) ?_
    rintro _ _ ⟨_, ⟨u_54, b_56, e_52, f_55, rfl, rfl⟩, rfl⟩
    refine jA (jC (v := .tuple #[str u_54, .bool b_56]) rfl) <| jA (jS (v := str u_54) rfl rfl) <| jA (jS (v := .bool b_56) rfl rfl) <| jA (jG (v := str u_54) rfl) <| jA (jG (v := .bool b_56) rfl) <| jE <| jB <| jD <| jq [mb b_1 x_46 m_47] 5 mixed (by simp) <| jl 0 rfl (jP 0 x_46 m_47 rfl rfl) ?_
    refine jK 1 rfl (jC (v := iv id) rfl) <| jK 3 rfl (jC (v := iv n_28) rfl) <| jK 4 rfl (jg (c := n_28 + 1) rfl rfl (wr (by omega))) <| jL (i := 2) ?_
    refine jO rfl rfl (jI [] Tryz.call98 rfl (N_l08Key id [47, 116] (by omega) (show List.length ([47, 116] : Str) ≤ 2 by decide) (by omega)) rfl (fun _ _ => trivial)) ?_
    rintro _ _ ⟨_, ⟨u_71, e_69, f_72, rfl, rfl⟩, rfl⟩
    have hqe_69 := e_14.symm.trans e_69
    subst hqe_69
    refine ⟨(by simp), ?_⟩
    refine jL (i := 5) ?_
    refine jo rfl (jI [0, 0, 0] Tryz.call90 rfl (N_sSetNum x_46 m_47 k_45 (by omega) (by omega) u_16 (n_28 + 1) (by omega) (by omega)) rfl (fun _ _ => trivial)) ?_
    rintro _ _ ⟨_, ⟨x_79, m_80, e_77, k_78, rfl, rfl⟩, rfl⟩
    refine jL (i := 6) ?_
    refine jp rfl (jW 4 x_79 m_80 rfl rfl rfl rfl) ?_
    rintro _ _ rfl
    refine jB <| jD <| jq [mb b_1 x_79 m_80] 7 mixed (by simp) <| jl 0 rfl (jP 0 x_79 m_80 rfl rfl) <| jK 1 rfl (jC (v := iv id) rfl) <| jK 2 rfl (jC (v := iv n_28) rfl) <| jK 3 rfl (jg (c := n_28 + 1) rfl rfl (wr (by omega))) <| jK 5 rfl (jC (v := str u_54) rfl) <| jK 6 rfl (kO rfl rfl (by (try simp only [List.length_append, List.length_cons, List.length_nil, List.length_drop, List.length_take]); omega)) <| jL (i := 4) ?_
    refine jO rfl rfl (jI [] Tryz.call101 rfl (N_l08Message id (n_28 + 1) (by omega) (by omega)) rfl (fun _ _ => trivial)) ?_
    rintro _ _ ⟨_, ⟨u_95, e_93, f_96, rfl, rfl⟩, rfl⟩
    refine ⟨(by simp), ?_⟩
    refine jL (i := 7) ?_
    refine jo rfl (jI [0, 0, 0] Tryz.call92 rfl (N_sLay x_79 m_80 k_78 (by omega) (by omega) u_95 ([45] ++ u_54) (by omega)) rfl (fun _ _ => trivial)) ?_
    rintro _ _ ⟨_, ⟨x_103, m_104, e_101, k_102, rfl, rfl⟩, rfl⟩
    refine jL (i := 8) ?_
    refine jo rfl (jW 3 x_103 m_104 rfl rfl rfl rfl) ?_
    rintro _ _ rfl
    refine jK 9 rfl (jG (v := iv 0) rfl) <| kG (by kernel_rfl) <| jB <| jM <| jj (.inl rfl) rfl (je (jP 3 x_103 m_104 rfl rfl) ⟨_, rfl⟩) (jN (v := iv 0) rfl) (tS 3 _) ?_
    exact ⟨x_103, m_104, 0, (by simp only [MS.putPipe, hexS_P, e_3, h_8, h_9, e_14, e_24, e_34, e_44, h_50, h_51, e_52, e_77, e_93, e_101, SB]; (repeat (first | rw [if_pos (by omega)] | rw [if_neg (by omega)])); all_goals (first | rfl | simp only [SB, e_3, h_8, h_9, e_14, e_24, e_34, e_44, h_50, h_51, e_52, e_77, e_93, e_101])), (k_102.mono (by omega) (by omega)), (by first | omega | (simp only [LE]; omega)), rfl, rfl⟩
  refine jR (cB (cN h_8)) <| jD <| jF <| jT (jP 4 x_5 m_6 rfl rfl) ?_
  refine jH rfl (jW 3 x_5 m_6 rfl rfl rfl rfl) ?_
  rintro _ _ rfl
  refine jA (jG (v := iv 2) rfl) <| jE <| jB <| jM <| jX <| jj (.inl rfl) rfl (je (jP 3 x_5 m_6 rfl rfl) ⟨_, rfl⟩) (jN (v := iv 2) rfl) (tS 3 _) ?_
  exact ⟨x_5, m_6, 2, (by simp only [MS.putPipe, hexS_P, e_3, h_8, SB]; (repeat (first | rw [if_pos (by omega)] | rw [if_neg (by omega)])); all_goals (first | rfl | simp only [SB, e_3, h_8])), (k_4.mono (by omega) (by omega)), (by first | omega | (simp only [LE]; omega)), rfl, rfl⟩

theorem N_takePipe (p : Nat) (x : MA) (m : MS) {S T : Nat} (hk : m.ok S T) (hS : S ≤ 50000000) (hT : T ≤ 50000000) (id : Int) (hid : -9223372036854775808 ≤ id ∧ id ≤ 9223372036854775807) :
    Ct Tryz.prog 64 [.pointer (some ⟨p, 0, none⟩), .int .i64 id] (mb p x m :: mr x m) (fun w => HexOk w) (fun v A' => ∃ x' m' r0 r1, MS.takePipe m id = (m', r0, r1) ∧ m'.ok (S + 1) (T + 6) ∧ r0.length ≤ 20000 ∧ (0 ≤ r1 ∧ r1 ≤ 9) ∧ v = .tuple #[str r0, .int .i64 r1] ∧ A' = mb p x' m' :: mr x' m') := by
  refine Ct.introL Tryz.func64 rfl Tryz.ntmps64 (lb rfl) fun w0 hpre hlow => ?_
  refine jD <| jF <| jA (jG (v := str []) rfl) <| jA (jG (v := iv 0) rfl) <| jE <| jB <| jD <| jD <| jF <| jA (jC (v := pv p) rfl) ?_
  refine jA (jC (v := iv id) rfl) ?_
  refine jH rfl (jI [0, 0, 0, 0] Tryz.call135 rfl (N_isPipe p x m hk (by omega) (by omega) id (by omega)) rfl (fun _ _ => trivial)) ?_
  rintro _ _ ⟨_, ⟨x_3, m_4, b_5, e_1, k_2, rfl, rfl⟩, rfl⟩
  refine jA (kA rfl) <| jE <| jB ?_
  rcases Bool.eq_false_or_eq_true (b_5) with h_6 | h_6
  · refine jQ (cB (cN h_6)) <| jU <| jB <| jD <| jF <| jA (jC (v := pv p) rfl) <| jA (jC (v := iv id) rfl) ?_
    refine jH rfl (jI [] Tryz.call134 rfl (N_pipeKey id [47, 104] (by omega) (show List.length ([47, 104] : Str) ≤ 2 by decide) (by omega)) rfl (fun _ _ => trivial)) ?_
    rintro _ _ ⟨_, ⟨u_9, e_7, f_10, rfl, rfl⟩, rfl⟩
    refine jH rfl (jI [0, 0, 0, 0] Tryz.call118 rfl (N_num p x_3 m_4 k_2 (by omega) (by omega) u_9) rfl (fun _ _ => trivial)) ?_
    rintro _ _ ⟨_, ⟨x_13, m_14, n_15, e_11, k_12, f_16, rfl, rfl⟩, rfl⟩
    refine jA (jG (v := iv n_15) rfl) <| jE <| jB <| jD <| jD <| jF <| jA (jC (v := pv p) rfl) <| jA (jC (v := iv id) rfl) ?_
    refine jH rfl (jI [] Tryz.call134 rfl (N_pipeKey id [47, 116] (by omega) (show List.length ([47, 116] : Str) ≤ 2 by decide) (by omega)) rfl (fun _ _ => trivial)) ?_
    rintro _ _ ⟨_, ⟨u_19, e_17, f_20, rfl, rfl⟩, rfl⟩
    refine jH rfl (jI [0, 0, 0, 0] Tryz.call118 rfl (N_num p x_13 m_14 k_12 (by omega) (by omega) u_19) rfl (fun _ _ => trivial)) ?_
    rintro _ _ ⟨_, ⟨x_23, m_24, n_25, e_21, k_22, f_26, rfl, rfl⟩, rfl⟩
    refine jA (jC (v := iv n_15) rfl) <| jA (ju rfl rfl) <| jE <| jB ?_
    by_cases h_27 : n_25 = n_15
    · refine jR (cB (dT h_27)) <| jD <| jF <| jA (jG (v := str []) rfl) <| jA (jG (v := iv 5) rfl) <| jE <| jB <| jM <| jX <| jj (.inl rfl) rfl (jN (v := str []) rfl) (jN (v := iv 5) rfl) (List.Sublist.refl _) ?_
      exact ⟨x_23, m_24, [], 5, (by simp only [MS.takePipe, e_1, h_6, e_7, e_11, e_17, e_21, h_27, SB]; (repeat (first | rw [if_pos (by omega)] | rw [if_neg (by omega)])); all_goals (first | rfl | simp only [SB, e_1, h_6, e_7, e_11, e_17, e_21, h_27])), (k_22.mono (by omega) (by omega)), (by first | omega | (simp only [LE]; omega)), (by first | omega | (simp only [LE]; omega)), rfl, rfl⟩
    refine jQ (cB (dF h_27)) <| jU <| jB <| jD <| jF <| jA (jC (v := iv id) rfl) ?_
    refine jH rfl (jI [] Tryz.call134 rfl (N_pipeKey id [47, 113, 47] (by omega) (show List.length ([47, 113, 47] : Str) ≤ 3 by decide) (by omega)) rfl (fun _ _ => trivial)) ?_
    rintro _ _ ⟨_, ⟨u_30, e_28, f_31, rfl, rfl⟩, rfl⟩
    refine jA (jC (v := iv n_15) rfl) <| jA (jg (c := n_15 + 1) rfl rfl (wr (by omega))) ?_
    refine jH rfl (jI [] Tryz.call129 rfl (N_keyNum u_30 (n_15 + 1) [] (Nat.le_refl _) (by omega) (show List.length ([] : Str) ≤ 0 by decide) (by omega)) rfl (fun _ _ => trivial)) ?_
    rintro _ _ ⟨_, ⟨u_34, e_32, f_35, rfl, rfl⟩, rfl⟩
    refine jA (jG (v := str u_34) rfl) <| jE <| jB <| jD <| jF <| jA (jC (v := pv p) rfl) <| jA (jC (v := str u_34) rfl) ?_
    refine jH rfl (jI [0, 0, 0, 0] Tryz.call137 rfl (N_message p x_23 m_24 k_22 (by omega) (by omega) u_34) rfl (fun w hw => hw.hex hlow hpre)) ?_
    rintro _ _ ⟨_, ⟨x_38, m_39, u_40, e_36, k_37, f_41, rfl, rfl⟩, rfl⟩
    refine jA (jG (v := str u_40) rfl) <| jE <| jB <| jD <| jF <| jA (jC (v := pv p) rfl) <| jA (jC (v := str u_34) rfl) ?_
    refine jH rfl (jI [0, 0, 0, 0] Tryz.call127 rfl (N_layNil p x_38 m_39 k_37 (by omega) (by omega) u_34 (by omega)) rfl (fun _ _ => trivial)) ?_
    rintro _ _ ⟨_, ⟨x_44, m_45, e_42, k_43, rfl, rfl⟩, rfl⟩
    refine jE <| jB <| jD <| jF <| jA (jC (v := pv p) rfl) <| jA (jC (v := iv id) rfl) ?_
    refine jH rfl (jI [] Tryz.call134 rfl (N_pipeKey id [47, 104] (by omega) (show List.length ([47, 104] : Str) ≤ 2 by decide) (by omega)) rfl (fun _ _ => trivial)) ?_
    rintro _ _ ⟨_, ⟨u_48, e_46, f_49, rfl, rfl⟩, rfl⟩
    have hqe_46 := e_7.symm.trans e_46
    subst hqe_46
    refine jA (jC (v := iv n_15) rfl) <| jA (jg (c := n_15 + 1) rfl rfl (wr (by omega))) ?_
    refine jH rfl (jI [0, 0, 0, 0] Tryz.call124 rfl (N_setNum p x_44 m_45 k_43 (by omega) (by omega) u_9 (n_15 + 1) (by omega) (by omega)) rfl (fun _ _ => trivial)) ?_
    rintro _ _ ⟨_, ⟨x_52, m_53, e_50, k_51, rfl, rfl⟩, rfl⟩
    refine jE <| jB <| jD <| jF <| jA (jC (v := str u_40) rfl) <| jA (jG (v := str u_40) rfl) <| jA (jG (v := iv 0) rfl) <| jE <| jB <| jM ?_
    refine jj (.inl rfl) rfl (jN (v := str u_40) rfl) (jN (v := iv 0) rfl) (List.Sublist.refl _) ?_
    exact ⟨x_52, m_53, u_40, 0, (by simp only [MS.takePipe, e_1, h_6, e_7, e_11, e_17, e_21, h_27, e_28, e_32, e_36, e_42, e_50, SB]; (repeat (first | rw [if_pos (by omega)] | rw [if_neg (by omega)])); all_goals (first | rfl | simp only [SB, e_1, h_6, e_7, e_11, e_17, e_21, h_27, e_28, e_32, e_36, e_42, e_50])), (k_51.mono (by omega) (by omega)), (by first | omega | (simp only [LE]; omega)), (by first | omega | (simp only [LE]; omega)), rfl, rfl⟩
  refine jR (cB (cN h_6)) <| jD <| jF <| jA (jG (v := str []) rfl) <| jA (jG (v := iv 2) rfl) <| jE <| jB <| jM <| jX <| jj (.inl rfl) rfl (jN (v := str []) rfl) (jN (v := iv 2) rfl) (List.Sublist.refl _) ?_
  exact ⟨x_3, m_4, [], 2, (by simp only [MS.takePipe, e_1, h_6, SB]; (repeat (first | rw [if_pos (by omega)] | rw [if_neg (by omega)])); all_goals (first | rfl | simp only [SB, e_1, h_6])), (k_2.mono (by omega) (by omega)), (by first | omega | (simp only [LE]; omega)), (by first | omega | (simp only [LE]; omega)), rfl, rfl⟩

theorem M_takePipe (x : MA) (m : MS) {S T : Nat} (hk : m.ok S T) (hS : S ≤ 50000000) (hT : T ≤ 50000000) (id : Int) (hid : -9223372036854775808 ≤ id ∧ id ≤ 9223372036854775807) :
    Ct Tryz.prog 40 [mv x m, .int .i64 id] (mr x m) (fun _ => True) (fun v A' => ∃ x' m' r0 r1, MS.takePipe m id = (m', r0, r1) ∧ m'.ok (S + 1) (T + 6) ∧ r0.length ≤ 20000 ∧ (0 ≤ r1 ∧ r1 ≤ 9) ∧ v = .tuple #[mv x' m', str r0, .int .i64 r1] ∧ A' = mr x' m') := by
  refine Ct.intro Tryz.func40 rfl Tryz.ntmps40 (lb rfl) fun w0 hpre => ?_
  refine jD <| jF ?_
  refine jH rfl (jv (cs := (mc x m)) rfl rfl) ?_
  rintro _ _ ⟨b_1, rfl, rfl⟩
  refine jH rfl (jh (z := zM) (cs := zC) kd rfl) ?_
  rintro _ _ ⟨b_2, rfl, rfl⟩
  refine jA (jG (v := str []) rfl) <| jA (jG (v := iv 0) rfl) <| jE <| jB <| jD <| jF <| jT (jP 1 x m rfl rfl) <| jA (jC (v := iv id) rfl) ?_
  refine jH rfl (jI [2, 2, 2] Tryz.call99 rfl (M_isPipe x m hk (by omega) (by omega) id (by omega)) rfl (fun _ _ => trivial)) ?_
  rintro _ _ ⟨_, ⟨x_5, m_6, b_7, e_3, k_4, rfl, rfl⟩, rfl⟩
  refine jA (jC (v := .tuple #[mv x_5 m_6, .bool b_7]) rfl) <| jA (jS (v := mv x_5 m_6) rfl rfl) <| jA (jS (v := .bool b_7) rfl rfl) ?_
  refine jH rfl (jW 4 x_5 m_6 rfl rfl rfl rfl) ?_
  rintro _ _ rfl
  refine jA (jG (v := .bool b_7) rfl) <| jE <| jB <| jD <| jD <| jF <| jA (jC (v := .bool b_7) rfl) <| jA (kA rfl) <| jE <| jB ?_
  rcases Bool.eq_false_or_eq_true (b_7) with h_8 | h_8
  · refine jQ (cB (cN h_8)) <| jU <| jB <| jD <| jq [mb b_1 x_5 m_6] 7 mixed (by simp) <| jl 0 rfl (jP 0 x_5 m_6 rfl rfl) <| jK 1 rfl (jC (v := iv id) rfl) <| jL (i := 2) ?_
    refine jO rfl rfl (jI [] Tryz.call98 rfl (N_l08Key id [47, 104] (by omega) (show List.length ([47, 104] : Str) ≤ 2 by decide) (by omega)) rfl (fun _ _ => trivial)) ?_
    rintro _ _ ⟨_, ⟨u_15, e_13, f_16, rfl, rfl⟩, rfl⟩
    refine ⟨(by simp), ?_⟩
    refine jL (i := 3) ?_
    refine jO rfl rfl (jI [0, 0, 0] Tryz.call84 rfl (N_sNumAt x_5 m_6 k_4 (by omega) (by omega) u_15) rfl (fun _ _ => trivial)) ?_
    rintro _ _ ⟨_, ⟨x_25, m_26, n_27, e_23, k_24, f_28, rfl, rfl⟩, rfl⟩
    refine ⟨(by simp), ?_⟩
    refine jK 4 rfl (jC (v := .tuple #[mv x_25 m_26, iv n_27]) rfl) <| jK 5 rfl (jS (v := mv x_25 m_26) rfl rfl) <| jK 6 rfl (jS (v := iv n_27) rfl rfl) <| jL (i := 7) ?_
    refine jo rfl (jW 4 x_25 m_26 rfl rfl rfl rfl) ?_
    rintro _ _ rfl
    refine jK 8 rfl (jG (v := iv n_27) rfl) <| kG (by kernel_rfl) <| jB <| jD <| jq [mb b_1 x_25 m_26] 7 mixed (by simp) <| jl 0 rfl (jP 0 x_25 m_26 rfl rfl) <| jK 1 rfl (jC (v := iv id) rfl) <| jL (i := 2) ?_
    refine jO rfl rfl (jI [] Tryz.call98 rfl (N_l08Key id [47, 116] (by omega) (show List.length ([47, 116] : Str) ≤ 2 by decide) (by omega)) rfl (fun _ _ => trivial)) ?_
    rintro _ _ ⟨_, ⟨u_35, e_33, f_36, rfl, rfl⟩, rfl⟩
    refine ⟨(by simp), ?_⟩
    refine jL (i := 3) ?_
    refine jO rfl rfl (jI [0, 0, 0] Tryz.call84 rfl (N_sNumAt x_25 m_26 k_24 (by omega) (by omega) u_35) rfl (fun _ _ => trivial)) ?_
    rintro _ _ ⟨_, ⟨x_45, m_46, n_47, e_43, k_44, f_48, rfl, rfl⟩, rfl⟩
    refine ⟨(by simp), ?_⟩
    refine jK 4 rfl (jC (v := .tuple #[mv x_45 m_46, iv n_47]) rfl) <| jK 5 rfl (jS (v := mv x_45 m_46) rfl rfl) <| jK 6 rfl (jS (v := iv n_47) rfl rfl) <| jL (i := 7) ?_
    refine jo rfl (jW 4 x_45 m_46 rfl rfl rfl rfl) ?_
    rintro _ _ rfl
    refine jK 8 rfl (jG (v := iv n_47) rfl) <| kG (by kernel_rfl) <| jB <| jD <| jD <| jF <| jA (jC (v := iv n_27) rfl) <| jA (jC (v := iv n_47) rfl) <| jA (ju rfl rfl) <| jE ?_
    refine jB ?_
    by_cases h_49 : n_27 = n_47
    · refine jR (cB (dT h_49)) <| jD <| jF <| jT (jP 4 x_45 m_46 rfl rfl) ?_
      refine jH rfl (jW 3 x_45 m_46 rfl rfl rfl rfl) ?_
      rintro _ _ rfl
      refine jA (jG (v := str []) rfl) <| jA (jG (v := iv 5) rfl) <| jE <| jB <| jM <| jX <| Done.three (.inl rfl) rfl (je (jP 3 x_45 m_46 rfl rfl) ⟨_, rfl⟩) (jN (v := str []) rfl) (jN (v := iv 5) rfl) (tS 3 _) ?_
      exact ⟨x_45, m_46, [], 5, (by simp only [MS.takePipe, MS.message, e_3, h_8, e_13, e_23, e_33, e_43, h_49, SB]; (repeat (first | rw [if_pos (by omega)] | rw [if_neg (by omega)])); all_goals (first | rfl | simp only [SB, e_3, h_8, e_13, e_23, e_33, e_43, h_49])), (k_44.mono (by omega) (by omega)), (by first | omega | (simp only [LE]; omega)), (by first | omega | (simp only [LE]; omega)), rfl, rfl⟩
    refine jQ (cB (dF h_49)) <| jU <| jB <| jD <| jq [mb b_1 x_45 m_46] 9 mixed (by simp) <| jl 0 rfl (jP 0 x_45 m_46 rfl rfl) <| jK 1 rfl (jC (v := iv id) rfl) <| jK 2 rfl (jC (v := iv n_27) rfl) <| jK 3 rfl (jg (c := n_27 + 1) rfl rfl (wr (by omega))) <| jL (i := 4) ?_
    refine jO rfl rfl (jI [] Tryz.call101 rfl (N_l08Message id (n_27 + 1) (by omega) (by omega)) rfl (fun _ _ => trivial)) ?_
    rintro _ _ ⟨_, ⟨u_56, e_54, f_57, rfl, rfl⟩, rfl⟩
    refine ⟨(by simp), ?_⟩
    refine jL (i := 5) ?_
    refine jO rfl rfl (jI [0, 0, 0] Tryz.call102 rfl (N_sLook x_45 m_46 k_44 (by omega) (by omega) u_56) rfl (fun _ _ => trivial)) ?_
    rintro _ _ ⟨_, ⟨x_66, m_67, u_68, e_64, k_65, f_69, rfl, rfl⟩, rfl⟩
    refine ⟨(by simp), ?_⟩
    refine jK 6 rfl (jC (v := .tuple #[mv x_66 m_67, str u_68]) rfl) <| jK 7 rfl (jS (v := mv x_66 m_67) rfl rfl) <| jK 8 rfl (jS (v := str u_68) rfl rfl) <| jL (i := 9) ?_
    refine jo rfl (jW 4 x_66 m_67 rfl rfl rfl rfl) ?_
    rintro _ _ rfl
    refine jK 10 rfl (jG (v := str u_68) rfl) <| kG (by kernel_rfl) <| jB <| jD <| jF <| jA (jG (v := str []) rfl) <| jE <| jB <| jD ?_
    refine JC.cut (fun e_ L_ => e_ 1 = iv id ∧ e_ 2 = .pointer (some ⟨b_1, 0, none⟩) ∧ e_ 4 = .pointer (some ⟨b_2, 0, none⟩) ∧ e_ 5 = str [] ∧ e_ 6 = iv 0 ∧ e_ 8 = iv n_27 ∧ e_ 11 = str (messageOf u_68) ∧ L_ = [rC x_66.a0 x_66.c0 m_67.s, rS x_66.a1 x_66.c1 m_67.r, rS x_66.a2 x_66.c2 m_67.w, bk b_2 35 zC, mb b_1 x_66 m_67]) ?_ ?_
    · refine jD <| jF <| jA (jC (v := str u_68) rfl) <| jA (PO.neqS rfl rfl) <| jA (jC (v := .bool (!(decide (u_68 = [])))) rfl) ?_
      by_cases h_70 : u_68 = []
      · have hm := messageOf_nil h_70
        refine jY (b := false) rfl rfl rfl (cB (cN (dT h_70))) <| jY (b := false) rfl rfl rfl (cB (cN (dT h_70))) <| jY (b := false) rfl rfl rfl (cB (cN (dT h_70))) <| jA (jw (v := .bool false) (cB (cN (dT h_70))) rfl) <| jE <| jB <| jQ (cB rfl) <| jU <| jr [0, 0, 0, 0, 0] (A := [rC x_66.a0 x_66.c0 m_67.s, rS x_66.a1 x_66.c1 m_67.r, rS x_66.a2 x_66.c2 m_67.w, bk b_2 35 zC, mb b_1 x_66 m_67]) rfl ?_
        exact jy ⟨rfl, rfl, rfl, rfl, rfl, rfl, (congrArg str hm.symm), rfl⟩
      have h_70l := List.length_pos_iff.2 h_70
      refine jb rfl rfl rfl (cB (cN (dF h_70))) (ja (jd (jC (v := str u_68) rfl))) ?_
      rintro _ _ ⟨rfl, rfl⟩
      refine jb rfl rfl rfl (cB (cN (dF h_70))) (ja (jd (PO.indexS (i := 0) (c := u_68.getD 0 0) kY rfl rfl (getD_some (by omega))))) ?_
      rintro _ _ ⟨rfl, rfl⟩
      have hu_71 := UInt8.toNat_lt (u_68.getD 0 0)
      refine jb rfl rfl rfl (cB (cN (dF h_70))) (ja (jd (ju rfl rfl))) ?_
      rintro _ _ ⟨rfl, rfl⟩
      refine jA (jx (v := .bool (decide (((u_68.getD 0 0).toNat : Int) = 45))) (cB (cN (dF h_70))) rfl) <| jE <| jB ?_
      by_cases h_72 : ((u_68.getD 0 0).toNat : Int) = 45
      · have hm_73 := messageOf_one h_70 h_72
        refine jR (cB (dT h_72)) <| jF <| jA (jC (v := str u_68) rfl) <| jA (PO.sliceSl (i := 1) kY rfl rfl (by omega)) ?_
        refine jH rfl (jI [] Tryz.call103 rfl (N_sUnhex (u_68.drop 1) (by first | omega | (simp only [LE]; omega))) rfl (fun _ _ => trivial)) ?_
        rintro _ _ ⟨_, ⟨u_76, b_78, e_74, f_77, rfl, rfl⟩, rfl⟩
        refine jA (jC (v := .tuple #[str u_76, .bool b_78]) rfl) <| jA (jS (v := str u_76) rfl rfl) <| jA (jS (v := .bool b_78) rfl rfl) <| jA (jG (v := str u_76) rfl) <| jE <| jr [0, 0, 0, 0, 0] (A := [rC x_66.a0 x_66.c0 m_67.s, rS x_66.a1 x_66.c1 m_67.r, rS x_66.a2 x_66.c2 m_67.w, bk b_2 35 zC, mb b_1 x_66 m_67]) rfl ?_
        exact jy ⟨rfl, rfl, rfl, rfl, rfl, rfl, (congrArg str (hm_73.trans (congrArg Prod.fst e_74)).symm), rfl⟩
      have hm_79 := messageOf_no h_72
      refine jQ (cB (dF h_72)) <| jU <| jr [0, 0, 0, 0, 0] (A := [rC x_66.a0 x_66.c0 m_67.s, rS x_66.a1 x_66.c1 m_67.r, rS x_66.a2 x_66.c2 m_67.w, bk b_2 35 zC, mb b_1 x_66 m_67]) rfl ?_
      exact jy ⟨rfl, rfl, rfl, rfl, rfl, rfl, (congrArg str hm_79.symm), rfl⟩
    rintro e_80 _ ⟨he_81, he_82, he_83, he_84, he_85, he_86, he_87, rfl⟩
    have hml := messageOf_len u_68
    refine jB <| jD <| jq [mb b_1 x_66 m_67] 5 mixed (by simp) <| jl 0 rfl (jP 0 x_66 m_67 rfl he_82) <| jK 1 rfl (jC (v := iv id) he_81) <| jK 2 rfl (jC (v := iv n_27) he_86) <| jK 3 rfl (jg (c := n_27 + 1) rfl rfl (wr (by omega))) <| jL (i := 4) ?_
    refine jO rfl rfl (jI [] Tryz.call101 rfl (N_l08Message id (n_27 + 1) (by omega) (by omega)) rfl (fun _ _ => trivial)) ?_
    rintro _ _ ⟨_, ⟨u_94, e_92, f_95, rfl, rfl⟩, rfl⟩
    have hqe_92 := e_54.symm.trans e_92
    subst hqe_92
    refine ⟨(by simp), ?_⟩
    refine jL (i := 5) ?_
    refine jo rfl (jI [0, 0, 0] Tryz.call92 rfl (N_sLayNil x_66 m_67 k_65 (by omega) (by omega) u_56 (by omega)) rfl (fun _ _ => trivial)) ?_
    rintro _ _ ⟨_, ⟨x_102, m_103, e_100, k_101, rfl, rfl⟩, rfl⟩
    refine jL (i := 6) ?_
    refine jp rfl (jW 4 x_102 m_103 rfl he_82 rfl rfl) ?_
    rintro _ _ rfl
    refine jB <| jD <| jq [mb b_1 x_102 m_103] 7 mixed (by simp) <| jl 0 rfl (jP 0 x_102 m_103 rfl he_82) <| jK 1 rfl (jC (v := iv id) he_81) <| jK 3 rfl (jC (v := iv n_27) he_86) <| jK 4 rfl (jg (c := n_27 + 1) rfl rfl (wr (by omega))) <| jK 6 rfl (jC (v := str (messageOf u_68)) he_87) <| jL (i := 2) ?_
    refine jO rfl rfl (jI [] Tryz.call98 rfl (N_l08Key id [47, 104] (by omega) (show List.length ([47, 104] : Str) ≤ 2 by decide) (by omega)) rfl (fun _ _ => trivial)) ?_
    rintro _ _ ⟨_, ⟨u_122, e_120, f_123, rfl, rfl⟩, rfl⟩
    have hqe_120 := e_13.symm.trans e_120
    subst hqe_120
    refine ⟨(by simp), ?_⟩
    refine jL (i := 5) ?_
    refine jO rfl rfl (jI [0, 0, 0] Tryz.call90 rfl (N_sSetNum x_102 m_103 k_101 (by omega) (by omega) u_15 (n_27 + 1) (by omega) (by omega)) rfl (fun _ _ => trivial)) ?_
    rintro _ _ ⟨_, ⟨x_130, m_131, e_128, k_129, rfl, rfl⟩, rfl⟩
    refine ⟨(by simp), ?_⟩
    refine jL (i := 7) ?_
    refine jo rfl (jW 3 x_130 m_131 rfl he_83 rfl rfl) ?_
    rintro _ _ rfl
    refine jK 8 rfl (jG (v := str (messageOf u_68)) rfl) <| jK 9 rfl (jG (v := iv 0) rfl) <| kG (by kernel_rfl) <| jB <| jM <| Done.three (.inl rfl) rfl (je (jP 3 x_130 m_131 rfl he_83) ⟨_, he_83⟩) (jN (v := str (messageOf u_68)) rfl) (jN (v := iv 0) rfl) (tS 3 _) ?_
    exact ⟨x_130, m_131, (messageOf u_68), 0, (by simp only [MS.takePipe, MS.message, e_3, h_8, e_13, e_23, e_33, e_43, h_49, e_54, e_64, e_100, e_128, SB]; (repeat (first | rw [if_pos (by omega)] | rw [if_neg (by omega)])); all_goals (first | rfl | simp only [SB, e_3, h_8, e_13, e_23, e_33, e_43, h_49, e_54, e_64, e_100, e_128])), (k_129.mono (by omega) (by omega)), (by first | omega | (simp only [LE]; omega)), (by first | omega | (simp only [LE]; omega)), rfl, rfl⟩
  refine jR (cB (cN h_8)) <| jD <| jF <| jT (jP 4 x_5 m_6 rfl rfl) ?_
  refine jH rfl (jW 3 x_5 m_6 rfl rfl rfl rfl) ?_
  rintro _ _ rfl
  refine jA (jG (v := str []) rfl) <| jA (jG (v := iv 2) rfl) <| jE <| jB <| jM <| jX <| Done.three (.inl rfl) rfl (je (jP 3 x_5 m_6 rfl rfl) ⟨_, rfl⟩) (jN (v := str []) rfl) (jN (v := iv 2) rfl) (tS 3 _) ?_
  exact ⟨x_5, m_6, [], 2, (by simp only [MS.takePipe, MS.message, e_3, h_8, SB]; (repeat (first | rw [if_pos (by omega)] | rw [if_neg (by omega)])); all_goals (first | rfl | simp only [SB, e_3, h_8])), (k_4.mono (by omega) (by omega)), (by first | omega | (simp only [LE]; omega)), (by first | omega | (simp only [LE]; omega)), rfl, rfl⟩

theorem N_storePage (p : Nat) (x : MA) (m : MS) {S T : Nat} (hk : m.ok S T) (hS : S ≤ 50000000) (hT : T ≤ 50000000) (id : Int) (page : Int) (text : Str) (hid : -9223372036854775808 ≤ id ∧ id ≤ 9223372036854775807) (hpage : -9223372036854775808 ≤ page ∧ page ≤ 9223372036854775807) (htext : text.length ≤ 1000000000000) :
    Ct Tryz.prog 76 [.pointer (some ⟨p, 0, none⟩), .int .i64 id, .int .i64 page, str text] (mb p x m :: mr x m) (fun _ => True) (fun v A' => ∃ x' m' r0, MS.storePage m id page text = (m', r0) ∧ m'.ok (S + 1) (T + 1) ∧ (0 ≤ r0 ∧ r0 ≤ 9) ∧ v = .int .i64 r0 ∧ A' = mb p x' m' :: mr x' m') := by
  refine Ct.intro Tryz.func76 rfl Tryz.ntmps76 (lb rfl) fun w0 hpre => ?_
  refine jD <| jF <| jA (jG (v := iv 0) rfl) <| jE <| jB <| jD <| jD <| jF <| jA (jC (v := iv page) rfl) ?_
  refine jH rfl (jI [] Tryz.call120 rfl (C_within page 0 3) rfl (fun _ _ => trivial)) ?_
  rintro _ _ ⟨_, ⟨rfl, rfl⟩, rfl⟩
  refine jA (kA rfl) <| jA (jC (v := .bool (!(decide (0 ≤ page) && decide (page ≤ 3)))) rfl) ?_
  rcases Bool.eq_false_or_eq_true (decide (0 ≤ page) && decide (page ≤ 3)) with h_1 | h_1
  · have h_1d := h_1
    simp only [Bool.and_eq_true, Bool.and_eq_false_iff, decide_eq_true_eq, decide_eq_false_iff_not] at h_1d
    refine jb rfl rfl rfl (cB (cN h_1)) (ja (jd (jC (v := str text) rfl))) ?_
    rintro _ _ ⟨rfl, rfl⟩
    refine jb rfl rfl rfl (cB (cN h_1)) (ja (jd (kJ kY rfl))) ?_
    rintro _ _ ⟨rfl, rfl⟩
    refine jb rfl rfl rfl (cB (cN h_1)) (ja (jd (kS rfl rfl))) ?_
    rintro _ _ ⟨rfl, rfl⟩
    refine jA (jw (v := .bool (decide (20 < (text.length : Int)))) (cB (cN h_1)) rfl) <| jE <| jB ?_
    by_cases h_2 : 20 < (text.length : Int)
    · refine jR (cB (dT h_2)) <| jD <| jF <| jA (jG (v := iv 4) rfl) <| jE <| jB <| jM <| jX <| jV (.inl rfl) rfl (jN (v := iv 4) rfl) (List.Sublist.refl _) ?_
      exact ⟨x, m, 4, (by simp only [MS.storePage, h_1, h_2, SB]; (repeat (first | rw [if_pos (by omega)] | rw [if_neg (by omega)])); all_goals (first | rfl | simp only [SB, h_1, h_2])), (hk.mono (by omega) (by omega)), (by first | omega | (simp only [LE]; omega)), rfl, rfl⟩
    refine jQ (cB (dF h_2)) <| jU <| jB <| jD <| jF <| jA (jG (v := str []) rfl) <| jE <| jB <| jD <| jD ?_
    refine jF <| jA (jC (v := str text) rfl) <| jA (PO.neqS rfl rfl) <| jE <| jB ?_
    by_cases h_3 : text = []
    · have h_3l : text.length = 0 := by rw [h_3]; rfl
      refine jQ (cB (cN (dT h_3))) <| jU <| jB <| jD <| jF <| jA (jC (v := pv p) rfl) <| jA (jC (v := iv id) rfl) ?_
      refine jH rfl (jI [] Tryz.call138 rfl (N_pagesKey id (by omega)) rfl (fun _ _ => trivial)) ?_
      rintro _ _ ⟨_, ⟨u_6, e_4, f_7, rfl, rfl⟩, rfl⟩
      refine jA (jC (v := iv page) rfl) ?_
      refine jH rfl (jI [] Tryz.call129 rfl (N_keyNum u_6 page [] (Nat.le_refl _) (by omega) (show List.length ([] : Str) ≤ 0 by decide) (by omega)) rfl (fun _ _ => trivial)) ?_
      rintro _ _ ⟨_, ⟨u_10, e_8, f_11, rfl, rfl⟩, rfl⟩
      refine jA (jC (v := str []) rfl) ?_
      refine jH rfl (jI [0, 0, 0, 0] Tryz.call127 rfl (N_layNil p x m hk (by omega) (by omega) u_10 (by omega)) rfl (fun _ _ => trivial)) ?_
      rintro _ _ ⟨_, ⟨x_14, m_15, e_12, k_13, rfl, rfl⟩, rfl⟩
      refine jE <| jB <| jD <| jF <| jA (jG (v := iv 0) rfl) <| jE <| jB <| jM <| jV (.inl rfl) rfl (jN (v := iv 0) rfl) (List.Sublist.refl _) ?_
      exact ⟨x_14, m_15, 0, (by simp only [MS.storePage, h_1, h_2, h_3, e_4, e_8, e_12, SB]; (repeat (first | rw [if_pos (by omega)] | rw [if_neg (by omega)])); all_goals (first | rfl | simp only [SB, h_1, h_2, h_3, e_4, e_8, e_12])), (k_13.mono (by omega) (by omega)), (by first | omega | (simp only [LE]; omega)), rfl, rfl⟩
    have h_3l := List.length_pos_iff.2 h_3
    refine jR (cB (cN (dF h_3))) <| jF <| jA (jC (v := str text) rfl) ?_
    refine jH rfl (jI [] Tryz.call136 rfl (N_hexOf text (by omega)) rfl (fun _ _ => trivial)) ?_
    rintro _ _ ⟨_, ⟨u_18, e_16, f_19, rfl, rfl⟩, rfl⟩
    refine jA (kO rfl rfl (by (try simp only [List.length_append, List.length_cons, List.length_nil, List.length_drop, List.length_take]); omega)) <| jA (jG (v := str ([45] ++ u_18)) rfl) <| jE <| jB <| jD <| jF <| jA (jC (v := pv p) rfl) <| jA (jC (v := iv id) rfl) ?_
    refine jH rfl (jI [] Tryz.call138 rfl (N_pagesKey id (by omega)) rfl (fun _ _ => trivial)) ?_
    rintro _ _ ⟨_, ⟨u_22, e_20, f_23, rfl, rfl⟩, rfl⟩
    refine jA (jC (v := iv page) rfl) ?_
    refine jH rfl (jI [] Tryz.call129 rfl (N_keyNum u_22 page [] (Nat.le_refl _) (by omega) (show List.length ([] : Str) ≤ 0 by decide) (by omega)) rfl (fun _ _ => trivial)) ?_
    rintro _ _ ⟨_, ⟨u_26, e_24, f_27, rfl, rfl⟩, rfl⟩
    refine jA (jC (v := str ([45] ++ u_18)) rfl) ?_
    refine jH rfl (jI [0, 0, 0, 0] Tryz.call127 rfl (N_lay p x m hk (by omega) (by omega) u_26 ([45] ++ u_18) (by omega)) rfl (fun _ _ => trivial)) ?_
    rintro _ _ ⟨_, ⟨x_30, m_31, e_28, k_29, rfl, rfl⟩, rfl⟩
    refine jE <| jB <| jD <| jF <| jA (jG (v := iv 0) rfl) <| jE <| jB <| jM <| jV (.inl rfl) rfl (jN (v := iv 0) rfl) (List.Sublist.refl _) ?_
    exact ⟨x_30, m_31, 0, (by simp only [MS.storePage, h_1, h_2, h_3, e_16, e_20, e_24, e_28, SB]; (repeat (first | rw [if_pos (by omega)] | rw [if_neg (by omega)])); all_goals (first | rfl | simp only [SB, h_1, h_2, h_3, e_16, e_20, e_24, e_28])), (k_29.mono (by omega) (by omega)), (by first | omega | (simp only [LE]; omega)), rfl, rfl⟩
  have h_1d := h_1
  simp only [Bool.and_eq_true, Bool.and_eq_false_iff, decide_eq_true_eq, decide_eq_false_iff_not] at h_1d
  refine jY (b := true) rfl rfl rfl (cB (cN h_1)) <| jY (b := true) rfl rfl rfl (cB (cN h_1)) <| jY (b := true) rfl rfl rfl (cB (cN h_1)) <| jA (jx (v := .bool true) (cB (cN h_1)) rfl) <| jE <| jB <| jR (cB rfl) <| jD <| jF <| jA (jG (v := iv 4) rfl) ?_
  refine jE <| jB <| jM <| jX <| jV (.inl rfl) rfl (jN (v := iv 4) rfl) (List.Sublist.refl _) ?_
  exact ⟨x, m, 4, (by simp only [MS.storePage, h_1, SB]; (repeat (first | rw [if_pos (by omega)] | rw [if_neg (by omega)])); all_goals (first | rfl | simp only [SB, h_1])), (hk.mono (by omega) (by omega)), (by first | omega | (simp only [LE]; omega)), rfl, rfl⟩

theorem M_storePage (x : MA) (m : MS) {S T : Nat} (hk : m.ok S T) (hS : S ≤ 50000000) (hT : T ≤ 50000000) (id : Int) (page : Int) (text : Str) (hid : -9223372036854775808 ≤ id ∧ id ≤ 9223372036854775807) (hpage : -9223372036854775808 ≤ page ∧ page ≤ 9223372036854775807) (htext : text.length ≤ 1000000000000) :
    Ct Tryz.prog 45 [mv x m, .int .i64 id, .int .i64 page, str text] (mr x m) (fun _ => True) (fun v A' => ∃ x' m' r0, MS.storePage m id page text = (m', r0) ∧ m'.ok (S + 1) (T + 1) ∧ (0 ≤ r0 ∧ r0 ≤ 9) ∧ v = .tuple #[mv x' m', .int .i64 r0] ∧ A' = mr x' m') := by
  refine Ct.intro Tryz.func45 rfl Tryz.ntmps45 (lb rfl) fun w0 hpre => ?_
  refine jD <| jF ?_
  refine jH rfl (jv (cs := (mc x m)) rfl rfl) ?_
  rintro _ _ ⟨b_1, rfl, rfl⟩
  refine jH rfl (jh (z := zM) (cs := zC) kd rfl) ?_
  rintro _ _ ⟨b_2, rfl, rfl⟩
  refine jA (jG (v := iv 0) rfl) <| jE <| jB <| jD <| jD <| jF <| jA (jC (v := iv page) rfl) ?_
  refine jH rfl (jI [] Tryz.call86 rfl (C_l01In page 0 3) rfl (fun _ _ => trivial)) ?_
  rintro _ _ ⟨_, ⟨rfl, rfl⟩, rfl⟩
  refine jA (kA rfl) <| jA (jC (v := .bool (!(decide (0 ≤ page) && decide (page ≤ 3)))) rfl) ?_
  rcases Bool.eq_false_or_eq_true (decide (0 ≤ page) && decide (page ≤ 3)) with h_3 | h_3
  · have h_3d := h_3
    simp only [Bool.and_eq_true, Bool.and_eq_false_iff, decide_eq_true_eq, decide_eq_false_iff_not] at h_3d
    refine jb rfl rfl rfl (cB (cN h_3)) (ja (jd (jC (v := str text) rfl))) ?_
    rintro _ _ ⟨rfl, rfl⟩
    refine jb rfl rfl rfl (cB (cN h_3)) (ja (jd (kJ kY rfl))) ?_
    rintro _ _ ⟨rfl, rfl⟩
    refine jb rfl rfl rfl (cB (cN h_3)) (ja (jd (kS rfl rfl))) ?_
    rintro _ _ ⟨rfl, rfl⟩
    refine jA (jw (v := .bool (decide (20 < (text.length : Int)))) (cB (cN h_3)) rfl) <| jE <| jB ?_
    by_cases h_4 : 20 < (text.length : Int)
    · refine jR (cB (dT h_4)) <| jD <| jF <| jT (jP 1 x m rfl rfl) ?_
      refine jH rfl (jW 0 x m rfl rfl rfl rfl) ?_
      rintro _ _ rfl
      refine jA (jG (v := iv 4) rfl) <| jE <| jB <| jM <| jX <| kL (pick_perm [2, 2, 2] (A := [rC x.a0 x.c0 m.s, rS x.a1 x.c1 m.r, rS x.a2 x.c2 m.w]) (F := [mb b_2 x m, mb b_1 x m]) rfl).symm <| jj (.inl rfl) rfl (je (jP 3 x m rfl rfl) ⟨_, rfl⟩) (jN (v := iv 4) rfl) (tS 3 _) ?_
      exact ⟨x, m, 4, (by simp only [MS.storePage, hexS_P, h_3, h_4, SB]; (repeat (first | rw [if_pos (by omega)] | rw [if_neg (by omega)])); all_goals (first | rfl | simp only [SB, h_3, h_4])), (hk.mono (by omega) (by omega)), (by first | omega | (simp only [LE]; omega)), rfl, rfl⟩
    refine jQ (cB (dF h_4)) <| jU <| jB <| jD <| jD <| jF <| jA (jC (v := str text) rfl) <| jA (PO.eqlS rfl rfl) <| jE <| jB ?_
    by_cases h_5 : text = []
    · have h_5l : text.length = 0 := by rw [h_5]; rfl
      refine jR (cB (dT h_5)) <| jD <| jq [mb b_1 x m] 6 mixed (by simp) <| jl 0 rfl (jP 0 x m rfl rfl) <| jK 1 rfl (jC (v := iv id) rfl) <| jK 3 rfl (jC (v := iv page) rfl) <| jL (i := 2) ?_
      refine jO rfl rfl (jI [] Tryz.call108 rfl (N_l11Head id (by omega)) rfl (fun _ _ => trivial)) ?_
      rintro _ _ ⟨_, ⟨u_16, e_14, f_17, rfl, rfl⟩, rfl⟩
      refine ⟨(by simp), ?_⟩
      refine jL (i := 4) ?_
      refine jO rfl rfl (jI [] Tryz.call91 rfl (N_sKeyNum u_16 page [] (Nat.le_refl _) (by omega) (show List.length ([] : Str) ≤ 0 by decide) (by omega)) rfl (fun _ _ => trivial)) ?_
      rintro _ _ ⟨_, ⟨u_24, e_22, f_25, rfl, rfl⟩, rfl⟩
      refine ⟨(by simp), ?_⟩
      refine jL (i := 5) ?_
      refine jO rfl rfl (jI [2, 2, 2] Tryz.call92 rfl (N_sLayNil x m hk (by omega) (by omega) u_24 (by omega)) rfl (fun _ _ => trivial)) ?_
      rintro _ _ ⟨_, ⟨x_32, m_33, e_30, k_31, rfl, rfl⟩, rfl⟩
      refine ⟨(by simp), ?_⟩
      refine jL (i := 6) ?_
      refine jo rfl (jW 3 x_32 m_33 rfl rfl rfl rfl) ?_
      rintro _ _ rfl
      refine jK 7 rfl (jG (v := iv 0) rfl) <| kG (by kernel_rfl) <| jB <| jM <| jX <| jj (.inl rfl) rfl (je (jP 3 x_32 m_33 rfl rfl) ⟨_, rfl⟩) (jN (v := iv 0) rfl) (tS 3 _) ?_
      exact ⟨x_32, m_33, 0, (by simp only [MS.storePage, hexS_P, h_3, h_4, h_5, e_14, e_22, e_30, SB]; (repeat (first | rw [if_pos (by omega)] | rw [if_neg (by omega)])); all_goals (first | rfl | simp only [SB, h_3, h_4, h_5, e_14, e_22, e_30])), (k_31.mono (by omega) (by omega)), (by first | omega | (simp only [LE]; omega)), rfl, rfl⟩
    have h_5l := List.length_pos_iff.2 h_5
    refine jQ (cB (dF h_5)) <| jU <| jB <| jD <| jF <| jA (jC (v := str text) rfl) ?_
    refine jH rfl (jI [] Tryz.call100 rfl (N_sHex text (by omega)) rfl (fun _ _ => trivial)) ?_
    rintro _ _ ⟨_, ⟨u_36, b_38, e_34, f_37, rfl, rfl⟩, rfl⟩
    refine jA (jC (v := .tuple #[str u_36, .bool b_38]) rfl) <| jA (jS (v := str u_36) rfl rfl) <| jA (jS (v := .bool b_38) rfl rfl) <| jA (jG (v := str u_36) rfl) <| jA (jG (v := .bool b_38) rfl) <| jE <| jB <| jD <| jq [mb b_1 x m] 8 mixed (by simp) <| jl 0 rfl (jP 0 x m rfl rfl) ?_
    refine jK 1 rfl (jC (v := iv id) rfl) <| jK 3 rfl (jC (v := iv page) rfl) <| jK 5 rfl (jC (v := str u_36) rfl) <| jK 6 rfl (kO rfl rfl (by (try simp only [List.length_append, List.length_cons, List.length_nil, List.length_drop, List.length_take]); omega)) <| jL (i := 2) ?_
    refine jO rfl rfl (jI [] Tryz.call108 rfl (N_l11Head id (by omega)) rfl (fun _ _ => trivial)) ?_
    rintro _ _ ⟨_, ⟨u_57, e_55, f_58, rfl, rfl⟩, rfl⟩
    refine ⟨(by simp), ?_⟩
    refine jL (i := 4) ?_
    refine jO rfl rfl (jI [] Tryz.call91 rfl (N_sKeyNum u_57 page [] (Nat.le_refl _) (by omega) (show List.length ([] : Str) ≤ 0 by decide) (by omega)) rfl (fun _ _ => trivial)) ?_
    rintro _ _ ⟨_, ⟨u_65, e_63, f_66, rfl, rfl⟩, rfl⟩
    refine ⟨(by simp), ?_⟩
    refine jL (i := 7) ?_
    refine jO rfl rfl (jI [2, 2, 2] Tryz.call92 rfl (N_sLay x m hk (by omega) (by omega) u_65 ([45] ++ u_36) (by omega)) rfl (fun _ _ => trivial)) ?_
    rintro _ _ ⟨_, ⟨x_73, m_74, e_71, k_72, rfl, rfl⟩, rfl⟩
    refine ⟨(by simp), ?_⟩
    refine jL (i := 8) ?_
    refine jo rfl (jW 3 x_73 m_74 rfl rfl rfl rfl) ?_
    rintro _ _ rfl
    refine jK 9 rfl (jG (v := iv 0) rfl) <| kG (by kernel_rfl) <| jB <| jM <| jj (.inl rfl) rfl (je (jP 3 x_73 m_74 rfl rfl) ⟨_, rfl⟩) (jN (v := iv 0) rfl) (tS 3 _) ?_
    exact ⟨x_73, m_74, 0, (by simp only [MS.storePage, hexS_P, h_3, h_4, h_5, e_34, e_55, e_63, e_71, SB]; (repeat (first | rw [if_pos (by omega)] | rw [if_neg (by omega)])); all_goals (first | rfl | simp only [SB, h_3, h_4, h_5, e_34, e_55, e_63, e_71])), (k_72.mono (by omega) (by omega)), (by first | omega | (simp only [LE]; omega)), rfl, rfl⟩
  have h_3d := h_3
  simp only [Bool.and_eq_true, Bool.and_eq_false_iff, decide_eq_true_eq, decide_eq_false_iff_not] at h_3d
  refine jY (b := true) rfl rfl rfl (cB (cN h_3)) <| jY (b := true) rfl rfl rfl (cB (cN h_3)) <| jY (b := true) rfl rfl rfl (cB (cN h_3)) <| jA (jx (v := .bool true) (cB (cN h_3)) rfl) <| jE <| jB <| jR (cB rfl) <| jD <| jF <| jT (jP 1 x m rfl rfl) ?_
  refine jH rfl (jW 0 x m rfl rfl rfl rfl) ?_
  rintro _ _ rfl
  refine jA (jG (v := iv 4) rfl) <| jE <| jB <| jM <| jX <| kL (pick_perm [2, 2, 2] (A := [rC x.a0 x.c0 m.s, rS x.a1 x.c1 m.r, rS x.a2 x.c2 m.w]) (F := [mb b_2 x m, mb b_1 x m]) rfl).symm <| jj (.inl rfl) rfl (je (jP 3 x m rfl rfl) ⟨_, rfl⟩) (jN (v := iv 4) rfl) (tS 3 _) ?_
  exact ⟨x, m, 4, (by simp only [MS.storePage, hexS_P, h_3, SB]; (repeat (first | rw [if_pos (by omega)] | rw [if_neg (by omega)])); all_goals (first | rfl | simp only [SB, h_3])), (hk.mono (by omega) (by omega)), (by first | omega | (simp only [LE]; omega)), rfl, rfl⟩

theorem N_loadPage (p : Nat) (x : MA) (m : MS) {S T : Nat} (hk : m.ok S T) (hS : S ≤ 50000000) (hT : T ≤ 50000000) (id : Int) (page : Int) (hid : -9223372036854775808 ≤ id ∧ id ≤ 9223372036854775807) (hpage : -9223372036854775808 ≤ page ∧ page ≤ 9223372036854775807) :
    Ct Tryz.prog 77 [.pointer (some ⟨p, 0, none⟩), .int .i64 id, .int .i64 page] (mb p x m :: mr x m) (fun w => HexOk w) (fun v A' => ∃ x' m' r0 r1, MS.loadPage m id page = (m', r0, r1) ∧ m'.ok (S) (T + 1) ∧ r0.length ≤ 20000 ∧ (0 ≤ r1 ∧ r1 ≤ 9) ∧ v = .tuple #[str r0, .int .i64 r1] ∧ A' = mb p x' m' :: mr x' m') := by
  refine Ct.introL Tryz.func77 rfl Tryz.ntmps77 (lb rfl) fun w0 hpre hlow => ?_
  refine jD <| jF <| jA (jG (v := str []) rfl) <| jA (jG (v := iv 0) rfl) <| jE <| jB <| jD <| jD <| jF <| jA (jC (v := iv page) rfl) ?_
  refine jH rfl (jI [] Tryz.call120 rfl (C_within page 0 3) rfl (fun _ _ => trivial)) ?_
  rintro _ _ ⟨_, ⟨rfl, rfl⟩, rfl⟩
  refine jA (kA rfl) <| jE <| jB ?_
  rcases Bool.eq_false_or_eq_true (decide (0 ≤ page) && decide (page ≤ 3)) with h_1 | h_1
  · have h_1d := h_1
    simp only [Bool.and_eq_true, Bool.and_eq_false_iff, decide_eq_true_eq, decide_eq_false_iff_not] at h_1d
    refine jQ (cB (cN h_1)) <| jU <| jB <| jD <| jF <| jA (jC (v := pv p) rfl) <| jA (jC (v := iv id) rfl) ?_
    refine jH rfl (jI [] Tryz.call138 rfl (N_pagesKey id (by omega)) rfl (fun _ _ => trivial)) ?_
    rintro _ _ ⟨_, ⟨u_4, e_2, f_5, rfl, rfl⟩, rfl⟩
    refine jA (jC (v := iv page) rfl) ?_
    refine jH rfl (jI [] Tryz.call129 rfl (N_keyNum u_4 page [] (Nat.le_refl _) (by omega) (show List.length ([] : Str) ≤ 0 by decide) (by omega)) rfl (fun _ _ => trivial)) ?_
    rintro _ _ ⟨_, ⟨u_8, e_6, f_9, rfl, rfl⟩, rfl⟩
    refine jH rfl (jI [0, 0, 0, 0] Tryz.call137 rfl (N_message p x m hk (by omega) (by omega) u_8) rfl (fun w hw => hw.hex hlow hpre)) ?_
    rintro _ _ ⟨_, ⟨x_12, m_13, u_14, e_10, k_11, f_15, rfl, rfl⟩, rfl⟩
    refine jA (jG (v := str u_14) rfl) <| jA (jG (v := iv 0) rfl) <| jE <| jB <| jM <| jj (.inl rfl) rfl (jN (v := str u_14) rfl) (jN (v := iv 0) rfl) (List.Sublist.refl _) ?_
    exact ⟨x_12, m_13, u_14, 0, (by simp only [MS.loadPage, h_1, e_2, e_6, e_10, SB]; (repeat (first | rw [if_pos (by omega)] | rw [if_neg (by omega)])); all_goals (first | rfl | simp only [SB, h_1, e_2, e_6, e_10])), (k_11.mono (by omega) (by omega)), (by first | omega | (simp only [LE]; omega)), (by first | omega | (simp only [LE]; omega)), rfl, rfl⟩
  have h_1d := h_1
  simp only [Bool.and_eq_true, Bool.and_eq_false_iff, decide_eq_true_eq, decide_eq_false_iff_not] at h_1d
  refine jR (cB (cN h_1)) <| jD <| jF <| jA (jG (v := str []) rfl) <| jA (jG (v := iv 4) rfl) <| jE <| jB <| jM <| jX <| jj (.inl rfl) rfl (jN (v := str []) rfl) (jN (v := iv 4) rfl) (List.Sublist.refl _) ?_
  exact ⟨x, m, [], 4, (by simp only [MS.loadPage, h_1, SB]; (repeat (first | rw [if_pos (by omega)] | rw [if_neg (by omega)])); all_goals (first | rfl | simp only [SB, h_1])), (hk.mono (by omega) (by omega)), (by first | omega | (simp only [LE]; omega)), (by first | omega | (simp only [LE]; omega)), rfl, rfl⟩

theorem M_loadPage (x : MA) (m : MS) {S T : Nat} (hk : m.ok S T) (hS : S ≤ 50000000) (hT : T ≤ 50000000) (id : Int) (page : Int) (hid : -9223372036854775808 ≤ id ∧ id ≤ 9223372036854775807) (hpage : -9223372036854775808 ≤ page ∧ page ≤ 9223372036854775807) :
    Ct Tryz.prog 46 [mv x m, .int .i64 id, .int .i64 page] (mr x m) (fun _ => True) (fun v A' => ∃ x' m' r0 r1, MS.loadPage m id page = (m', r0, r1) ∧ m'.ok (S) (T + 1) ∧ r0.length ≤ 20000 ∧ (0 ≤ r1 ∧ r1 ≤ 9) ∧ v = .tuple #[mv x' m', str r0, .int .i64 r1] ∧ A' = mr x' m') := by
  refine Ct.intro Tryz.func46 rfl Tryz.ntmps46 (lb rfl) fun w0 hpre => ?_
  refine jD <| jF ?_
  refine jH rfl (jv (cs := (mc x m)) rfl rfl) ?_
  rintro _ _ ⟨b_1, rfl, rfl⟩
  refine jH rfl (jh (z := zM) (cs := zC) kd rfl) ?_
  rintro _ _ ⟨b_2, rfl, rfl⟩
  refine jA (jG (v := str []) rfl) <| jA (jG (v := iv 0) rfl) <| jE <| jB <| jD <| jD <| jF <| jA (jC (v := iv page) rfl) ?_
  refine jH rfl (jI [] Tryz.call86 rfl (C_l01In page 0 3) rfl (fun _ _ => trivial)) ?_
  rintro _ _ ⟨_, ⟨rfl, rfl⟩, rfl⟩
  refine jA (kA rfl) <| jE <| jB ?_
  rcases Bool.eq_false_or_eq_true (decide (0 ≤ page) && decide (page ≤ 3)) with h_3 | h_3
  · have h_3d := h_3
    simp only [Bool.and_eq_true, Bool.and_eq_false_iff, decide_eq_true_eq, decide_eq_false_iff_not] at h_3d
    refine jQ (cB (cN h_3)) <| jU <| jB <| jD <| jq [mb b_1 x m] 9 mixed (by simp) <| jl 0 rfl (jP 0 x m rfl rfl) <| jK 1 rfl (jC (v := iv id) rfl) <| jK 3 rfl (jC (v := iv page) rfl) <| jL (i := 2) ?_
    refine jO rfl rfl (jI [] Tryz.call108 rfl (N_l11Head id (by omega)) rfl (fun _ _ => trivial)) ?_
    rintro _ _ ⟨_, ⟨u_14, e_12, f_15, rfl, rfl⟩, rfl⟩
    refine ⟨(by simp), ?_⟩
    refine jL (i := 4) ?_
    refine jO rfl rfl (jI [] Tryz.call91 rfl (N_sKeyNum u_14 page [] (Nat.le_refl _) (by omega) (show List.length ([] : Str) ≤ 0 by decide) (by omega)) rfl (fun _ _ => trivial)) ?_
    rintro _ _ ⟨_, ⟨u_22, e_20, f_23, rfl, rfl⟩, rfl⟩
    refine ⟨(by simp), ?_⟩
    refine jL (i := 5) ?_
    refine jO rfl rfl (jI [2, 2, 2] Tryz.call102 rfl (N_sLook x m hk (by omega) (by omega) u_22) rfl (fun _ _ => trivial)) ?_
    rintro _ _ ⟨_, ⟨x_32, m_33, u_34, e_30, k_31, f_35, rfl, rfl⟩, rfl⟩
    refine ⟨(by simp), ?_⟩
    refine jK 6 rfl (jC (v := .tuple #[mv x_32 m_33, str u_34]) rfl) <| jK 7 rfl (jS (v := mv x_32 m_33) rfl rfl) <| jK 8 rfl (jS (v := str u_34) rfl rfl) <| jL (i := 9) ?_
    refine jo rfl (jW 4 x_32 m_33 rfl rfl rfl rfl) ?_
    rintro _ _ rfl
    refine jK 10 rfl (jG (v := str u_34) rfl) <| kG (by kernel_rfl) <| jB <| jD <| jF <| jA (jG (v := str []) rfl) <| jE <| jB <| jD ?_
    refine JC.cut (fun e_ L_ => e_ 3 = .pointer (some ⟨b_1, 0, none⟩) ∧ e_ 6 = .pointer (some ⟨b_2, 0, none⟩) ∧ e_ 7 = str [] ∧ e_ 8 = iv 0 ∧ e_ 10 = str (messageOf u_34) ∧ L_ = [rC x_32.a0 x_32.c0 m_33.s, rS x_32.a1 x_32.c1 m_33.r, rS x_32.a2 x_32.c2 m_33.w, bk b_2 35 zC, mb b_1 x_32 m_33]) ?_ ?_
    · refine jD <| jF <| jA (jC (v := str u_34) rfl) <| jA (PO.neqS rfl rfl) <| jA (jC (v := .bool (!(decide (u_34 = [])))) rfl) ?_
      by_cases h_36 : u_34 = []
      · have hm := messageOf_nil h_36
        refine jY (b := false) rfl rfl rfl (cB (cN (dT h_36))) <| jY (b := false) rfl rfl rfl (cB (cN (dT h_36))) <| jY (b := false) rfl rfl rfl (cB (cN (dT h_36))) <| jA (jw (v := .bool false) (cB (cN (dT h_36))) rfl) <| jE <| jB <| jQ (cB rfl) <| jU <| jr [0, 0, 0, 0, 0] (A := [rC x_32.a0 x_32.c0 m_33.s, rS x_32.a1 x_32.c1 m_33.r, rS x_32.a2 x_32.c2 m_33.w, bk b_2 35 zC, mb b_1 x_32 m_33]) rfl ?_
        exact jy ⟨rfl, rfl, rfl, rfl, (congrArg str hm.symm), rfl⟩
      have h_36l := List.length_pos_iff.2 h_36
      refine jb rfl rfl rfl (cB (cN (dF h_36))) (ja (jd (jC (v := str u_34) rfl))) ?_
      rintro _ _ ⟨rfl, rfl⟩
      refine jb rfl rfl rfl (cB (cN (dF h_36))) (ja (jd (PO.indexS (i := 0) (c := u_34.getD 0 0) kY rfl rfl (getD_some (by omega))))) ?_
      rintro _ _ ⟨rfl, rfl⟩
      have hu_37 := UInt8.toNat_lt (u_34.getD 0 0)
      refine jb rfl rfl rfl (cB (cN (dF h_36))) (ja (jd (ju rfl rfl))) ?_
      rintro _ _ ⟨rfl, rfl⟩
      refine jA (jx (v := .bool (decide (((u_34.getD 0 0).toNat : Int) = 45))) (cB (cN (dF h_36))) rfl) <| jE <| jB ?_
      by_cases h_38 : ((u_34.getD 0 0).toNat : Int) = 45
      · have hm_39 := messageOf_one h_36 h_38
        refine jR (cB (dT h_38)) <| jF <| jA (jC (v := str u_34) rfl) <| jA (PO.sliceSl (i := 1) kY rfl rfl (by omega)) ?_
        refine jH rfl (jI [] Tryz.call103 rfl (N_sUnhex (u_34.drop 1) (by first | omega | (simp only [LE]; omega))) rfl (fun _ _ => trivial)) ?_
        rintro _ _ ⟨_, ⟨u_42, b_44, e_40, f_43, rfl, rfl⟩, rfl⟩
        refine jA (jC (v := .tuple #[str u_42, .bool b_44]) rfl) <| jA (jS (v := str u_42) rfl rfl) <| jA (jS (v := .bool b_44) rfl rfl) <| jA (jG (v := str u_42) rfl) <| jE <| jr [0, 0, 0, 0, 0] (A := [rC x_32.a0 x_32.c0 m_33.s, rS x_32.a1 x_32.c1 m_33.r, rS x_32.a2 x_32.c2 m_33.w, bk b_2 35 zC, mb b_1 x_32 m_33]) rfl ?_
        exact jy ⟨rfl, rfl, rfl, rfl, (congrArg str (hm_39.trans (congrArg Prod.fst e_40)).symm), rfl⟩
      have hm_45 := messageOf_no h_38
      refine jQ (cB (dF h_38)) <| jU <| jr [0, 0, 0, 0, 0] (A := [rC x_32.a0 x_32.c0 m_33.s, rS x_32.a1 x_32.c1 m_33.r, rS x_32.a2 x_32.c2 m_33.w, bk b_2 35 zC, mb b_1 x_32 m_33]) rfl ?_
      exact jy ⟨rfl, rfl, rfl, rfl, (congrArg str hm_45.symm), rfl⟩
    rintro e_46 _ ⟨he_47, he_48, he_49, he_50, he_51, rfl⟩
    have hml := messageOf_len u_34
    refine jB <| jD <| jF <| jT (jP 4 x_32 m_33 rfl he_47) <| jA (jC (v := str (messageOf u_34)) he_51) ?_
    refine jH rfl (jW 3 x_32 m_33 rfl he_48 rfl rfl) ?_
    rintro _ _ rfl
    refine jA (jG (v := str (messageOf u_34)) rfl) <| jA (jG (v := iv 0) rfl) <| jE <| jB <| jM <| Done.three (.inl rfl) rfl (je (jP 3 x_32 m_33 rfl he_48) ⟨_, he_48⟩) (jN (v := str (messageOf u_34)) rfl) (jN (v := iv 0) rfl) (tS 3 _) ?_
    exact ⟨x_32, m_33, (messageOf u_34), 0, (by simp only [MS.loadPage, MS.message, h_3, e_12, e_20, e_30, SB]; (repeat (first | rw [if_pos (by omega)] | rw [if_neg (by omega)])); all_goals (first | rfl | simp only [SB, h_3, e_12, e_20, e_30])), (k_31.mono (by omega) (by omega)), (by first | omega | (simp only [LE]; omega)), (by first | omega | (simp only [LE]; omega)), rfl, rfl⟩
  have h_3d := h_3
  simp only [Bool.and_eq_true, Bool.and_eq_false_iff, decide_eq_true_eq, decide_eq_false_iff_not] at h_3d
  refine jR (cB (cN h_3)) <| jD <| jF <| jT (jP 1 x m rfl rfl) ?_
  refine jH rfl (jW 0 x m rfl rfl rfl rfl) ?_
  rintro _ _ rfl
  refine jA (jG (v := str []) rfl) <| jA (jG (v := iv 4) rfl) <| jE <| jB <| jM <| jX <| kL (pick_perm [2, 2, 2] (A := [rC x.a0 x.c0 m.s, rS x.a1 x.c1 m.r, rS x.a2 x.c2 m.w]) (F := [mb b_2 x m, mb b_1 x m]) rfl).symm <| Done.three (.inl rfl) rfl (je (jP 3 x m rfl rfl) ⟨_, rfl⟩) (jN (v := str []) rfl) (jN (v := iv 4) rfl) (tS 3 _) ?_
  exact ⟨x, m, [], 4, (by simp only [MS.loadPage, MS.message, h_3, SB]; (repeat (first | rw [if_pos (by omega)] | rw [if_neg (by omega)])); all_goals (first | rfl | simp only [SB, h_3])), (hk.mono (by omega) (by omega)), (by first | omega | (simp only [LE]; omega)), (by first | omega | (simp only [LE]; omega)), rfl, rfl⟩

end Go.Proofs.YthdgcbdfcclgbaaGreatDoor

set_option linter.unusedSimpArgs false
set_option linter.unusedVariables false
set_option linter.unnecessarySimpa false
namespace Go.Proofs.YthdgcbdfcclgbaaGreatDoor
open Go Go.RowKit

/-- What stands between two places. -/
def piece (b : Str) (lo hi : Nat) : Str := (b.drop lo).take (hi - lo)
theorem piece_nil {b : Str} {lo hi : Nat} (h : hi ≤ lo) : piece b lo hi = [] := by
  unfold piece
  rw [show hi - lo = 0 by omega]
  simp
theorem piece_yes {b : Str} {lo i e : Nat} (h1 : lo ≤ i) (h2 : i < e) (h3 : i < b.length) : piece b lo (min e (i + 1)) = piece b lo (min e i) ++ [b.getD i 0] := by
  unfold piece
  rw [show min e (i + 1) - lo = (i - lo) + 1 by omega, show min e i - lo = i - lo by omega]
  have : (b.drop lo)[i - lo]? = some (b.getD i 0) := by
    rw [List.getElem?_drop, show lo + (i - lo) = i by omega]
    exact getD_some h3
  rw [List.take_add_one, this]
  rfl
theorem piece_no {b : Str} {lo i e : Nat} (h : i < lo ∨ e ≤ i) : piece b lo (min e (i + 1)) = piece b lo (min e i) := by
  rcases h with h | h
  · rw [piece_nil (by omega), piece_nil (by omega)]
  · rw [show min e (i + 1) = min e i by omega]
/-- A byte put at a place, with noughts between. -/
def setPad (b : Str) (i : Nat) (c : UInt8) : Str := (b ++ List.replicate (i + 1 - b.length) 0).set i c
theorem pad_step {c : Str} {n : Nat} (h : c.length < n + 1) : (c ++ [0]) ++ List.replicate (n + 1 - (c.length + 1)) (0 : UInt8) = c ++ List.replicate (n + 1 - c.length) 0 := by
  rw [show n + 1 - c.length = (n + 1 - (c.length + 1)) + 1 by omega, List.replicate_succ]
  simp
def overTo (text : Str) (a f : Nat) (b : Str) : Nat → Str
  | 0 => b
  | k + 1 => setPad (overTo text a f b k) (a - f + k) (text.getD (f + (a - f + k) - a) 0)
theorem overTo_step {text b c d : Str} {a f j : Nat} (h : max a f ≤ j) (hc : c = overTo text a f b (j - max a f)) (hd : d = c ++ List.replicate (j - f + 1 - c.length) 0) :
    d.set (j - f) (text.getD (j - a) 0) = overTo text a f b (j + 1 - max a f) := by
  rw [show j + 1 - max a f = (j - max a f) + 1 by omega, overTo, ← hc, show a - f + (j - max a f) = j - f by omega, show f + (j - f) - a = j - a by omega, setPad, ← hd]
namespace MS
def blockKey (id : Int) (p : Nat) : Str := keyNum (keyNum ([105, 47] : Str) id ([47, 98, 47] : Str)) (p : Int) []
def readL (id : Int) (a e : Nat) : Nat → Nat → MS → Str → MS × Str
  | 0, _, m, out => (m, out)
  | k + 1, p, m, out => if p * 8 < e then
      match m.block id (p : Int) with
      | (m, b) => readL id a e k (p + 1) m (out ++ piece b (a - p * 8) (min (min (e - p * 8) 8) b.length))
    else (m, out)
theorem readL_stop {id : Int} {a e k p : Nat} {m : MS} {out : Str} (h : ¬ p * 8 < e) : readL id a e k p m out = (m, out) := by
  cases k with
  | zero => rfl
  | succ k => rw [readL, if_neg h]
def readFile (m : MS) (id at_ n : Int) : MS × Str :=
  match m.sizeOf id with
  | (m, size) => if at_ < 0 ∨ n < 1 ∨ size ≤ at_ then (m, []) else
    readL id at_.toNat (at_ + min n (size - at_)).toNat (130 - at_.toNat / 8) (at_.toNat / 8) m []
def writeL (id : Int) (text : Str) (a e : Nat) : Nat → Nat → MS → MS
  | 0, _, m => m
  | k + 1, p, m => if p * 8 < e then
      match m.block id (p : Int) with
      | (m, b) => writeL id text a e k (p + 1) (m.lay (blockKey id p) (hexS (overTo text a (p * 8) b (min e (p * 8 + 8) - max a (p * 8)))))
    else m
theorem writeL_stop {id : Int} {text : Str} {a e k p : Nat} {m : MS} (h : ¬ p * 8 < e) : writeL id text a e k p m = m := by
  cases k with
  | zero => rfl
  | succ k => rw [writeL, if_neg h]
def writeFile (m : MS) (id at_ : Int) (text : Str) : MS × Int :=
  match m.sizeOf id with
  | (m, size) => if at_ < 0 ∨ size < at_ ∨ (text.length : Int) = 0 then (m, 4) else
    if 64 < at_ + (text.length : Int) then (m, 3) else
    if size < at_ + (text.length : Int) then ((writeL id text at_.toNat (at_.toNat + text.length) (130 - at_.toNat / 8) (at_.toNat / 8) m).setNum (keyNum ([105, 47] : Str) id ([47, 115] : Str)) ((at_.toNat + text.length : Nat) : Int), 0)
    else (writeL id text at_.toNat (at_.toNat + text.length) (130 - at_.toNat / 8) (at_.toNat / 8) m, 0)
def cutL (id : Int) (z : Nat) : Nat → Nat → MS → MS
  | 0, _, m => m
  | k + 1, p, m => if p * 8 < z then cutL id z k (p + 1) (m.lay (blockKey id p) []) else m
theorem cutL_stop {id : Int} {z k p : Nat} {m : MS} (h : ¬ p * 8 < z) : cutL id z k p m = m := by
  cases k with
  | zero => rfl
  | succ k => rw [cutL, if_neg h]
def cutFile (m : MS) (id n : Int) : MS × Int :=
  match m.sizeOf id with
  | (m, size) => if n < 0 ∨ size < n then (m, 4) else
    if 0 < n.toNat % 8 then
      match m.block id ((n.toNat / 8 : Nat) : Int) with
      | (m, b) => ((cutL id size.toNat (130 - (n.toNat / 8 + 1)) (n.toNat / 8 + 1) (m.lay (blockKey id (n.toNat / 8)) (hexS (b.take (min (n.toNat % 8) b.length))))).setNum (keyNum ([105, 47] : Str) id ([47, 115] : Str)) n, 0)
    else ((cutL id size.toNat (130 - n.toNat / 8) (n.toNat / 8) m).setNum (keyNum ([105, 47] : Str) id ([47, 115] : Str)) n, 0)
end MS
end Go.Proofs.YthdgcbdfcclgbaaGreatDoor

set_option linter.unusedSimpArgs false
set_option linter.unusedVariables false
set_option linter.unnecessarySimpa false
namespace Go.Proofs.YthdgcbdfcclgbaaGreatDoor
open Go Go.RowKit
section
variable {P : Program} {n : Nat} {e : Env} {d : Option Tmp} {ty : TypeId} {pos : String} {aft : Array Edge} {gd : Option (Nat × Bool)}
theorem PO.min2 {x y : Operand} {a b c : Int} {ts : Array TypeId} (hx : rd n e x = .int .i64 a) (hy : rd n e y = .int .i64 b) (hc : min a b = c) : PO P n e ⟨d, .call ⟨.builtin .min, #[x, y], ts⟩, ty, pos, aft, gd⟩ (.int .i64 c) := fun w => by
  subst hc
  simp [execOp, resolve, invoke, builtin, hx, hy, Lib.run_min_ints]
theorem PO.max2 {x y : Operand} {a b c : Int} {ts : Array TypeId} (hx : rd n e x = .int .i64 a) (hy : rd n e y = .int .i64 b) (hc : max a b = c) : PO P n e ⟨d, .call ⟨.builtin .max, #[x, y], ts⟩, ty, pos, aft, gd⟩ (.int .i64 c) := fun w => by
  subst hc
  simp [execOp, resolve, invoke, builtin, hx, hy, Lib.run_max_ints]
theorem PO.min3 {x y z : Operand} {a b q c : Int} {ts : Array TypeId} (hx : rd n e x = .int .i64 a) (hy : rd n e y = .int .i64 b) (hz : rd n e z = .int .i64 q) (hc : min (min a b) q = c) : PO P n e ⟨d, .call ⟨.builtin .min, #[x, y, z], ts⟩, ty, pos, aft, gd⟩ (.int .i64 c) := fun w => by
  have e1 : (if b < a then b else a) = min a b := by
    rw [Int.min_def]
    split <;> split <;> omega
  have e2 : (if q < min a b then q else min a b) = min (min a b) q := by
    generalize min a b = r
    rw [Int.min_def]
    split <;> split <;> omega
  subst hc
  simp [execOp, resolve, invoke, builtin, hx, hy, hz, Builtin.min_, Builtin.min2, e1, e2]
end
attribute [local irreducible] JL JC JQ JO LO PO JA JX Ct

theorem M_sizeFile (x : MA) (m : MS) {S T : Nat} (hk : m.ok S T) (hS : S ≤ 90000000) (hT : T ≤ 90000000) (id : Int) (hid : -9223372036854775808 ≤ id ∧ id ≤ 9223372036854775807) :
    Ct Tryz.prog 145 [mv x m, .int .i64 id] (mr x m) (fun _ => True) (fun v A' => ∃ x' m' r0, MS.sizeOf m id = (m', r0) ∧ m'.ok (S) (T + 1) ∧ (0 ≤ r0 ∧ r0 ≤ 999) ∧ v = .tuple #[mv x' m', .int .i64 r0] ∧ A' = mr x' m') := by
  refine Ct.intro Tryz.func145 rfl Tryz.ntmps145 (lb rfl) fun w0 hpre => ?_
  refine jD <| jF ?_
  refine jH rfl (jv (cs := (mc x m)) rfl rfl) ?_
  rintro _ _ ⟨b_1, rfl, rfl⟩
  refine jH rfl (jh (z := zM) (cs := zC) kd rfl) ?_
  rintro _ _ ⟨b_2, rfl, rfl⟩
  refine jA (jG (v := iv 0) rfl) <| jE <| jB <| jD <| jq [mb b_1 x m] 6 mixed (by simp) <| jl 0 rfl (jP 0 x m rfl rfl) <| jK 1 rfl (jC (v := iv id) rfl) <| jL (i := 2) ?_
  refine jO rfl rfl (jI [] Tryz.call91 rfl (N_sKeyNum [105, 47] id [47, 115] (show List.length ([105, 47] : Str) ≤ 2 by decide) (by omega) (show List.length ([47, 115] : Str) ≤ 2 by decide) (by omega)) rfl (fun _ _ => trivial)) ?_
  rintro _ _ ⟨_, ⟨u_9, e_7, f_10, rfl, rfl⟩, rfl⟩
  refine ⟨(by simp), ?_⟩
  refine jL (i := 3) ?_
  refine jO rfl rfl (jI [2, 2, 2] Tryz.call84 rfl (N_sNumAt x m hk (by omega) (by omega) u_9) rfl (fun _ _ => trivial)) ?_
  rintro _ _ ⟨_, ⟨x_19, m_20, n_21, e_17, k_18, f_22, rfl, rfl⟩, rfl⟩
  refine ⟨(by simp), ?_⟩
  refine jK 4 rfl (jS (v := mv x_19 m_20) rfl rfl) <| jK 5 rfl (jS (v := iv n_21) rfl rfl) <| jL (i := 6) ?_
  refine jo rfl (jW 3 x_19 m_20 rfl rfl rfl rfl) ?_
  rintro _ _ rfl
  refine jK 7 rfl (jG (v := iv n_21) rfl) <| kG (by kernel_rfl) <| jB <| jM <| jj (.inl rfl) rfl (je (jP 3 x_19 m_20 rfl rfl) ⟨_, rfl⟩) (jN (v := iv n_21) rfl) (tS 3 _) ?_
  exact ⟨x_19, m_20, n_21, (by simp only [MS.sizeOf, e_7, e_17, SB]; (repeat (first | rw [if_pos (by omega)] | rw [if_neg (by omega)])); all_goals (first | rfl | simp only [SB, e_7, e_17])), (k_18.mono (by omega) (by omega)), (by first | omega | (simp only [LE]; omega)), rfl, rfl⟩

theorem N_block (p : Nat) (x : MA) (m : MS) {S T : Nat} (hk : m.ok S T) (hS : S ≤ 90000000) (hT : T ≤ 90000000) (id : Int) (place : Int) (hid : -9223372036854775808 ≤ id ∧ id ≤ 9223372036854775807) (hplace : -9223372036854775808 ≤ place ∧ place ≤ 9223372036854775807) :
    Ct Tryz.prog 160 [.pointer (some ⟨p, 0, none⟩), .int .i64 id, .int .i64 place] (mb p x m :: mr x m) (fun w => HexOk w) (fun v A' => ∃ x' m' r0, MS.block m id place = (m', r0) ∧ m'.ok (S) (T + 1) ∧ r0.length ≤ 20000 ∧ v = str r0 ∧ A' = mb p x' m' :: mr x' m') := by
  refine Ct.introL Tryz.func160 rfl Tryz.ntmps160 (lb rfl) fun w0 hpre hlow => ?_
  refine jD <| jF <| jA (jG (v := str []) rfl) <| jE <| jB <| jD <| jF <| jA (jC (v := pv p) rfl) <| jA (jC (v := iv id) rfl) <| jA (jC (v := iv place) rfl) ?_
  refine jH rfl (jI [] Tryz.call161 rfl (N_blockKey id place (by omega) (by omega)) rfl (fun _ _ => trivial)) ?_
  rintro _ _ ⟨_, ⟨u_3, e_1, f_4, rfl, rfl⟩, rfl⟩
  refine jH rfl (jI [0, 0, 0, 0] Tryz.call139 rfl (N_look p x m hk (by omega) (by omega) u_3) rfl (fun _ _ => trivial)) ?_
  rintro _ _ ⟨_, ⟨x_7, m_8, u_9, e_5, k_6, f_10, rfl, rfl⟩, rfl⟩
  refine jH rfl (jI [] Tryz.call180 rfl (N_unhex u_9 (by omega)) rfl (fun w hw => hw.hex hlow hpre)) ?_
  rintro _ _ ⟨_, ⟨u_13, b_15, e_11, f_14, rfl, rfl⟩, rfl⟩
  refine jA (jC (v := .tuple #[str u_13, .bool b_15]) rfl) <| jA (jS (v := str u_13) rfl rfl) <| jA (jS (v := .bool b_15) rfl rfl) <| jA (jG (v := str u_13) rfl) <| jA (jG (v := .bool b_15) rfl) <| jE <| jB <| jD <| jF <| jA (jC (v := str u_13) rfl) ?_
  refine jA (jG (v := str u_13) rfl) <| jE <| jB <| jM <| jV (.inl rfl) rfl (jN (v := str u_13) rfl) (List.Sublist.refl _) ?_
  exact ⟨x_7, m_8, u_13, (by simp only [MS.block, e_1, e_5, e_11, SB]; (repeat (first | rw [if_pos (by omega)] | rw [if_neg (by omega)])); all_goals (first | rfl | simp only [SB, e_1, e_5, e_11])), (k_6.mono (by omega) (by omega)), (by first | omega | (simp only [LE]; omega)), rfl, rfl⟩

theorem M_block (x : MA) (m : MS) {S T : Nat} (hk : m.ok S T) (hS : S ≤ 90000000) (hT : T ≤ 90000000) (id : Int) (place : Int) (hid : -9223372036854775808 ≤ id ∧ id ≤ 9223372036854775807) (hplace : -9223372036854775808 ≤ place ∧ place ≤ 9223372036854775807) :
    Ct Tryz.prog 146 [mv x m, .int .i64 id, .int .i64 place] (mr x m) (fun _ => True) (fun v A' => ∃ x' m' r0, MS.block m id place = (m', r0) ∧ m'.ok (S) (T + 1) ∧ r0.length ≤ 20000 ∧ v = .tuple #[mv x' m', str r0] ∧ A' = mr x' m') := by
  refine Ct.intro Tryz.func146 rfl Tryz.ntmps146 (lb rfl) fun w0 hpre => ?_
  refine jD <| jF ?_
  refine jH rfl (jv (cs := (mc x m)) rfl rfl) ?_
  rintro _ _ ⟨b_1, rfl, rfl⟩
  refine jH rfl (jh (z := zM) (cs := zC) kd rfl) ?_
  rintro _ _ ⟨b_2, rfl, rfl⟩
  refine jA (jG (v := str []) rfl) <| jE <| jB <| jD <| jq [mb b_1 x m] 8 mixed (by simp) <| jl 0 rfl (jP 0 x m rfl rfl) <| jK 1 rfl (jC (v := iv id) rfl) <| jK 2 rfl (jC (v := iv place) rfl) <| jL (i := 3) ?_
  refine jO rfl rfl (jI [] Tryz.call149 rfl (N_l07Block id place (by omega) (by omega)) rfl (fun _ _ => trivial)) ?_
  rintro _ _ ⟨_, ⟨u_9, e_7, f_10, rfl, rfl⟩, rfl⟩
  refine ⟨(by simp), ?_⟩
  refine jL (i := 4) ?_
  refine jO rfl rfl (jI [2, 2, 2] Tryz.call102 rfl (N_sLook x m hk (by omega) (by omega) u_9) rfl (fun _ _ => trivial)) ?_
  rintro _ _ ⟨_, ⟨x_19, m_20, u_21, e_17, k_18, f_22, rfl, rfl⟩, rfl⟩
  refine ⟨(by simp), ?_⟩
  refine jK 5 rfl (jC (v := .tuple #[mv x_19 m_20, str u_21]) rfl) <| jK 6 rfl (jS (v := mv x_19 m_20) rfl rfl) <| jK 7 rfl (jS (v := str u_21) rfl rfl) <| jL (i := 8) ?_
  refine jo rfl (jW 4 x_19 m_20 rfl rfl rfl rfl) ?_
  rintro _ _ rfl
  refine jK 9 rfl (jG (v := str u_21) rfl) <| kG (by kernel_rfl) <| jB <| jD <| jF <| jA (jC (v := str u_21) rfl) ?_
  refine jH rfl (jI [] Tryz.call103 rfl (N_sUnhex u_21 (by omega)) rfl (fun _ _ => trivial)) ?_
  rintro _ _ ⟨_, ⟨u_25, b_27, e_23, f_26, rfl, rfl⟩, rfl⟩
  refine jA (jC (v := .tuple #[str u_25, .bool b_27]) rfl) <| jA (jS (v := str u_25) rfl rfl) <| jA (jS (v := .bool b_27) rfl rfl) <| jA (jG (v := str u_25) rfl) <| jA (jG (v := .bool b_27) rfl) <| jE <| jB <| jD <| jD <| jF ?_
  refine jA (jC (v := .bool b_27) rfl) <| jA (kA rfl) <| jE <| jB ?_
  rcases Bool.eq_false_or_eq_true (b_27) with h_28 | h_28
  · refine jQ (cB (cN h_28)) <| jU <| jB <| jD <| jF <| jT (jP 4 x_19 m_20 rfl rfl) <| jA (jC (v := str u_25) rfl) ?_
    refine jH rfl (jW 3 x_19 m_20 rfl rfl rfl rfl) ?_
    rintro _ _ rfl
    refine jA (jG (v := str u_25) rfl) <| jE <| jB <| jM <| jj (.inl rfl) rfl (je (jP 3 x_19 m_20 rfl rfl) ⟨_, rfl⟩) (jN (v := str u_25) rfl) (tS 3 _) ?_
    exact ⟨x_19, m_20, u_25, (by simp only [MS.block, e_7, e_17, e_23, h_28, SB]; (repeat (first | rw [if_pos (by omega)] | rw [if_neg (by omega)])); all_goals (first | rfl | simp only [SB, e_7, e_17, e_23, h_28])), (k_18.mono (by omega) (by omega)), (by first | omega | (simp only [LE]; omega)), rfl, rfl⟩
  have hu := unhex_fst (e_23.trans (congrArg _ h_28))
  refine jR (cB (cN h_28)) <| jD <| jF <| jT (jP 4 x_19 m_20 rfl rfl) ?_
  refine jH rfl (jW 3 x_19 m_20 rfl rfl rfl rfl) ?_
  rintro _ _ rfl
  refine jA (jG (v := str []) rfl) <| jE <| jB <| jM <| jX <| jj (.inl rfl) rfl (je (jP 3 x_19 m_20 rfl rfl) ⟨_, rfl⟩) (jN (v := str []) rfl) (tS 3 _) ?_
  exact ⟨x_19, m_20, [], (by simp only [MS.block, e_7, e_17, e_23, h_28, hu, SB]; (repeat (first | rw [if_pos (by omega)] | rw [if_neg (by omega)])); all_goals (first | rfl | simp only [SB, e_7, e_17, e_23, h_28, hu])), (k_18.mono (by omega) (by omega)), (by first | omega | (simp only [LE]; omega)), rfl, rfl⟩

theorem M_layBlock (x : MA) (m : MS) {S T : Nat} (hk : m.ok S T) (hS : S ≤ 90000000) (hT : T ≤ 90000000) (id : Int) (place : Int) (t : Str) (hid : -9223372036854775808 ≤ id ∧ id ≤ 9223372036854775807) (hplace : -9223372036854775808 ≤ place ∧ place ≤ 9223372036854775807) (ht : t.length ≤ 1000000000000) :
    Ct Tryz.prog 147 [mv x m, .int .i64 id, .int .i64 place, str t] (mr x m) (fun _ => True) (fun v A' => ∃ x' m', (fun m i p t => m.lay (keyNum (keyNum ([105, 47] : Str) i ([47, 98, 47] : Str)) p []) (hexS t)) m id place t = m' ∧ m'.ok (S + 1) (T + 1) ∧ v = mv x' m' ∧ A' = mr x' m') := by
  refine Ct.intro Tryz.func147 rfl Tryz.ntmps147 (lb rfl) fun w0 hpre => ?_
  refine jD <| jF ?_
  refine jH rfl (jv (cs := (mc x m)) rfl rfl) ?_
  rintro _ _ ⟨b_1, rfl, rfl⟩
  refine jH rfl (jh (z := zM) (cs := zC) kd rfl) ?_
  rintro _ _ ⟨b_2, rfl, rfl⟩
  refine jE <| jB <| jD <| jF <| jA (jC (v := str t) rfl) ?_
  refine jH rfl (jI [] Tryz.call100 rfl (N_sHex t (by omega)) rfl (fun _ _ => trivial)) ?_
  rintro _ _ ⟨_, ⟨u_5, b_7, e_3, f_6, rfl, rfl⟩, rfl⟩
  refine jA (jC (v := .tuple #[str u_5, .bool b_7]) rfl) <| jA (jS (v := str u_5) rfl rfl) <| jA (jS (v := .bool b_7) rfl rfl) <| jA (jG (v := str u_5) rfl) <| jA (jG (v := .bool b_7) rfl) <| jE <| jB <| jD <| jq [mb b_1 x m] 5 mixed (by simp) <| jl 0 rfl (jP 0 x m rfl rfl) ?_
  refine jK 1 rfl (jC (v := iv id) rfl) <| jK 2 rfl (jC (v := iv place) rfl) <| jK 4 rfl (jC (v := str u_5) rfl) <| jL (i := 3) ?_
  refine jO rfl rfl (jI [] Tryz.call149 rfl (N_l07Block id place (by omega) (by omega)) rfl (fun _ _ => trivial)) ?_
  rintro _ _ ⟨_, ⟨u_18, e_16, f_19, rfl, rfl⟩, rfl⟩
  refine ⟨(by simp), ?_⟩
  refine jL (i := 5) ?_
  refine jo rfl (jI [2, 2, 2] Tryz.call92 rfl (N_sLay x m hk (by omega) (by omega) u_18 u_5 (by omega)) rfl (fun _ _ => trivial)) ?_
  rintro _ _ ⟨_, ⟨x_26, m_27, e_24, k_25, rfl, rfl⟩, rfl⟩
  refine jL (i := 6) ?_
  refine jp rfl (jW 3 x_26 m_27 rfl rfl rfl rfl) ?_
  rintro _ _ rfl
  refine jB <| jM <| jV (.inl rfl) rfl (je (jP 3 x_26 m_27 rfl rfl) ⟨_, rfl⟩) (tS 3 _) ?_
  exact ⟨x_26, m_27, (by simp only [hexS_P, e_3, e_16, e_24, SB]; (repeat (first | rw [if_pos (by omega)] | rw [if_neg (by omega)])); all_goals (first | rfl | simp only [SB, e_3, e_16, e_24])), (k_25.mono (by omega) (by omega)), rfl, rfl⟩

theorem N_readFile (p : Nat) (x : MA) (m : MS) {S T : Nat} (hk : m.ok S T) (hS : S ≤ 50000000) (hT : T ≤ 50000000) (id : Int) (at_ : Int) (n : Int) (hid : -9223372036854775808 ≤ id ∧ id ≤ 9223372036854775807) (hat_ : -9223372036854775808 ≤ at_ ∧ at_ ≤ 9223372036854775807) (hn : -9223372036854775808 ≤ n ∧ n ≤ 9223372036854775807) :
    Ct Tryz.prog 131 [.pointer (some ⟨p, 0, none⟩), .int .i64 id, .int .i64 at_, .int .i64 n] (mb p x m :: mr x m) (fun w => HexOk w) (fun v A' => ∃ x' m' r0, MS.readFile m id at_ n = (m', r0) ∧ m'.ok (S) (T + 130) ∧ r0.length ≤ 1016 ∧ v = str r0 ∧ A' = mb p x' m' :: mr x' m') := by
  refine Ct.introL Tryz.func131 rfl Tryz.ntmps131 (lb rfl) fun w0 hpre hlow => ?_
  refine jD <| jF <| jA (jG (v := str []) rfl) <| jE <| jB <| jD <| jF <| jA (jC (v := pv p) rfl) <| jA (jC (v := iv id) rfl) ?_
  refine jH rfl (jI [] Tryz.call159 rfl (N_sizeKey id (by omega)) rfl (fun _ _ => trivial)) ?_
  rintro _ _ ⟨_, ⟨u_3, e_1, f_4, rfl, rfl⟩, rfl⟩
  refine jH rfl (jI [0, 0, 0, 0] Tryz.call118 rfl (N_num p x m hk (by omega) (by omega) u_3) rfl (fun _ _ => trivial)) ?_
  rintro _ _ ⟨_, ⟨x_7, m_8, n_9, e_5, k_6, f_10, rfl, rfl⟩, rfl⟩
  refine jA (jG (v := iv n_9) rfl) <| jE <| jB <| jD <| jD <| jF <| jA (jC (v := iv at_) rfl) <| jA (js rfl rfl) <| jA (jC (v := .bool (decide (at_ < 0))) rfl) ?_
  by_cases h_11 : at_ < 0
  · refine jY (b := true) rfl rfl rfl (cB (dT h_11)) <| jY (b := true) rfl rfl rfl (cB (dT h_11)) <| jA (jx (v := .bool true) (cB (dT h_11)) rfl) <| jA (jC (v := .bool true) rfl) <| jY (b := true) rfl rfl rfl (cB rfl) <| jY (b := true) rfl rfl rfl (cB rfl) <| jY (b := true) rfl rfl rfl (cB rfl) <| jA (jx (v := .bool true) (cB rfl) rfl) <| jE <| jB ?_
    refine jR (cB rfl) <| jD <| jF <| jA (jG (v := str []) rfl) <| jE <| jB <| jM <| jX <| jV (.inl rfl) rfl (jN (v := str []) rfl) (List.Sublist.refl _) ?_
    exact ⟨x_7, m_8, [], (by simp only [MS.readFile, Int.toNat_natCast, true_or, or_true, false_or, or_false, MS.sizeOf, e_1, e_5, h_11, SB]; (repeat (first | rw [if_pos (by omega)] | rw [if_neg (by omega)])); all_goals (first | rfl | simp only [SB, e_1, e_5, h_11])), (k_6.mono (by omega) (by omega)), (by first | omega | (simp only [LE]; omega)), rfl, rfl⟩
  obtain ⟨a, hat⟩ : ∃ a : Nat, at_ = ((a : Nat) : Int) := ⟨at_.toNat, by omega⟩
  refine jb rfl rfl rfl (cB (dF h_11)) (ja (jd (jC (v := iv n) rfl))) ?_
  rintro _ _ ⟨rfl, rfl⟩
  refine jb rfl rfl rfl (cB (dF h_11)) (ja (jd (js rfl rfl))) ?_
  rintro _ _ ⟨rfl, rfl⟩
  refine jA (jw (v := .bool (decide (n < 1))) (cB (dF h_11)) rfl) <| jA (jC (v := .bool (decide (n < 1))) rfl) ?_
  by_cases h_12 : n < 1
  · refine jY (b := true) rfl rfl rfl (cB (dT h_12)) <| jY (b := true) rfl rfl rfl (cB (dT h_12)) <| jY (b := true) rfl rfl rfl (cB (dT h_12)) <| jA (jx (v := .bool true) (cB (dT h_12)) rfl) <| jE <| jB <| jR (cB rfl) <| jD <| jF <| jA (jG (v := str []) rfl) ?_
    refine jE <| jB <| jM <| jX <| jV (.inl rfl) rfl (jN (v := str []) rfl) (List.Sublist.refl _) ?_
    exact ⟨x_7, m_8, [], (by simp only [MS.readFile, Int.toNat_natCast, true_or, or_true, false_or, or_false, MS.sizeOf, e_1, e_5, h_11, hat, h_12, SB]; (repeat (first | rw [if_pos (by omega)] | rw [if_neg (by omega)])); all_goals (first | rfl | simp only [SB, e_1, e_5, h_11, hat, h_12])), (k_6.mono (by omega) (by omega)), (by first | omega | (simp only [LE]; omega)), rfl, rfl⟩
  refine jb rfl rfl rfl (cB (dF h_12)) (ja (jd (jC (v := nv a) (congrArg (Value.int .i64) hat)))) ?_
  rintro _ _ ⟨rfl, rfl⟩
  refine jb rfl rfl rfl (cB (dF h_12)) (ja (jd (jC (v := iv n_9) rfl))) ?_
  rintro _ _ ⟨rfl, rfl⟩
  refine jb rfl rfl rfl (cB (dF h_12)) (ja (jd (kT rfl rfl))) ?_
  rintro _ _ ⟨rfl, rfl⟩
  refine jA (jw (v := .bool (decide (n_9 ≤ ((a : Nat) : Int)))) (cB (dF h_12)) rfl) <| jE <| jB ?_
  by_cases h_13 : n_9 ≤ ((a : Nat) : Int)
  · refine jR (cB (dT h_13)) <| jD <| jF <| jA (jG (v := str []) rfl) <| jE <| jB <| jM <| jX <| jV (.inl rfl) rfl (jN (v := str []) rfl) (List.Sublist.refl _) ?_
    exact ⟨x_7, m_8, [], (by simp only [MS.readFile, Int.toNat_natCast, true_or, or_true, false_or, or_false, MS.sizeOf, e_1, e_5, h_11, hat, h_12, h_13, SB]; (repeat (first | rw [if_pos (by omega)] | rw [if_neg (by omega)])); all_goals (first | rfl | simp only [SB, e_1, e_5, h_11, hat, h_12, h_13])), (k_6.mono (by omega) (by omega)), (by first | omega | (simp only [LE]; omega)), rfl, rfl⟩
  refine jQ (cB (dF h_13)) <| jU <| jB <| jD <| jF <| jA (jC (v := nv a) (congrArg (Value.int .i64) hat)) <| jA (jC (v := iv n) rfl) <| jA (jC (v := iv n_9) rfl) <| jA (jC (v := nv a) (congrArg (Value.int .i64) hat)) <| jA (kR (c := n_9 - ((a : Nat) : Int)) rfl rfl (wr (by omega))) ?_
  refine jA (PO.min2 (c := min n (n_9 - ((a : Nat) : Int))) rfl rfl rfl) <| jA (jg (c := ((a : Nat) : Int) + (min n (n_9 - ((a : Nat) : Int)))) rfl rfl (wr (by omega))) <| jA (jG (v := iv (((a : Nat) : Int) + (min n (n_9 - ((a : Nat) : Int))))) rfl) <| jE <| jB <| jD <| jF <| jA (jG (v := str []) rfl) <| jE <| jB ?_
  refine jD <| jD <| jF <| jA (jC (v := nv a) (congrArg (Value.int .i64) hat)) <| jA (PO.quoN (c := ((a / 8 : Nat) : Int)) rfl rfl (by omega) (by omega) (by omega) (wr (by omega))) <| jA (jG (v := iv ((a / 8 : Nat) : Int)) rfl) <| jE <| jB <| jm ?_
  obtain ⟨E, hE, hE2⟩ : ∃ E : Nat, ((a : Nat) : Int) + min n (n_9 - ((a : Nat) : Int)) = (E : Int) ∧ ((a : Nat) : Int) + (min n (n_9 - ((a : Nat) : Int))) = (E : Int) := ⟨(((a : Nat) : Int) + (min n (n_9 - ((a : Nat) : Int)))).toNat, by omega, by omega⟩
  have hE3 : a < E ∧ E ≤ 999 := by omega
  refine kE (fun k_ e_ L_ => ∃ p_ : Nat, ∃ x1 : MA, ∃ mm : MS, ∃ o_ : Str, (mm.ok (S) (T + 2 + p_)) ∧ (a / 8 ≤ p_ ∧ p_ ≤ 125) ∧ (o_.length + 8 * (a / 8) ≤ 8 * p_) ∧ (MS.readL id a E (130 - p_) p_ mm o_ = MS.readL id a E (130 - a / 8) (a / 8) m_8 []) ∧ e_ 0 = pv p ∧ e_ 1 = iv id ∧ e_ 2 = nv a ∧ e_ 8 = str [] ∧ e_ 10 = nv E ∧ e_ 11 = str o_ ∧ e_ 12 = nv p_ ∧ L_ = [mb p x1 mm, rC x1.a0 x1.c0 mm.s, rS x1.a1 x1.c1 mm.r, rS x1.a2 x1.c2 mm.w] ∧ k_ = 126 - p_) _ ⟨(a / 8), x_7, m_8, [], (k_6.mono (by omega) (by omega)), (by omega), (by simp only [List.length_nil]; omega), rfl, rfl, rfl, (congrArg (Value.int .i64) hat), rfl, (congrArg (Value.int .i64) hE2), rfl, rfl, rfl, rfl⟩ ?_
  rintro _ e_14 _ ⟨p_, x1, mm, o_, hkmm, hp0, ho, hR, he_15, he_16, he_17, he_18, he_19, he_20, he_21, rfl, rfl⟩
  refine jD <| jD <| jF <| jA (jC (v := nv p_) he_21) <| jA (PO.mul (c := ((p_ * 8 : Nat) : Int)) rfl rfl (wr (by omega))) <| jA (jC (v := nv E) he_19) <| jA (js rfl rfl) <| jE <| jB ?_
  by_cases h_22 : ((p_ * 8 : Nat) : Int) < ((E : Nat) : Int)
  · refine jR (cB (dT h_22)) <| jU <| jB <| jD <| jm <| jD <| jF <| jA (jC (v := pv p) he_15) <| jA (jC (v := iv id) he_16) <| jA (jC (v := nv p_) he_21) ?_
    refine jH rfl (jI [0, 0, 0, 0] Tryz.call160 rfl (N_block p x1 mm hkmm (by omega) (by omega) id ((p_ : Nat) : Int) (by omega) (by omega)) rfl (fun w hw => hw.hex hlow hpre)) ?_
    rintro _ _ ⟨_, ⟨x_25, m_26, u_27, e_23, k_24, f_28, rfl, rfl⟩, rfl⟩
    refine jA (jG (v := str u_27) rfl) <| jE <| jB <| jD <| jF <| jA (jC (v := nv a) he_17) <| jA (jC (v := nv p_) he_21) <| jA (PO.mul (c := ((p_ * 8 : Nat) : Int)) rfl rfl (wr (by omega))) <| jA (kR (c := ((a : Nat) : Int) - ((p_ * 8 : Nat) : Int)) rfl rfl (wr (by omega))) <| jA (PO.max2 (c := ((a - p_ * 8 : Nat) : Int)) rfl rfl (by omega)) ?_
    refine jA (jG (v := iv ((a - p_ * 8 : Nat) : Int)) rfl) <| jE <| jB <| jD <| jF <| jA (jC (v := nv E) he_19) <| jA (jC (v := nv p_) he_21) <| jA (PO.mul (c := ((p_ * 8 : Nat) : Int)) rfl rfl (wr (by omega))) <| jA (kR (c := ((E : Nat) : Int) - ((p_ * 8 : Nat) : Int)) rfl rfl (wr (by omega))) <| jA (jC (v := str u_27) rfl) ?_
    refine jA (kJ kY rfl) <| jA (PO.min3 (c := ((min (min (E - p_ * 8) 8) u_27.length : Nat) : Int)) rfl rfl rfl (by omega)) <| jA (jG (v := iv ((min (min (E - p_ * 8) 8) u_27.length : Nat) : Int)) rfl) <| jE <| jB <| jD <| jF <| jA (jC (v := iv ((a - p_ * 8 : Nat) : Int)) rfl) <| jA (jC (v := iv ((min (min (E - p_ * 8) 8) u_27.length : Nat) : Int)) rfl) <| jA (js rfl rfl) ?_
    refine jE <| jB ?_
    by_cases h_29 : ((a - p_ * 8 : Nat) : Int) < ((min (min (E - p_ * 8) 8) u_27.length : Nat) : Int)
    · have hp : piece u_27 (a - p_ * 8) (min (min (E - p_ * 8) 8) u_27.length) = (u_27.drop (a - p_ * 8)).take ((min (min (E - p_ * 8) 8) u_27.length) - (a - p_ * 8)) := rfl
      refine jR (cB (dT h_29)) <| jF <| jA (jC (v := str o_) he_20) <| jA (jC (v := str u_27) rfl) <| jA (jC (v := iv ((a - p_ * 8 : Nat) : Int)) rfl) <| jA (jC (v := iv ((min (min (E - p_ * 8) 8) u_27.length : Nat) : Int)) rfl) <| jA (PO.sliceS (i := (a - p_ * 8)) (j := (min (min (E - p_ * 8) 8) u_27.length)) kY rfl rfl rfl (by omega) (by omega)) <| jA (kO rfl rfl (by (try simp only [List.length_append, List.length_cons, List.length_nil, List.length_drop, List.length_take]); omega)) <| jA (jG (v := str (o_ ++ ((u_27.drop (a - p_ * 8)).take ((min (min (E - p_ * 8) 8) u_27.length) - (a - p_ * 8))))) rfl) <| jE ?_
      refine jk <| jB <| jF <| jA (jC (v := nv p_) he_21) <| jA (jg (c := ((p_ + 1 : Nat) : Int)) rfl rfl (wr (by omega))) <| jA (jG (v := iv ((p_ + 1 : Nat) : Int)) rfl) <| jE <| jr [0, 0, 0, 0] (A := [mb p x_25 m_26, rC x_25.a0 x_25.c0 m_26.s, rS x_25.a1 x_25.c1 m_26.r, rS x_25.a2 x_25.c2 m_26.w]) rfl ?_
      refine jt (126 - (p_ + 1)) (by omega) ⟨(p_ + 1), x_25, m_26, (o_ ++ ((u_27.drop (a - p_ * 8)).take ((min (min (E - p_ * 8) 8) u_27.length) - (a - p_ * 8)))), (k_24.mono (by omega) (by omega)), (by omega), (by first | omega | (simp only [List.length_append, List.length_take, List.length_drop]; omega)), (by rw [show 130 - p_ = (130 - (p_ + 1)) + 1 by omega, MS.readL, if_pos (by omega)] at hR; simp only [e_1, e_5, e_23, hp, List.append_nil] at hR; exact hR), he_15, he_16, he_17, he_18, he_19, rfl, rfl, rfl, rfl⟩
    have hp : piece u_27 (a - p_ * 8) (min (min (E - p_ * 8) 8) u_27.length) = [] := piece_nil (by omega)
    refine jQ (cB (dF h_29)) <| jU <| jk <| jB <| jF <| jA (jC (v := nv p_) he_21) <| jA (jg (c := ((p_ + 1 : Nat) : Int)) rfl rfl (wr (by omega))) <| jA (jG (v := iv ((p_ + 1 : Nat) : Int)) rfl) <| jE <| jr [0, 0, 0, 0] (A := [mb p x_25 m_26, rC x_25.a0 x_25.c0 m_26.s, rS x_25.a1 x_25.c1 m_26.r, rS x_25.a2 x_25.c2 m_26.w]) rfl ?_
    refine jt (126 - (p_ + 1)) (by omega) ⟨(p_ + 1), x_25, m_26, o_, (k_24.mono (by omega) (by omega)), (by omega), (by first | omega | (simp only [List.length_append, List.length_take, List.length_drop]; omega)), (by rw [show 130 - p_ = (130 - (p_ + 1)) + 1 by omega, MS.readL, if_pos (by omega)] at hR; simp only [e_1, e_5, e_23, hp, List.append_nil] at hR; exact hR), he_15, he_16, he_17, he_18, he_19, he_20, rfl, rfl, rfl⟩
  rw [MS.readL_stop (by omega)] at hR
  have hRE := hR.symm
  refine jQ (cB (dF h_22)) <| kB <| jn <| jn <| kC <| jB <| jD <| jF <| jA (jC (v := str o_) he_20) <| jA (jG (v := str o_) rfl) ?_
  refine jE <| jB <| jM <| jV (.inl rfl) rfl (jN (v := str o_) rfl) (List.Sublist.refl _) ?_
  exact ⟨x1, mm, o_, (by simp only [MS.readFile, Int.toNat_natCast, true_or, or_true, false_or, or_false, MS.sizeOf, e_1, e_5, h_11, hat, h_12, h_13, hE, h_22, hRE, SB]; (repeat (first | rw [if_pos (by omega)] | rw [if_neg (by omega)])); all_goals (first | rfl | simp only [SB, e_1, e_5, h_11, hat, h_12, h_13, hE, h_22, hRE])), (hkmm.mono (by omega) (by omega)), (by first | omega | (simp only [LE]; omega)), rfl, rfl⟩

theorem M_readFile (x : MA) (m : MS) {S T : Nat} (hk : m.ok S T) (hS : S ≤ 50000000) (hT : T ≤ 50000000) (id : Int) (at_ : Int) (n : Int) (hid : -9223372036854775808 ≤ id ∧ id ≤ 9223372036854775807) (hat_ : -9223372036854775808 ≤ at_ ∧ at_ ≤ 9223372036854775807) (hn : -9223372036854775808 ≤ n ∧ n ≤ 9223372036854775807) :
    Ct Tryz.prog 95 [mv x m, .int .i64 id, .int .i64 at_, .int .i64 n] (mr x m) (fun _ => True) (fun v A' => ∃ x' m' r0, MS.readFile m id at_ n = (m', r0) ∧ m'.ok (S) (T + 130) ∧ r0.length ≤ 1016 ∧ v = .tuple #[mv x' m', str r0] ∧ A' = mr x' m') := by
  refine Ct.intro Tryz.func95 rfl Tryz.ntmps95 (lb rfl) fun w0 hpre => ?_
  refine jD <| jF ?_
  refine jH rfl (jv (cs := (mc x m)) rfl rfl) ?_
  rintro _ _ ⟨b_1, rfl, rfl⟩
  refine jH rfl (jh (z := zM) (cs := zC) kd rfl) ?_
  rintro _ _ ⟨b_2, rfl, rfl⟩
  refine jA (jG (v := str []) rfl) <| jE <| jB <| jD <| jF <| jT (jP 1 x m rfl rfl) <| jA (jC (v := iv id) rfl) ?_
  refine jH rfl (jI [2, 2, 2] Tryz.call145 rfl (M_sizeFile x m hk (by omega) (by omega) id (by omega)) rfl (fun _ _ => trivial)) ?_
  rintro _ _ ⟨_, ⟨x_5, m_6, n_7, e_3, k_4, f_8, rfl, rfl⟩, rfl⟩
  refine jA (jC (v := .tuple #[mv x_5 m_6, iv n_7]) rfl) <| jA (jS (v := mv x_5 m_6) rfl rfl) <| jA (jS (v := iv n_7) rfl rfl) ?_
  refine jH rfl (jW 4 x_5 m_6 rfl rfl rfl rfl) ?_
  rintro _ _ rfl
  refine jA (jG (v := iv n_7) rfl) <| jE <| jB <| jD <| jD <| jF <| jA (jC (v := iv at_) rfl) <| jA (js rfl rfl) <| jA (jC (v := .bool (decide (at_ < 0))) rfl) ?_
  by_cases h_9 : at_ < 0
  · refine jY (b := true) rfl rfl rfl (cB (dT h_9)) <| jY (b := true) rfl rfl rfl (cB (dT h_9)) <| jA (jx (v := .bool true) (cB (dT h_9)) rfl) <| jA (jC (v := .bool true) rfl) <| jY (b := true) rfl rfl rfl (cB rfl) <| jY (b := true) rfl rfl rfl (cB rfl) <| jY (b := true) rfl rfl rfl (cB rfl) <| jA (jx (v := .bool true) (cB rfl) rfl) <| jE <| jB ?_
    refine jR (cB rfl) <| jD <| jF <| jT (jP 4 x_5 m_6 rfl rfl) ?_
    refine jH rfl (jW 3 x_5 m_6 rfl rfl rfl rfl) ?_
    rintro _ _ rfl
    refine jA (jG (v := str []) rfl) <| jE <| jB <| jM <| jX <| jj (.inl rfl) rfl (je (jP 3 x_5 m_6 rfl rfl) ⟨_, rfl⟩) (jN (v := str []) rfl) (tS 3 _) ?_
    exact ⟨x_5, m_6, [], (by simp only [MS.readFile, Int.toNat_natCast, true_or, or_true, false_or, or_false, e_3, h_9, SB]; (repeat (first | rw [if_pos (by omega)] | rw [if_neg (by omega)])); all_goals (first | rfl | simp only [SB, e_3, h_9])), (k_4.mono (by omega) (by omega)), (by first | omega | (simp only [LE]; omega)), rfl, rfl⟩
  obtain ⟨a, hat⟩ : ∃ a : Nat, at_ = ((a : Nat) : Int) := ⟨at_.toNat, by omega⟩
  refine jb rfl rfl rfl (cB (dF h_9)) (ja (jd (jC (v := iv n) rfl))) ?_
  rintro _ _ ⟨rfl, rfl⟩
  refine jb rfl rfl rfl (cB (dF h_9)) (ja (jd (js rfl rfl))) ?_
  rintro _ _ ⟨rfl, rfl⟩
  refine jA (jw (v := .bool (decide (n < 1))) (cB (dF h_9)) rfl) <| jA (jC (v := .bool (decide (n < 1))) rfl) ?_
  by_cases h_10 : n < 1
  · refine jY (b := true) rfl rfl rfl (cB (dT h_10)) <| jY (b := true) rfl rfl rfl (cB (dT h_10)) <| jY (b := true) rfl rfl rfl (cB (dT h_10)) <| jA (jx (v := .bool true) (cB (dT h_10)) rfl) <| jE <| jB <| jR (cB rfl) <| jD <| jF <| jT (jP 4 x_5 m_6 rfl rfl) ?_
    refine jH rfl (jW 3 x_5 m_6 rfl rfl rfl rfl) ?_
    rintro _ _ rfl
    refine jA (jG (v := str []) rfl) <| jE <| jB <| jM <| jX <| jj (.inl rfl) rfl (je (jP 3 x_5 m_6 rfl rfl) ⟨_, rfl⟩) (jN (v := str []) rfl) (tS 3 _) ?_
    exact ⟨x_5, m_6, [], (by simp only [MS.readFile, Int.toNat_natCast, true_or, or_true, false_or, or_false, e_3, h_9, hat, h_10, SB]; (repeat (first | rw [if_pos (by omega)] | rw [if_neg (by omega)])); all_goals (first | rfl | simp only [SB, e_3, h_9, hat, h_10])), (k_4.mono (by omega) (by omega)), (by first | omega | (simp only [LE]; omega)), rfl, rfl⟩
  refine jb rfl rfl rfl (cB (dF h_10)) (ja (jd (jC (v := nv a) (congrArg (Value.int .i64) hat)))) ?_
  rintro _ _ ⟨rfl, rfl⟩
  refine jb rfl rfl rfl (cB (dF h_10)) (ja (jd (jC (v := iv n_7) rfl))) ?_
  rintro _ _ ⟨rfl, rfl⟩
  refine jb rfl rfl rfl (cB (dF h_10)) (ja (jd (kT rfl rfl))) ?_
  rintro _ _ ⟨rfl, rfl⟩
  refine jA (jw (v := .bool (decide (n_7 ≤ ((a : Nat) : Int)))) (cB (dF h_10)) rfl) <| jE <| jB ?_
  by_cases h_11 : n_7 ≤ ((a : Nat) : Int)
  · refine jR (cB (dT h_11)) <| jD <| jF <| jT (jP 4 x_5 m_6 rfl rfl) ?_
    refine jH rfl (jW 3 x_5 m_6 rfl rfl rfl rfl) ?_
    rintro _ _ rfl
    refine jA (jG (v := str []) rfl) <| jE <| jB <| jM <| jX <| jj (.inl rfl) rfl (je (jP 3 x_5 m_6 rfl rfl) ⟨_, rfl⟩) (jN (v := str []) rfl) (tS 3 _) ?_
    exact ⟨x_5, m_6, [], (by simp only [MS.readFile, Int.toNat_natCast, true_or, or_true, false_or, or_false, e_3, h_9, hat, h_10, h_11, SB]; (repeat (first | rw [if_pos (by omega)] | rw [if_neg (by omega)])); all_goals (first | rfl | simp only [SB, e_3, h_9, hat, h_10, h_11])), (k_4.mono (by omega) (by omega)), (by first | omega | (simp only [LE]; omega)), rfl, rfl⟩
  refine jQ (cB (dF h_11)) <| jU <| jB <| jD <| jF <| jA (jC (v := iv n_7) rfl) <| jA (jG (v := iv n_7) rfl) <| jE <| jB <| jD ?_
  refine JC.cut (fun e_ L_ => ∃ E : Nat, (((a : Nat) : Int) + min n (n_7 - ((a : Nat) : Int)) = (E : Int)) ∧ (a < E ∧ E ≤ 999) ∧ e_ 1 = iv id ∧ e_ 2 = nv a ∧ e_ 4 = .pointer (some ⟨b_1, 0, none⟩) ∧ e_ 8 = .pointer (some ⟨b_2, 0, none⟩) ∧ e_ 9 = str [] ∧ e_ 11 = nv E ∧ L_ = [rC x_5.a0 x_5.c0 m_6.s, rS x_5.a1 x_5.c1 m_6.r, rS x_5.a2 x_5.c2 m_6.w, bk b_2 35 zC, mb b_1 x_5 m_6]) ?_ ?_
  · refine jD <| jF <| jA (jC (v := iv n) rfl) <| jA (jC (v := iv n_7) rfl) <| jA (jC (v := nv a) (congrArg (Value.int .i64) hat)) <| jA (kR (c := n_7 - ((a : Nat) : Int)) rfl rfl (wr (by omega))) <| jA (js rfl rfl) <| jE <| jB ?_
    by_cases h_12 : n < (n_7 - ((a : Nat) : Int))
    · refine jR (cB (dT h_12)) <| jF <| jA (jC (v := nv a) (congrArg (Value.int .i64) hat)) <| jA (jC (v := iv n) rfl) <| jA (jg (c := ((a : Nat) : Int) + n) rfl rfl (wr (by omega))) <| jA (jG (v := iv (((a : Nat) : Int) + n)) rfl) <| jE <| jr [0, 0, 0, 0, 0] (A := [rC x_5.a0 x_5.c0 m_6.s, rS x_5.a1 x_5.c1 m_6.r, rS x_5.a2 x_5.c2 m_6.w, bk b_2 35 zC, mb b_1 x_5 m_6]) rfl ?_
      exact jy ⟨(((a : Nat) : Int) + n).toNat, (by omega), (by omega), rfl, (congrArg (Value.int .i64) hat), rfl, rfl, rfl, (congrArg (Value.int .i64) (Int.toNat_of_nonneg (by omega)).symm), rfl⟩
    refine jQ (cB (dF h_12)) <| jU <| jr [0, 0, 0, 0, 0] (A := [rC x_5.a0 x_5.c0 m_6.s, rS x_5.a1 x_5.c1 m_6.r, rS x_5.a2 x_5.c2 m_6.w, bk b_2 35 zC, mb b_1 x_5 m_6]) rfl ?_
    exact jy ⟨(n_7).toNat, (by omega), (by omega), rfl, (congrArg (Value.int .i64) hat), rfl, rfl, rfl, (congrArg (Value.int .i64) (Int.toNat_of_nonneg (by omega)).symm), rfl⟩
  rintro e_13 _ ⟨E, hE, hE3, he_14, he_15, he_16, he_17, he_18, he_19, rfl⟩
  refine jB <| jD <| jF ?_
  refine jH rfl (kI (ps := []) (cur := #[]) ki kq kw rfl (by kernel_rfl) (by decide) (by decide)) ?_
  rintro _ _ ⟨a_20, rfl, rfl⟩
  refine jA (jG (v := .slice a_20 0 0) rfl) <| jE <| jB <| jD <| jD <| jF <| jA (jC (v := nv a) he_15) <| jA (PO.quoN (c := ((a / 8 : Nat) : Int)) rfl rfl (by omega) (by omega) (by omega) (wr (by omega))) <| jA (jG (v := iv ((a / 8 : Nat) : Int)) rfl) <| jE ?_
  refine jB <| jm <| kE (fun k_ e_ L_ => ∃ p_ : Nat, ∃ x1 : MA, ∃ mm : MS, ∃ o_a : Option Addr, ∃ o_c : Nat, ∃ o_n : Nat, ∃ o_ : Str, (mm.ok (S) (T + 2 + p_)) ∧ (o_.length = o_n) ∧ (a / 8 ≤ p_ ∧ p_ ≤ 125) ∧ (o_.length + 8 * (a / 8) ≤ 8 * p_) ∧ (MS.readL id a E (130 - p_) p_ mm o_ = MS.readL id a E (130 - a / 8) (a / 8) m_6 []) ∧ e_ 1 = iv id ∧ e_ 2 = nv a ∧ e_ 4 = .pointer (some ⟨b_1, 0, none⟩) ∧ e_ 8 = .pointer (some ⟨b_2, 0, none⟩) ∧ e_ 9 = str [] ∧ e_ 11 = nv E ∧ e_ 12 = .slice o_a o_n o_c ∧ e_ 13 = nv p_ ∧ L_ = [Res.row (.slice o_a o_n o_c) 5 1 o_n (o_.map encB), rC x1.a0 x1.c0 mm.s, rS x1.a1 x1.c1 mm.r, rS x1.a2 x1.c2 mm.w, bk b_2 35 zC, mb b_1 x1 mm] ∧ k_ = 126 - p_) _ ⟨(a / 8), x_5, m_6, a_20, 0, 0, ([] : List UInt8), (k_4.mono (by omega) (by omega)), (by first | rfl | omega | (simp only [List.length_append, List.length_cons, List.length_nil, List.length_set]; omega) | simp), (by omega), (by simp only [List.length_nil]; omega), rfl, he_14, he_15, he_16, he_17, he_18, he_19, rfl, rfl, rfl, rfl⟩ ?_
  rintro _ e_21 _ ⟨p_, x1, mm, o_a, o_c, o_n, o_, hkmm, ho_n, hp0, ho, hR, he_22, he_23, he_24, he_25, he_26, he_27, he_28, he_29, rfl, rfl⟩
  refine jD <| jD <| jF <| jA (jC (v := nv p_) he_29) <| jA (PO.mul (c := ((p_ * 8 : Nat) : Int)) rfl rfl (wr (by omega))) <| jA (jC (v := nv E) he_27) <| jA (js rfl rfl) <| jE <| jB ?_
  by_cases h_30 : ((p_ * 8 : Nat) : Int) < ((E : Nat) : Int)
  · refine jR (cB (dT h_30)) <| jU <| jB <| jD <| jm <| jD <| jF <| jA (jG (v := str []) rfl) <| jE <| jB ?_
    refine jD <| jF <| jT (jP 5 x1 mm rfl he_24) <| jA (jC (v := iv id) he_22) <| jA (jC (v := nv p_) he_29) ?_
    refine jH rfl (jI [1, 1, 1] Tryz.call146 rfl (M_block x1 mm hkmm (by omega) (by omega) id ((p_ : Nat) : Int) (by omega) (by omega)) rfl (fun _ _ => trivial)) ?_
    rintro _ _ ⟨_, ⟨x_33, m_34, u_35, e_31, k_32, f_36, rfl, rfl⟩, rfl⟩
    refine jA (jC (v := .tuple #[mv x_33 m_34, str u_35]) rfl) <| jA (jS (v := mv x_33 m_34) rfl rfl) <| jA (jS (v := str u_35) rfl rfl) ?_
    refine jH rfl (jW 5 x_33 m_34 rfl he_24 rfl rfl) ?_
    rintro _ _ rfl
    refine jA (jG (v := str u_35) rfl) <| jE <| jB <| jD <| jF <| jA (jG (v := iv 0) rfl) <| jE <| jB <| jm <| kE (fun k_ e_ L_ => ∃ i_ : Nat, ∃ q_a : Option Addr, ∃ q_c : Nat, ∃ q_n : Nat, ∃ q_ : Str, (q_.length = q_n) ∧ (i_ ≤ 8 ∧ i_ ≤ u_35.length) ∧ (q_ = o_ ++ piece u_35 (a - p_ * 8) (min (E - p_ * 8) i_)) ∧ (q_.length ≤ o_.length + i_) ∧ e_ 1 = iv id ∧ e_ 2 = nv a ∧ e_ 4 = .pointer (some ⟨b_1, 0, none⟩) ∧ e_ 8 = .pointer (some ⟨b_2, 0, none⟩) ∧ e_ 9 = str [] ∧ e_ 11 = nv E ∧ e_ 12 = .slice q_a q_n q_c ∧ e_ 13 = nv p_ ∧ e_ 14 = str u_35 ∧ e_ 15 = nv i_ ∧ L_ = [rC x_33.a0 x_33.c0 m_34.s, rS x_33.a1 x_33.c1 m_34.r, rS x_33.a2 x_33.c2 m_34.w, Res.row (.slice q_a q_n q_c) 5 1 q_n (q_.map encB), bk b_2 35 zC, mb b_1 x_33 m_34] ∧ k_ = 8 - i_) _ ⟨0, o_a, o_c, o_n, o_, (by first | rfl | omega | (simp only [List.length_append, List.length_cons, List.length_nil, List.length_set]; omega) | simp), (by omega), (by rw [piece_nil (by omega), List.append_nil]), (by omega), he_22, he_23, he_24, he_25, he_26, he_27, he_28, he_29, rfl, rfl, rfl, rfl⟩ ?_
    rintro _ e_37 _ ⟨i_, q_a, q_c, q_n, q_, hq_n, hi, hq, hql, he_38, he_39, he_40, he_41, he_42, he_43, he_44, he_45, he_46, he_47, rfl, rfl⟩
    refine jD <| jD <| jF <| jA (jC (v := nv i_) he_47) <| jA (jC (v := str u_35) he_46) <| jA (kJ kY rfl) <| jA (js rfl rfl) <| jA (jC (v := .bool (decide (((i_ : Nat) : Int) < (u_35.length : Int)))) rfl) ?_
    by_cases h_48 : ((i_ : Nat) : Int) < (u_35.length : Int)
    · refine jb rfl rfl rfl (cB (dT h_48)) (ja (jd (jC (v := nv i_) he_47))) ?_
      rintro _ _ ⟨rfl, rfl⟩
      refine jb rfl rfl rfl (cB (dT h_48)) (ja (jd (js rfl rfl))) ?_
      rintro _ _ ⟨rfl, rfl⟩
      refine jA (jx (v := .bool (decide (((i_ : Nat) : Int) < 8))) (cB (dT h_48)) rfl) <| jE <| jB ?_
      by_cases h_49 : ((i_ : Nat) : Int) < 8
      · refine jR (cB (dT h_49)) <| jU <| jB <| jD <| jm <| jD <| jF <| jA (jC (v := nv p_) he_45) <| jA (PO.mul (c := ((p_ * 8 : Nat) : Int)) rfl rfl (wr (by omega))) <| jA (jC (v := nv i_) he_47) ?_
        refine jA (jg (c := (((p_ * 8) + i_ : Nat) : Int)) rfl rfl (wr (by omega))) <| jA (jG (v := iv (((p_ * 8) + i_ : Nat) : Int)) rfl) <| jE <| jB <| jD <| jF <| jA (jC (v := iv (((p_ * 8) + i_ : Nat) : Int)) rfl) <| jA (jC (v := nv a) he_39) <| jA (kT rfl rfl) <| jA (jC (v := .bool (decide (((a : Nat) : Int) ≤ (((p_ * 8) + i_ : Nat) : Int)))) rfl) ?_
        by_cases h_50 : ((a : Nat) : Int) ≤ (((p_ * 8) + i_ : Nat) : Int)
        · refine jb rfl rfl rfl (cB (dT h_50)) (ja (jd (jC (v := iv (((p_ * 8) + i_ : Nat) : Int)) rfl))) ?_
          rintro _ _ ⟨rfl, rfl⟩
          refine jb rfl rfl rfl (cB (dT h_50)) (ja (jd (jC (v := nv E) he_43))) ?_
          rintro _ _ ⟨rfl, rfl⟩
          refine jb rfl rfl rfl (cB (dT h_50)) (ja (jd (js rfl rfl))) ?_
          rintro _ _ ⟨rfl, rfl⟩
          refine jA (jx (v := .bool (decide ((((p_ * 8) + i_ : Nat) : Int) < ((E : Nat) : Int)))) (cB (dT h_50)) rfl) <| jE <| jB ?_
          by_cases h_51 : (((p_ * 8) + i_ : Nat) : Int) < ((E : Nat) : Int)
          · refine jR (cB (dT h_51)) <| jF <| jA (jC (v := .slice q_a q_n q_c) he_44) <| jA (jC (v := str u_35) he_46) <| jA (jC (v := nv i_) he_47) <| jA (PO.indexS (i := i_) (c := u_35.getD i_ 0) kY rfl rfl (getD_some (by omega))) ?_
            have hu_52 := UInt8.toNat_lt (u_35.getD i_ 0)
            refine jH rfl (kI (ps := [(0, .int .u8 ((u_35.getD i_ 0).toNat : Int))]) (cur := #[.int .u8 ((u_35.getD i_ 0).toNat : Int)]) ki kq kw rfl (by kernel_rfl) (by decide) (by decide)) ?_
            rintro _ _ ⟨a_53, rfl, rfl⟩
            refine jH rfl (kF 4 (q := 1) (news := ([u_35.getD i_ 0] : List UInt8).map encB) (n' := (q_ ++ ([u_35.getD i_ 0] : List UInt8)).length) (cs' := (q_ ++ ([u_35.getD i_ 0] : List UInt8)).map encB) rfl ki ki Tryz.typeInfo5 rfl (by' := 1) rfl rfl rfl rfl rfl (fun w hw => Src.sees (hw.see (i := 0) rfl) (oneB _)) (by (try simp only [LE]); omega) (by (try simp only [LE]); omega) (by simp only [List.length_append, List.length_take, List.length_drop, List.length_cons, List.length_nil] <;> first | rfl | omega) (by simp only [List.map_append])) ?_
            rintro _ _ ⟨a_54, c_55, rfl, rfl⟩
            refine jA (jG (v := .slice a_54 ((q_ ++ ([u_35.getD i_ 0] : List UInt8)).length) c_55) rfl) <| jE <| jk <| jB <| jF <| jA (jC (v := nv i_) he_47) <| jA (jg (c := ((i_ + 1 : Nat) : Int)) rfl rfl (wr (by omega))) <| jA (jG (v := iv ((i_ + 1 : Nat) : Int)) rfl) <| jE <| jr [1, 1, 1, 1, 1, 1] (A := [rC x_33.a0 x_33.c0 m_34.s, rS x_33.a1 x_33.c1 m_34.r, rS x_33.a2 x_33.c2 m_34.w, Res.row (.slice a_54 ((q_ ++ ([u_35.getD i_ 0] : List UInt8)).length) c_55) 5 1 ((q_ ++ ([u_35.getD i_ 0] : List UInt8)).length) ((q_ ++ ([u_35.getD i_ 0] : List UInt8)).map encB), bk b_2 35 zC, mb b_1 x_33 m_34]) rfl ?_
            refine jt (8 - (i_ + 1)) (by omega) ⟨(i_ + 1), a_54, c_55, ((q_ ++ ([u_35.getD i_ 0] : List UInt8)).length), (q_ ++ ([u_35.getD i_ 0] : List UInt8)), (by first | rfl | omega | (simp only [List.length_append, List.length_cons, List.length_nil, List.length_set]; omega) | simp), (by omega), (by rw [hq, List.append_assoc, piece_yes (by omega) (by omega) (by omega)]), (by first | omega | (simp only [List.length_append, List.length_cons, List.length_nil]; omega)), he_38, he_39, he_40, he_41, he_42, he_43, rfl, he_45, he_46, rfl, rfl, rfl⟩
          refine jQ (cB (dF h_51)) <| jU <| jk <| jB <| jF <| jA (jC (v := nv i_) he_47) <| jA (jg (c := ((i_ + 1 : Nat) : Int)) rfl rfl (wr (by omega))) <| jA (jG (v := iv ((i_ + 1 : Nat) : Int)) rfl) <| jE <| jr [0, 0, 0, 0, 0, 0] (A := [rC x_33.a0 x_33.c0 m_34.s, rS x_33.a1 x_33.c1 m_34.r, rS x_33.a2 x_33.c2 m_34.w, Res.row (.slice q_a q_n q_c) 5 1 q_n (q_.map encB), bk b_2 35 zC, mb b_1 x_33 m_34]) rfl ?_
          refine jt (8 - (i_ + 1)) (by omega) ⟨(i_ + 1), q_a, q_c, q_n, q_, (by first | rfl | omega | (simp only [List.length_append, List.length_cons, List.length_nil, List.length_set]; omega) | simp), (by omega), (by rw [hq, piece_no (by omega)]), (by first | omega | (simp only [List.length_append, List.length_cons, List.length_nil]; omega)), he_38, he_39, he_40, he_41, he_42, he_43, he_44, he_45, he_46, rfl, rfl, rfl⟩
        refine jY (b := false) rfl rfl rfl (cB (dF h_50)) <| jY (b := false) rfl rfl rfl (cB (dF h_50)) <| jY (b := false) rfl rfl rfl (cB (dF h_50)) <| jA (jw (v := .bool false) (cB (dF h_50)) rfl) <| jE <| jB <| jQ (cB rfl) <| jU <| jk <| jB ?_
        refine jF <| jA (jC (v := nv i_) he_47) <| jA (jg (c := ((i_ + 1 : Nat) : Int)) rfl rfl (wr (by omega))) <| jA (jG (v := iv ((i_ + 1 : Nat) : Int)) rfl) <| jE <| jr [0, 0, 0, 0, 0, 0] (A := [rC x_33.a0 x_33.c0 m_34.s, rS x_33.a1 x_33.c1 m_34.r, rS x_33.a2 x_33.c2 m_34.w, Res.row (.slice q_a q_n q_c) 5 1 q_n (q_.map encB), bk b_2 35 zC, mb b_1 x_33 m_34]) rfl ?_
        refine jt (8 - (i_ + 1)) (by omega) ⟨(i_ + 1), q_a, q_c, q_n, q_, (by first | rfl | omega | (simp only [List.length_append, List.length_cons, List.length_nil, List.length_set]; omega) | simp), (by omega), (by rw [hq, piece_no (by omega)]), (by first | omega | (simp only [List.length_append, List.length_cons, List.length_nil]; omega)), he_38, he_39, he_40, he_41, he_42, he_43, he_44, he_45, he_46, rfl, rfl, rfl⟩
      have ho2 : q_ = o_ ++ piece u_35 (a - p_ * 8) (min (min (E - p_ * 8) 8) u_35.length) := by rw [hq, show min (E - p_ * 8) i_ = min (min (E - p_ * 8) 8) u_35.length by omega]
      refine jQ (cB (dF h_49)) <| kB <| jn <| jn <| kC <| jk <| jB <| jF <| jA (jC (v := nv p_) he_45) <| jA (jg (c := ((p_ + 1 : Nat) : Int)) rfl rfl (wr (by omega))) ?_
      refine jA (jG (v := iv ((p_ + 1 : Nat) : Int)) rfl) <| jE <| jr [3, 0, 0, 0, 0, 0] (A := [Res.row (.slice q_a q_n q_c) 5 1 q_n (q_.map encB), rC x_33.a0 x_33.c0 m_34.s, rS x_33.a1 x_33.c1 m_34.r, rS x_33.a2 x_33.c2 m_34.w, bk b_2 35 zC, mb b_1 x_33 m_34]) rfl ?_
      refine jt (126 - (p_ + 1)) (by omega) ⟨(p_ + 1), x_33, m_34, q_a, q_c, q_n, q_, (k_32.mono (by omega) (by omega)), (by first | rfl | omega | (simp only [List.length_append, List.length_cons, List.length_nil, List.length_set]; omega) | simp), (by omega), (by omega), (by rw [show 130 - p_ = (130 - (p_ + 1)) + 1 by omega, MS.readL, if_pos (by omega)] at hR; simp only [e_3, e_31] at hR; rw [← ho2] at hR; exact hR), he_38, he_39, he_40, he_41, he_42, he_43, he_44, rfl, rfl, rfl⟩
    have ho2 : q_ = o_ ++ piece u_35 (a - p_ * 8) (min (min (E - p_ * 8) 8) u_35.length) := by rw [hq, show min (E - p_ * 8) i_ = min (min (E - p_ * 8) 8) u_35.length by omega]
    refine jY (b := false) rfl rfl rfl (cB (dF h_48)) <| jY (b := false) rfl rfl rfl (cB (dF h_48)) <| jA (jw (v := .bool false) (cB (dF h_48)) rfl) <| jE <| jB <| jQ (cB rfl) <| kB <| jn <| jn <| kC ?_
    refine jk <| jB <| jF <| jA (jC (v := nv p_) he_45) <| jA (jg (c := ((p_ + 1 : Nat) : Int)) rfl rfl (wr (by omega))) <| jA (jG (v := iv ((p_ + 1 : Nat) : Int)) rfl) <| jE <| jr [3, 0, 0, 0, 0, 0] (A := [Res.row (.slice q_a q_n q_c) 5 1 q_n (q_.map encB), rC x_33.a0 x_33.c0 m_34.s, rS x_33.a1 x_33.c1 m_34.r, rS x_33.a2 x_33.c2 m_34.w, bk b_2 35 zC, mb b_1 x_33 m_34]) rfl ?_
    refine jt (126 - (p_ + 1)) (by omega) ⟨(p_ + 1), x_33, m_34, q_a, q_c, q_n, q_, (k_32.mono (by omega) (by omega)), (by first | rfl | omega | (simp only [List.length_append, List.length_cons, List.length_nil, List.length_set]; omega) | simp), (by omega), (by omega), (by rw [show 130 - p_ = (130 - (p_ + 1)) + 1 by omega, MS.readL, if_pos (by omega)] at hR; simp only [e_3, e_31] at hR; rw [← ho2] at hR; exact hR), he_38, he_39, he_40, he_41, he_42, he_43, he_44, rfl, rfl, rfl⟩
  rw [MS.readL_stop (by omega)] at hR
  have hRE := hR.symm
  refine jQ (cB (dF h_30)) <| kB <| jn <| jn <| kC <| jB <| jD <| jq [mb b_1 x1 mm] 4 mixed (by simp) <| jl 0 rfl (jP 0 x1 mm rfl he_24) <| jK 1 rfl (jC (v := .slice o_a o_n o_c) he_28) ?_
  refine kM (i := 2) (j := 3) (by kernel_rfl) ?_ ?_
  · refine jO rfl rfl (ja (LO.toStr 0 o_ rfl ki kk kY rfl rfl)) ?_
    rintro _ _ ⟨rfl, rfl⟩
    refine ⟨(by simp), ?_⟩
    refine jL (i := 3) ?_
    refine jO rfl rfl (jW 4 x1 mm rfl he_25 rfl rfl) ?_
    rintro _ _ rfl
    refine ⟨(by simp), ?_⟩
    refine jK 4 rfl (jG (v := str o_) rfl) <| kG (by kernel_rfl) <| jB <| jM <| kL (pick_perm [1, 1, 1] (A := [rC x1.a0 x1.c0 mm.s, rS x1.a1 x1.c1 mm.r, rS x1.a2 x1.c2 mm.w]) (F := [Res.row (.slice o_a o_n o_c) 5 1 o_n (o_.map encB), mb b_2 x1 mm, mb b_1 x1 mm]) rfl).symm <| jj (.inl rfl) rfl (je (jP 4 x1 mm rfl he_25) ⟨_, he_25⟩) (jN (v := str o_) rfl) (tS 3 _) ?_
    exact ⟨x1, mm, o_, (by simp only [MS.readFile, Int.toNat_natCast, true_or, or_true, false_or, or_false, e_3, h_9, hat, h_10, h_11, hE, h_30, hRE, SB]; (repeat (first | rw [if_pos (by omega)] | rw [if_neg (by omega)])); all_goals (first | rfl | simp only [SB, e_3, h_9, hat, h_10, h_11, hE, h_30, hRE])), (hkmm.mono (by omega) (by omega)), (by first | omega | (simp only [LE]; omega)), rfl, rfl⟩
  refine jO rfl rfl (jW 4 x1 mm rfl he_25 rfl rfl) ?_
  rintro _ _ rfl
  refine ⟨(by simp), ?_⟩
  refine jL (i := 2) ?_
  refine jO rfl rfl (ja (LO.toStr 0 o_ rfl ki kk kY rfl rfl)) ?_
  rintro _ _ ⟨rfl, rfl⟩
  refine ⟨(by simp), ?_⟩
  refine jK 4 rfl (jG (v := str o_) rfl) <| kG (by kernel_rfl) <| jB <| jM <| kL (pick_perm [1, 1, 1] (A := [rC x1.a0 x1.c0 mm.s, rS x1.a1 x1.c1 mm.r, rS x1.a2 x1.c2 mm.w]) (F := [Res.row (.slice o_a o_n o_c) 5 1 o_n (o_.map encB), mb b_2 x1 mm, mb b_1 x1 mm]) rfl).symm <| jj (.inl rfl) rfl (je (jP 4 x1 mm rfl he_25) ⟨_, he_25⟩) (jN (v := str o_) rfl) (tS 3 _) ?_
  exact ⟨x1, mm, o_, (by simp only [MS.readFile, Int.toNat_natCast, true_or, or_true, false_or, or_false, e_3, h_9, hat, h_10, h_11, hE, h_30, hRE, SB]; (repeat (first | rw [if_pos (by omega)] | rw [if_neg (by omega)])); all_goals (first | rfl | simp only [SB, e_3, h_9, hat, h_10, h_11, hE, h_30, hRE])), (hkmm.mono (by omega) (by omega)), (by first | omega | (simp only [LE]; omega)), rfl, rfl⟩

theorem N_writeFile (p : Nat) (x : MA) (m : MS) {S T : Nat} (hk : m.ok S T) (hS : S ≤ 50000000) (hT : T ≤ 50000000) (id : Int) (at_ : Int) (text : Str) (hid : -9223372036854775808 ≤ id ∧ id ≤ 9223372036854775807) (hat_ : -9223372036854775808 ≤ at_ ∧ at_ ≤ 9223372036854775807) (htext : text.length ≤ 1000000000000) :
    Ct Tryz.prog 132 [.pointer (some ⟨p, 0, none⟩), .int .i64 id, .int .i64 at_, str text] (mb p x m :: mr x m) (fun w => HexOk w) (fun v A' => ∃ x' m' r0, MS.writeFile m id at_ text = (m', r0) ∧ m'.ok (S + 12) (T + 30) ∧ (0 ≤ r0 ∧ r0 ≤ 9) ∧ v = .int .i64 r0 ∧ A' = mb p x' m' :: mr x' m') := by
  refine Ct.introL Tryz.func132 rfl Tryz.ntmps132 (lb rfl) fun w0 hpre hlow => ?_
  refine jD <| jF <| jA (jG (v := iv 0) rfl) <| jE <| jB <| jD <| jF <| jA (jC (v := pv p) rfl) <| jA (jC (v := iv id) rfl) ?_
  refine jH rfl (jI [] Tryz.call159 rfl (N_sizeKey id (by omega)) rfl (fun _ _ => trivial)) ?_
  rintro _ _ ⟨_, ⟨u_3, e_1, f_4, rfl, rfl⟩, rfl⟩
  refine jH rfl (jI [0, 0, 0, 0] Tryz.call118 rfl (N_num p x m hk (by omega) (by omega) u_3) rfl (fun _ _ => trivial)) ?_
  rintro _ _ ⟨_, ⟨x_7, m_8, n_9, e_5, k_6, f_10, rfl, rfl⟩, rfl⟩
  refine jA (jG (v := iv n_9) rfl) <| jE <| jB <| jD <| jD <| jF <| jA (jC (v := iv at_) rfl) <| jA (jC (v := iv n_9) rfl) ?_
  refine jH rfl (jI [] Tryz.call120 rfl (C_within at_ 0 n_9) rfl (fun _ _ => trivial)) ?_
  rintro _ _ ⟨_, ⟨rfl, rfl⟩, rfl⟩
  refine jA (kA rfl) <| jA (jC (v := .bool (!(decide (0 ≤ at_) && decide (at_ ≤ n_9)))) rfl) ?_
  rcases Bool.eq_false_or_eq_true (decide (0 ≤ at_) && decide (at_ ≤ n_9)) with h_11 | h_11
  · have h_11d := h_11
    simp only [Bool.and_eq_true, Bool.and_eq_false_iff, decide_eq_true_eq, decide_eq_false_iff_not] at h_11d
    obtain ⟨a, hat⟩ : ∃ a : Nat, at_ = ((a : Nat) : Int) := ⟨at_.toNat, by omega⟩
    refine jb rfl rfl rfl (cB (cN h_11)) (ja (jd (jC (v := str text) rfl))) ?_
    rintro _ _ ⟨rfl, rfl⟩
    refine jb rfl rfl rfl (cB (cN h_11)) (ja (jd (PO.eqlS rfl rfl))) ?_
    rintro _ _ ⟨rfl, rfl⟩
    refine jA (jw (v := .bool (decide (text = []))) (cB (cN h_11)) rfl) <| jE <| jB ?_
    by_cases h_12 : text = []
    · have h_12l : text.length = 0 := by rw [h_12]; rfl
      refine jR (cB (dT h_12)) <| jD <| jF <| jA (jG (v := iv 4) rfl) <| jE <| jB <| jM <| jX <| jV (.inl rfl) rfl (jN (v := iv 4) rfl) (List.Sublist.refl _) ?_
      exact ⟨x_7, m_8, 4, (by simp only [MS.writeFile, List.length_nil, Int.toNat_natCast, true_or, or_true, false_or, or_false, MS.sizeOf, e_1, e_5, h_11, hat, h_12, SB]; (repeat (first | rw [if_pos (by omega)] | rw [if_neg (by omega)])); all_goals (first | rfl | simp only [SB, e_1, e_5, h_11, hat, h_12])), (k_6.mono (by omega) (by omega)), (by first | omega | (simp only [LE]; omega)), rfl, rfl⟩
    have h_12l := List.length_pos_iff.2 h_12
    refine jQ (cB (dF h_12)) <| jU <| jB <| jD <| jF <| jA (jC (v := nv a) (congrArg (Value.int .i64) hat)) <| jA (jC (v := str text) rfl) <| jA (kJ kY rfl) <| jA (jg (c := ((a + text.length : Nat) : Int)) rfl rfl (wr (by omega))) <| jA (jG (v := iv ((a + text.length : Nat) : Int)) rfl) ?_
    refine jE <| jB <| jD <| jD <| jF <| jA (jC (v := iv ((a + text.length : Nat) : Int)) rfl) <| jA (kS rfl rfl) <| jE <| jB ?_
    by_cases h_13 : 64 < ((a + text.length : Nat) : Int)
    · refine jR (cB (dT h_13)) <| jD <| jF <| jA (jG (v := iv 3) rfl) <| jE <| jB <| jM <| jX <| jV (.inl rfl) rfl (jN (v := iv 3) rfl) (List.Sublist.refl _) ?_
      exact ⟨x_7, m_8, 3, (by simp only [MS.writeFile, List.length_nil, Int.toNat_natCast, true_or, or_true, false_or, or_false, MS.sizeOf, e_1, e_5, h_11, hat, h_12, h_13, SB]; (repeat (first | rw [if_pos (by omega)] | rw [if_neg (by omega)])); all_goals (first | rfl | simp only [SB, e_1, e_5, h_11, hat, h_12, h_13])), (k_6.mono (by omega) (by omega)), (by first | omega | (simp only [LE]; omega)), rfl, rfl⟩
    refine jQ (cB (dF h_13)) <| jU <| jB <| jD <| jD <| jF <| jA (jC (v := nv a) (congrArg (Value.int .i64) hat)) <| jA (PO.quoN (c := ((a / 8 : Nat) : Int)) rfl rfl (by omega) (by omega) (by omega) (wr (by omega))) <| jA (jG (v := iv ((a / 8 : Nat) : Int)) rfl) <| jE ?_
    refine jB <| jm <| kE (fun k_ e_ L_ => ∃ p_ : Nat, ∃ x1 : MA, ∃ mm : MS, (mm.ok (S + p_) (T + 2 + 2 * p_)) ∧ (a / 8 ≤ p_ ∧ p_ ≤ 9) ∧ (MS.writeL id text a (a + text.length) (130 - p_) p_ mm = MS.writeL id text a (a + text.length) (130 - a / 8) (a / 8) m_8) ∧ e_ 0 = pv p ∧ e_ 1 = iv id ∧ e_ 2 = nv a ∧ e_ 3 = str text ∧ e_ 8 = iv 0 ∧ e_ 9 = iv n_9 ∧ e_ 10 = iv ((a + text.length : Nat) : Int) ∧ e_ 11 = nv p_ ∧ L_ = [mb p x1 mm, rC x1.a0 x1.c0 mm.s, rS x1.a1 x1.c1 mm.r, rS x1.a2 x1.c2 mm.w] ∧ k_ = 70 - p_) _ ⟨(a / 8), x_7, m_8, (k_6.mono (by omega) (by omega)), (by omega), rfl, rfl, rfl, (congrArg (Value.int .i64) hat), rfl, rfl, rfl, rfl, rfl, rfl, rfl⟩ ?_
    rintro _ e_14 _ ⟨p_, x1, mm, hkmm, hp0, hR, he_15, he_16, he_17, he_18, he_19, he_20, he_21, he_22, rfl, rfl⟩
    refine jD <| jD <| jF <| jA (jC (v := nv p_) he_22) <| jA (PO.mul (c := ((p_ * 8 : Nat) : Int)) rfl rfl (wr (by omega))) <| jA (jC (v := iv ((a + text.length : Nat) : Int)) he_21) <| jA (js rfl rfl) <| jE <| jB ?_
    by_cases h_23 : ((p_ * 8 : Nat) : Int) < ((a + text.length : Nat) : Int)
    · refine jR (cB (dT h_23)) <| jU <| jB <| jD <| jm <| jD <| jF <| jA (jC (v := pv p) he_15) <| jA (jC (v := iv id) he_16) <| jA (jC (v := nv p_) he_22) ?_
      refine jH rfl (jI [0, 0, 0, 0] Tryz.call160 rfl (N_block p x1 mm hkmm (by omega) (by omega) id ((p_ : Nat) : Int) (by omega) (by omega)) rfl (fun w hw => hw.hex hlow hpre)) ?_
      rintro _ _ ⟨_, ⟨x_26, m_27, u_28, e_24, k_25, f_29, rfl, rfl⟩, rfl⟩
      refine jH rfl (JO.toBytes kY ki kk rfl (by unfold maxLen; omega)) ?_
      rintro _ _ ⟨a_30, c_31, rfl, rfl⟩
      refine jA (jG (v := .slice a_30 u_28.length c_31) rfl) <| jE <| jB <| jD <| jF <| jA (jC (v := nv p_) he_22) <| jA (PO.mul (c := ((p_ * 8 : Nat) : Int)) rfl rfl (wr (by omega))) <| jA (jG (v := iv ((p_ * 8 : Nat) : Int)) rfl) <| jE <| jB ?_
      refine jD <| jD <| jF <| jA (jC (v := nv a) he_17) <| jA (jC (v := iv ((p_ * 8 : Nat) : Int)) rfl) <| jA (PO.max2 (c := ((max a (p_ * 8) : Nat) : Int)) rfl rfl (by omega)) <| jA (jG (v := iv ((max a (p_ * 8) : Nat) : Int)) rfl) <| jE <| jB <| jm ?_
      refine kE (fun k_ e_ L_ => ∃ j_ : Nat, ∃ bba : Option Addr, ∃ bbc : Nat, ∃ bbn : Nat, ∃ bb : Str, (bb.length = bbn) ∧ (max a (p_ * 8) ≤ j_ ∧ j_ ≤ min (a + text.length) (p_ * 8 + 8)) ∧ (bb = overTo text a (p_ * 8) u_28 (j_ - max a (p_ * 8))) ∧ (bb.length ≤ 20008) ∧ e_ 0 = pv p ∧ e_ 1 = iv id ∧ e_ 2 = nv a ∧ e_ 3 = str text ∧ e_ 8 = iv 0 ∧ e_ 9 = iv n_9 ∧ e_ 10 = iv ((a + text.length : Nat) : Int) ∧ e_ 11 = nv p_ ∧ e_ 12 = .slice bba bbn bbc ∧ e_ 13 = iv ((p_ * 8 : Nat) : Int) ∧ e_ 14 = nv j_ ∧ L_ = [Res.row (.slice bba bbn bbc) 5 1 bbn (bb.map encB), mb p x_26 m_27, rC x_26.a0 x_26.c0 m_27.s, rS x_26.a1 x_26.c1 m_27.r, rS x_26.a2 x_26.c2 m_27.w] ∧ k_ = 100 - j_) _ ⟨(max a (p_ * 8)), a_30, c_31, u_28.length, u_28, (by first | rfl | omega | (simp only [List.length_append, List.length_cons, List.length_nil, List.length_set]; omega) | simp), (by omega), (by rw [Nat.sub_self]; rfl), (by omega), he_15, he_16, he_17, he_18, he_19, he_20, he_21, he_22, rfl, rfl, rfl, rfl, rfl⟩ ?_
      rintro _ e_32 _ ⟨j_, bba, bbc, bbn, bb, hbbn, hj, hb, hbl, he_33, he_34, he_35, he_36, he_37, he_38, he_39, he_40, he_41, he_42, he_43, rfl, rfl⟩
      refine jD <| jD <| jF <| jA (jC (v := nv j_) he_43) <| jA (jC (v := iv ((a + text.length : Nat) : Int)) he_39) <| jA (jC (v := iv ((p_ * 8 : Nat) : Int)) he_42) <| jA (jg (c := (((p_ * 8) + 8 : Nat) : Int)) rfl rfl (wr (by omega))) <| jA (PO.min2 (c := ((min (a + text.length) (p_ * 8 + 8) : Nat) : Int)) rfl rfl (by omega)) <| jA (js rfl rfl) <| jE ?_
      refine jB ?_
      by_cases h_44 : ((j_ : Nat) : Int) < ((min (a + text.length) (p_ * 8 + 8) : Nat) : Int)
      · refine jR (cB (dT h_44)) <| jU <| jB <| jD <| jm <| jD <| jm <| kE (fun k_ e_ L_ => ∃ g_ : Nat, ∃ cca : Option Addr, ∃ ccc : Nat, ∃ ccn : Nat, ∃ cc : Str, (cc.length = ccn) ∧ (cc ++ List.replicate (j_ - p_ * 8 + 1 - cc.length) 0 = bb ++ List.replicate (j_ - p_ * 8 + 1 - bb.length) 0) ∧ (cc.length = bb.length + g_) ∧ e_ 0 = pv p ∧ e_ 1 = iv id ∧ e_ 2 = nv a ∧ e_ 3 = str text ∧ e_ 8 = iv 0 ∧ e_ 9 = iv n_9 ∧ e_ 10 = iv ((a + text.length : Nat) : Int) ∧ e_ 11 = nv p_ ∧ e_ 12 = .slice cca ccn ccc ∧ e_ 13 = iv ((p_ * 8 : Nat) : Int) ∧ e_ 14 = nv j_ ∧ L_ = [Res.row (.slice cca ccn ccc) 5 1 ccn (cc.map encB), mb p x_26 m_27, rC x_26.a0 x_26.c0 m_27.s, rS x_26.a1 x_26.c1 m_27.r, rS x_26.a2 x_26.c2 m_27.w] ∧ k_ = 21000 - g_) _ ⟨0, bba, bbc, bbn, bb, (by first | rfl | omega | (simp only [List.length_append, List.length_cons, List.length_nil, List.length_set]; omega) | simp), rfl, (by omega), he_33, he_34, he_35, he_36, he_37, he_38, he_39, he_40, he_41, he_42, he_43, rfl, rfl⟩ ?_
        rintro _ e_45 _ ⟨g_, cca, ccc, ccn, cc, hccn, hc, hcl, he_46, he_47, he_48, he_49, he_50, he_51, he_52, he_53, he_54, he_55, he_56, rfl, rfl⟩
        refine jD <| jD <| jF <| jA (jC (v := .slice cca ccn ccc) he_54) <| jA (kK ki rfl) <| jA (jC (v := nv j_) he_56) <| jA (jC (v := iv ((p_ * 8 : Nat) : Int)) he_55) <| jA (kR (c := ((j_ - (p_ * 8) : Nat) : Int)) rfl rfl (wr (by omega))) <| jA (PO.leq rfl rfl) <| jE ?_
        refine jB ?_
        by_cases h_57 : ((ccn : Nat) : Int) ≤ ((j_ - (p_ * 8) : Nat) : Int)
        · refine jR (cB (dT h_57)) <| jU <| jB <| jm <| jF <| jA (jC (v := .slice cca ccn ccc) he_54) ?_
          refine jH rfl (kI (ps := [(0, .int .u8 0)]) (cur := #[.int .u8 0]) ki kq kw rfl (by kernel_rfl) (by decide) (by decide)) ?_
          rintro _ _ ⟨a_58, rfl, rfl⟩
          refine jH rfl (kF 1 (q := 1) (news := ([0] : List UInt8).map encB) (n' := (cc ++ ([0] : List UInt8)).length) (cs' := (cc ++ ([0] : List UInt8)).map encB) rfl ki ki Tryz.typeInfo5 rfl (by' := 1) rfl rfl rfl rfl rfl (fun w hw => Src.sees (hw.see (i := 0) rfl) (oneB _)) (by (try simp only [LE]); omega) (by (try simp only [LE]); omega) (by simp only [List.length_append, List.length_take, List.length_drop, List.length_cons, List.length_nil] <;> first | rfl | omega) (by simp only [List.map_append])) ?_
          rintro _ _ ⟨a_59, c_60, rfl, rfl⟩
          refine jA (jG (v := .slice a_59 ((cc ++ ([0] : List UInt8)).length) c_60) rfl) <| jE <| jk <| jr [1, 1, 1, 1, 1] (A := [Res.row (.slice a_59 ((cc ++ ([0] : List UInt8)).length) c_60) 5 1 ((cc ++ ([0] : List UInt8)).length) ((cc ++ ([0] : List UInt8)).map encB), mb p x_26 m_27, rC x_26.a0 x_26.c0 m_27.s, rS x_26.a1 x_26.c1 m_27.r, rS x_26.a2 x_26.c2 m_27.w]) rfl ?_
          refine jt (21000 - (g_ + 1)) (by omega) ⟨(g_ + 1), a_59, c_60, ((cc ++ ([0] : List UInt8)).length), (cc ++ ([0] : List UInt8)), (by first | rfl | omega | (simp only [List.length_append, List.length_cons, List.length_nil, List.length_set]; omega) | simp), (by rw [List.length_append, ← hc]; exact pad_step (by omega)), (by simp only [List.length_append, List.length_cons, List.length_nil]; omega), he_46, he_47, he_48, he_49, he_50, he_51, he_52, he_53, rfl, he_55, he_56, rfl, rfl⟩
        have hcd : cc = bb ++ List.replicate (j_ - p_ * 8 + 1 - bb.length) 0 := by rw [← hc, show j_ - p_ * 8 + 1 - cc.length = 0 by omega]; simp
        refine jQ (cB (dF h_57)) <| kB <| jn <| jn <| kC <| jB <| jF <| jA (jC (v := .slice cca ccn ccc) he_54) <| jA (jC (v := nv j_) he_56) <| jA (jC (v := iv ((p_ * 8 : Nat) : Int)) he_55) ?_
        refine jA (kR (c := ((j_ - (p_ * 8) : Nat) : Int)) rfl rfl (wr (by omega))) <| jA (jC (v := str text) he_49) <| jA (jC (v := nv j_) he_56) <| jA (jC (v := nv a) he_48) <| jA (kR (c := ((j_ - a : Nat) : Int)) rfl rfl (wr (by omega))) <| jA (PO.indexS (i := j_ - a) (c := text.getD (j_ - a) 0) kY rfl rfl (getD_some (by omega))) ?_
        have hu_61 := UInt8.toNat_lt (text.getD (j_ - a) 0)
        refine JL.facts fun hst => ?_
        obtain ⟨hr_62, hr_62b, -⟩ := row_some 0 rfl (by omega) hst
        refine jA (kH (i := (j_ - (p_ * 8))) ki kq hr_62 hr_62b rfl rfl (by omega)) ?_
        refine jH rfl (JO.storeR 0 (vs := [.int .u8 ((text.getD (j_ - a) 0).toNat : Int)]) (cs' := (cc.set (j_ - (p_ * 8)) (text.getD (j_ - a) 0)).map encB) rfl rfl rfl rfl kq rfl rfl (by decide) (by rw [List.length_map]; omega) (setB (by omega))) ?_
        rintro _ _ rfl
        refine jE <| jk <| jB <| jF <| jA (jC (v := nv j_) he_56) <| jA (jg (c := ((j_ + 1 : Nat) : Int)) rfl rfl (wr (by omega))) <| jA (jG (v := iv ((j_ + 1 : Nat) : Int)) rfl) <| jE <| jr [0, 0, 0, 0, 0] (A := [Res.row (.slice cca ccn ccc) 5 1 ccn ((cc.set (j_ - (p_ * 8)) (text.getD (j_ - a) 0)).map encB), mb p x_26 m_27, rC x_26.a0 x_26.c0 m_27.s, rS x_26.a1 x_26.c1 m_27.r, rS x_26.a2 x_26.c2 m_27.w]) rfl ?_
        refine jt (100 - (j_ + 1)) (by omega) ⟨(j_ + 1), cca, ccc, ccn, (cc.set (j_ - (p_ * 8)) (text.getD (j_ - a) 0)), (by first | rfl | omega | (simp only [List.length_append, List.length_cons, List.length_nil, List.length_set]; omega) | simp), (by omega), (overTo_step (by omega) hb hcd), (by have hl_ := congrArg List.length hcd; simp only [List.length_append, List.length_replicate] at hl_; simp only [List.length_set]; omega), he_46, he_47, he_48, he_49, he_50, he_51, he_52, he_53, he_54, he_55, rfl, rfl, rfl⟩
      have hb2 : overTo text a (p_ * 8) u_28 (min (a + text.length) (p_ * 8 + 8) - max a (p_ * 8)) = bb := by rw [hb, show j_ - max a (p_ * 8) = min (a + text.length) (p_ * 8 + 8) - max a (p_ * 8) by omega]
      refine jQ (cB (dF h_44)) <| kB <| jn <| jn <| kC <| jB <| jq [] 1000 mixed (by simp) <| jK 0 rfl (jC (v := pv p) he_33) <| jK 1 rfl (jC (v := iv id) he_34) <| jK 2 rfl (jC (v := nv p_) he_40) ?_
      refine jK 4 rfl (jC (v := .slice bba bbn bbc) he_41) ?_
      refine kM (i := 3) (j := 5) (by kernel_rfl) ?_ ?_
      · refine jO rfl rfl (jI [] Tryz.call161 rfl (N_blockKey id ((p_ : Nat) : Int) (by omega) (by omega)) rfl (fun _ _ => trivial)) ?_
        rintro _ _ ⟨_, ⟨u_73, e_71, f_74, rfl, rfl⟩, rfl⟩
        refine ⟨(fun _ h => by cases h), ?_⟩
        refine jL (i := 5) ?_
        refine jO rfl rfl (ja (LO.toStr 0 bb rfl ki kk kY rfl rfl)) ?_
        rintro _ _ ⟨rfl, rfl⟩
        refine ⟨(fun _ h => by cases h), ?_⟩
        refine jL (i := 6) ?_
        refine jO rfl rfl (jI [] Tryz.call136 rfl (N_hexOf bb (by omega)) rfl (fun _ _ => trivial)) ?_
        rintro _ _ ⟨_, ⟨u_81, e_79, f_82, rfl, rfl⟩, rfl⟩
        refine ⟨(fun _ h => by cases h), ?_⟩
        refine jL (i := 7) ?_
        refine jO rfl rfl (jI [1, 1, 1, 1] Tryz.call127 rfl (N_lay p x_26 m_27 k_25 (by omega) (by omega) u_73 u_81 (by omega)) rfl (fun _ _ => trivial)) ?_
        rintro _ _ ⟨_, ⟨x_89, m_90, e_87, k_88, rfl, rfl⟩, rfl⟩
        refine ⟨(fun _ h => by cases h), ?_⟩
        refine kG (by kernel_rfl) <| jk <| jB <| jF <| jA (jC (v := nv p_) he_40) <| jA (jg (c := ((p_ + 1 : Nat) : Int)) rfl rfl (wr (by omega))) <| jA (jG (v := iv ((p_ + 1 : Nat) : Int)) rfl) <| jE <| jr [0, 0, 0, 0] (A := [mb p x_89 m_90, rC x_89.a0 x_89.c0 m_90.s, rS x_89.a1 x_89.c1 m_90.r, rS x_89.a2 x_89.c2 m_90.w]) rfl ?_
        refine jt (70 - (p_ + 1)) (by omega) ⟨(p_ + 1), x_89, m_90, (k_88.mono (by omega) (by omega)), (by omega), (by rw [show 130 - p_ = (130 - (p_ + 1)) + 1 by omega, MS.writeL, if_pos (by omega)] at hR; simp only [MS.blockKey, e_1, e_5, e_24, e_71, e_79, e_87, hb2] at hR; exact hR), he_33, he_34, he_35, he_36, he_37, he_38, he_39, rfl, rfl, rfl⟩
      refine jO rfl rfl (ja (LO.toStr 0 bb rfl ki kk kY rfl rfl)) ?_
      rintro _ _ ⟨rfl, rfl⟩
      refine ⟨(fun _ h => by cases h), ?_⟩
      refine jL (i := 3) ?_
      refine jO rfl rfl (jI [] Tryz.call161 rfl (N_blockKey id ((p_ : Nat) : Int) (by omega) (by omega)) rfl (fun _ _ => trivial)) ?_
      rintro _ _ ⟨_, ⟨u_97, e_95, f_98, rfl, rfl⟩, rfl⟩
      refine ⟨(fun _ h => by cases h), ?_⟩
      refine jL (i := 6) ?_
      refine jO rfl rfl (jI [] Tryz.call136 rfl (N_hexOf bb (by omega)) rfl (fun _ _ => trivial)) ?_
      rintro _ _ ⟨_, ⟨u_105, e_103, f_106, rfl, rfl⟩, rfl⟩
      refine ⟨(fun _ h => by cases h), ?_⟩
      refine jL (i := 7) ?_
      refine jO rfl rfl (jI [1, 1, 1, 1] Tryz.call127 rfl (N_lay p x_26 m_27 k_25 (by omega) (by omega) u_97 u_105 (by omega)) rfl (fun _ _ => trivial)) ?_
      rintro _ _ ⟨_, ⟨x_113, m_114, e_111, k_112, rfl, rfl⟩, rfl⟩
      refine ⟨(fun _ h => by cases h), ?_⟩
      refine kG (by kernel_rfl) <| jk <| jB <| jF <| jA (jC (v := nv p_) he_40) <| jA (jg (c := ((p_ + 1 : Nat) : Int)) rfl rfl (wr (by omega))) <| jA (jG (v := iv ((p_ + 1 : Nat) : Int)) rfl) <| jE <| jr [0, 0, 0, 0] (A := [mb p x_113 m_114, rC x_113.a0 x_113.c0 m_114.s, rS x_113.a1 x_113.c1 m_114.r, rS x_113.a2 x_113.c2 m_114.w]) rfl ?_
      refine jt (70 - (p_ + 1)) (by omega) ⟨(p_ + 1), x_113, m_114, (k_112.mono (by omega) (by omega)), (by omega), (by rw [show 130 - p_ = (130 - (p_ + 1)) + 1 by omega, MS.writeL, if_pos (by omega)] at hR; simp only [MS.blockKey, e_1, e_5, e_24, e_95, e_103, e_111, hb2] at hR; exact hR), he_33, he_34, he_35, he_36, he_37, he_38, he_39, rfl, rfl, rfl⟩
    rw [MS.writeL_stop (by omega)] at hR
    have hRE := hR.symm
    refine jQ (cB (dF h_23)) <| kB <| jn <| jn <| kC <| jB <| jD <| jD <| jF <| jA (jC (v := iv ((a + text.length : Nat) : Int)) he_21) ?_
    refine jA (jC (v := iv n_9) he_20) <| jA (kS rfl rfl) <| jE <| jB ?_
    by_cases h_115 : n_9 < ((a + text.length : Nat) : Int)
    · refine jR (cB (dT h_115)) <| jF <| jA (jC (v := pv p) he_15) <| jA (jC (v := iv id) he_16) ?_
      refine jH rfl (jI [] Tryz.call159 rfl (N_sizeKey id (by omega)) rfl (fun _ _ => trivial)) ?_
      rintro _ _ ⟨_, ⟨u_118, e_116, f_119, rfl, rfl⟩, rfl⟩
      have hqe_116 := e_1.symm.trans e_116
      subst hqe_116
      refine jA (jC (v := iv ((a + text.length : Nat) : Int)) he_21) ?_
      refine jH rfl (jI [0, 0, 0, 0] Tryz.call124 rfl (N_setNum p x1 mm hkmm (by omega) (by omega) u_3 ((a + text.length : Nat) : Int) (by omega) (by omega)) rfl (fun _ _ => trivial)) ?_
      rintro _ _ ⟨_, ⟨x_122, m_123, e_120, k_121, rfl, rfl⟩, rfl⟩
      refine jE <| jB <| jD <| jF <| jA (jG (v := iv 0) rfl) <| jE <| jB <| jM <| jV (.inl rfl) rfl (jN (v := iv 0) rfl) (List.Sublist.refl _) ?_
      exact ⟨x_122, m_123, 0, (by simp only [MS.writeFile, List.length_nil, Int.toNat_natCast, true_or, or_true, false_or, or_false, MS.sizeOf, e_1, e_5, h_11, hat, h_12, h_13, h_23, hRE, h_115, e_120, SB]; (repeat (first | rw [if_pos (by omega)] | rw [if_neg (by omega)])); all_goals (first | rfl | simp only [SB, e_1, e_5, h_11, hat, h_12, h_13, h_23, hRE, h_115, e_120])), (k_121.mono (by omega) (by omega)), (by first | omega | (simp only [LE]; omega)), rfl, rfl⟩
    refine jQ (cB (dF h_115)) <| jU <| jB <| jD <| jF <| jA (jG (v := iv 0) rfl) <| jE <| jB <| jM <| jV (.inl rfl) rfl (jN (v := iv 0) rfl) (List.Sublist.refl _) ?_
    exact ⟨x1, mm, 0, (by simp only [MS.writeFile, List.length_nil, Int.toNat_natCast, true_or, or_true, false_or, or_false, MS.sizeOf, e_1, e_5, h_11, hat, h_12, h_13, h_23, hRE, h_115, SB]; (repeat (first | rw [if_pos (by omega)] | rw [if_neg (by omega)])); all_goals (first | rfl | simp only [SB, e_1, e_5, h_11, hat, h_12, h_13, h_23, hRE, h_115])), (hkmm.mono (by omega) (by omega)), (by first | omega | (simp only [LE]; omega)), rfl, rfl⟩
  have h_11d := h_11
  simp only [Bool.and_eq_true, Bool.and_eq_false_iff, decide_eq_true_eq, decide_eq_false_iff_not] at h_11d
  refine jY (b := true) rfl rfl rfl (cB (cN h_11)) <| jY (b := true) rfl rfl rfl (cB (cN h_11)) <| jA (jx (v := .bool true) (cB (cN h_11)) rfl) <| jE <| jB <| jR (cB rfl) <| jD <| jF <| jA (jG (v := iv 4) rfl) <| jE ?_
  refine jB <| jM <| jX <| jV (.inl rfl) rfl (jN (v := iv 4) rfl) (List.Sublist.refl _) ?_
  exact ⟨x_7, m_8, 4, (by simp only [MS.writeFile, List.length_nil, Int.toNat_natCast, true_or, or_true, false_or, or_false, MS.sizeOf, e_1, e_5, h_11, SB]; (repeat (first | rw [if_pos (by omega)] | rw [if_neg (by omega)])); all_goals (first | rfl | simp only [SB, e_1, e_5, h_11])), (k_6.mono (by omega) (by omega)), (by first | omega | (simp only [LE]; omega)), rfl, rfl⟩

theorem M_writeFile (x : MA) (m : MS) {S T : Nat} (hk : m.ok S T) (hS : S ≤ 50000000) (hT : T ≤ 50000000) (id : Int) (at_ : Int) (text : Str) (hid : -9223372036854775808 ≤ id ∧ id ≤ 9223372036854775807) (hat_ : -9223372036854775808 ≤ at_ ∧ at_ ≤ 9223372036854775807) (htext : text.length ≤ 1000000000000) :
    Ct Tryz.prog 96 [mv x m, .int .i64 id, .int .i64 at_, str text] (mr x m) (fun _ => True) (fun v A' => ∃ x' m' r0, MS.writeFile m id at_ text = (m', r0) ∧ m'.ok (S + 12) (T + 30) ∧ (0 ≤ r0 ∧ r0 ≤ 9) ∧ v = .tuple #[mv x' m', .int .i64 r0] ∧ A' = mr x' m') := by
  refine Ct.intro Tryz.func96 rfl Tryz.ntmps96 (lb rfl) fun w0 hpre => ?_
  refine jD <| jF ?_
  refine jH rfl (jv (cs := (mc x m)) rfl rfl) ?_
  rintro _ _ ⟨b_1, rfl, rfl⟩
  refine jH rfl (jh (z := zM) (cs := zC) kd rfl) ?_
  rintro _ _ ⟨b_2, rfl, rfl⟩
  refine jA (jG (v := iv 0) rfl) <| jE <| jB <| jD <| jF <| jT (jP 1 x m rfl rfl) <| jA (jC (v := iv id) rfl) ?_
  refine jH rfl (jI [2, 2, 2] Tryz.call145 rfl (M_sizeFile x m hk (by omega) (by omega) id (by omega)) rfl (fun _ _ => trivial)) ?_
  rintro _ _ ⟨_, ⟨x_5, m_6, n_7, e_3, k_4, f_8, rfl, rfl⟩, rfl⟩
  refine jA (jC (v := .tuple #[mv x_5 m_6, iv n_7]) rfl) <| jA (jS (v := mv x_5 m_6) rfl rfl) <| jA (jS (v := iv n_7) rfl rfl) ?_
  refine jH rfl (jW 4 x_5 m_6 rfl rfl rfl rfl) ?_
  rintro _ _ rfl
  refine jA (jG (v := iv n_7) rfl) <| jE <| jB <| jD <| jD <| jF <| jA (jC (v := iv at_) rfl) <| jA (jC (v := iv n_7) rfl) ?_
  refine jH rfl (jI [] Tryz.call86 rfl (C_l01In at_ 0 n_7) rfl (fun _ _ => trivial)) ?_
  rintro _ _ ⟨_, ⟨rfl, rfl⟩, rfl⟩
  refine jA (kA rfl) <| jA (jC (v := .bool (!(decide (0 ≤ at_) && decide (at_ ≤ n_7)))) rfl) ?_
  rcases Bool.eq_false_or_eq_true (decide (0 ≤ at_) && decide (at_ ≤ n_7)) with h_9 | h_9
  · have h_9d := h_9
    simp only [Bool.and_eq_true, Bool.and_eq_false_iff, decide_eq_true_eq, decide_eq_false_iff_not] at h_9d
    obtain ⟨a, hat⟩ : ∃ a : Nat, at_ = ((a : Nat) : Int) := ⟨at_.toNat, by omega⟩
    refine jb rfl rfl rfl (cB (cN h_9)) (ja (jd (jC (v := str text) rfl))) ?_
    rintro _ _ ⟨rfl, rfl⟩
    refine jb rfl rfl rfl (cB (cN h_9)) (ja (jd (PO.eqlS rfl rfl))) ?_
    rintro _ _ ⟨rfl, rfl⟩
    refine jA (jw (v := .bool (decide (text = []))) (cB (cN h_9)) rfl) <| jE <| jB ?_
    by_cases h_10 : text = []
    · have h_10l : text.length = 0 := by rw [h_10]; rfl
      refine jR (cB (dT h_10)) <| jD <| jF <| jT (jP 4 x_5 m_6 rfl rfl) ?_
      refine jH rfl (jW 3 x_5 m_6 rfl rfl rfl rfl) ?_
      rintro _ _ rfl
      refine jA (jG (v := iv 4) rfl) <| jE <| jB <| jM <| jX <| jj (.inl rfl) rfl (je (jP 3 x_5 m_6 rfl rfl) ⟨_, rfl⟩) (jN (v := iv 4) rfl) (tS 3 _) ?_
      exact ⟨x_5, m_6, 4, (by simp only [MS.writeFile, List.length_nil, Int.toNat_natCast, true_or, or_true, false_or, or_false, e_3, h_9, hat, h_10, SB]; (repeat (first | rw [if_pos (by omega)] | rw [if_neg (by omega)])); all_goals (first | rfl | simp only [SB, e_3, h_9, hat, h_10])), (k_4.mono (by omega) (by omega)), (by first | omega | (simp only [LE]; omega)), rfl, rfl⟩
    have h_10l := List.length_pos_iff.2 h_10
    refine jQ (cB (dF h_10)) <| jU <| jB <| jD <| jF <| jA (jC (v := nv a) (congrArg (Value.int .i64) hat)) <| jA (jC (v := str text) rfl) <| jA (kJ kY rfl) <| jA (jg (c := ((a + text.length : Nat) : Int)) rfl rfl (wr (by omega))) <| jA (jG (v := iv ((a + text.length : Nat) : Int)) rfl) ?_
    refine jE <| jB <| jD <| jD <| jF <| jA (jC (v := iv ((a + text.length : Nat) : Int)) rfl) <| jA (kS rfl rfl) <| jE <| jB ?_
    by_cases h_11 : 64 < ((a + text.length : Nat) : Int)
    · refine jR (cB (dT h_11)) <| jD <| jF <| jT (jP 4 x_5 m_6 rfl rfl) ?_
      refine jH rfl (jW 3 x_5 m_6 rfl rfl rfl rfl) ?_
      rintro _ _ rfl
      refine jA (jG (v := iv 3) rfl) <| jE <| jB <| jM <| jX <| jj (.inl rfl) rfl (je (jP 3 x_5 m_6 rfl rfl) ⟨_, rfl⟩) (jN (v := iv 3) rfl) (tS 3 _) ?_
      exact ⟨x_5, m_6, 3, (by simp only [MS.writeFile, List.length_nil, Int.toNat_natCast, true_or, or_true, false_or, or_false, e_3, h_9, hat, h_10, h_11, SB]; (repeat (first | rw [if_pos (by omega)] | rw [if_neg (by omega)])); all_goals (first | rfl | simp only [SB, e_3, h_9, hat, h_10, h_11])), (k_4.mono (by omega) (by omega)), (by first | omega | (simp only [LE]; omega)), rfl, rfl⟩
    refine jQ (cB (dF h_11)) <| jU <| jB <| jD <| jD <| jF <| jA (jC (v := nv a) (congrArg (Value.int .i64) hat)) <| jA (PO.quoN (c := ((a / 8 : Nat) : Int)) rfl rfl (by omega) (by omega) (by omega) (wr (by omega))) <| jA (jG (v := iv ((a / 8 : Nat) : Int)) rfl) <| jE ?_
    refine jB <| jm <| kE (fun k_ e_ L_ => ∃ p_ : Nat, ∃ x1 : MA, ∃ mm : MS, (mm.ok (S + p_) (T + 2 + 2 * p_)) ∧ (a / 8 ≤ p_ ∧ p_ ≤ 9) ∧ (MS.writeL id text a (a + text.length) (130 - p_) p_ mm = MS.writeL id text a (a + text.length) (130 - a / 8) (a / 8) m_6) ∧ e_ 1 = iv id ∧ e_ 2 = nv a ∧ e_ 3 = str text ∧ e_ 4 = .pointer (some ⟨b_1, 0, none⟩) ∧ e_ 8 = .pointer (some ⟨b_2, 0, none⟩) ∧ e_ 9 = iv 0 ∧ e_ 10 = iv n_7 ∧ e_ 11 = iv ((a + text.length : Nat) : Int) ∧ e_ 12 = nv p_ ∧ L_ = [rC x1.a0 x1.c0 mm.s, rS x1.a1 x1.c1 mm.r, rS x1.a2 x1.c2 mm.w, bk b_2 35 zC, mb b_1 x1 mm] ∧ k_ = 70 - p_) _ ⟨(a / 8), x_5, m_6, (k_4.mono (by omega) (by omega)), (by omega), rfl, rfl, (congrArg (Value.int .i64) hat), rfl, rfl, rfl, rfl, rfl, rfl, rfl, rfl, rfl⟩ ?_
    rintro _ e_12 _ ⟨p_, x1, mm, hkmm, hp0, hR, he_13, he_14, he_15, he_16, he_17, he_18, he_19, he_20, he_21, rfl, rfl⟩
    refine jD <| jD <| jF <| jA (jC (v := nv p_) he_21) <| jA (PO.mul (c := ((p_ * 8 : Nat) : Int)) rfl rfl (wr (by omega))) <| jA (jC (v := iv ((a + text.length : Nat) : Int)) he_20) <| jA (js rfl rfl) <| jE <| jB ?_
    by_cases h_22 : ((p_ * 8 : Nat) : Int) < ((a + text.length : Nat) : Int)
    · refine jR (cB (dT h_22)) <| jU <| jB <| jD <| jm <| jD <| jF <| jA (jG (v := str []) rfl) <| jE <| jB ?_
      refine jD <| jF <| jT (jP 4 x1 mm rfl he_16) <| jA (jC (v := iv id) he_13) <| jA (jC (v := nv p_) he_21) ?_
      refine jH rfl (jI [0, 0, 0] Tryz.call146 rfl (M_block x1 mm hkmm (by omega) (by omega) id ((p_ : Nat) : Int) (by omega) (by omega)) rfl (fun _ _ => trivial)) ?_
      rintro _ _ ⟨_, ⟨x_25, m_26, u_27, e_23, k_24, f_28, rfl, rfl⟩, rfl⟩
      refine jA (jC (v := .tuple #[mv x_25 m_26, str u_27]) rfl) <| jA (jS (v := mv x_25 m_26) rfl rfl) <| jA (jS (v := str u_27) rfl rfl) ?_
      refine jH rfl (jW 4 x_25 m_26 rfl he_16 rfl rfl) ?_
      rintro _ _ rfl
      refine jA (jG (v := str u_27) rfl) <| jE <| jB <| jD <| jF <| jA (jC (v := str u_27) rfl) ?_
      refine jH rfl (JO.toBytes kY ki kk rfl (by unfold maxLen; omega)) ?_
      rintro _ _ ⟨a_29, c_30, rfl, rfl⟩
      refine jA (jG (v := .slice a_29 u_27.length c_30) rfl) <| jE <| jB <| jD <| jD <| jF <| jA (jG (v := iv 0) rfl) <| jE <| jB <| jm ?_
      refine kE (fun k_ e_ L_ => ∃ i_ : Nat, ∃ bba : Option Addr, ∃ bbc : Nat, ∃ bbn : Nat, ∃ bb : Str, (bb.length = bbn) ∧ (i_ ≤ 8) ∧ (bb = overTo text a (p_ * 8) u_27 (min (a + text.length) (p_ * 8 + i_) - max a (p_ * 8))) ∧ (bb.length ≤ 20008) ∧ e_ 1 = iv id ∧ e_ 2 = nv a ∧ e_ 3 = str text ∧ e_ 4 = .pointer (some ⟨b_1, 0, none⟩) ∧ e_ 8 = .pointer (some ⟨b_2, 0, none⟩) ∧ e_ 9 = iv 0 ∧ e_ 10 = iv n_7 ∧ e_ 11 = iv ((a + text.length : Nat) : Int) ∧ e_ 12 = nv p_ ∧ e_ 14 = .slice bba bbn bbc ∧ e_ 15 = nv i_ ∧ L_ = [Res.row (.slice bba bbn bbc) 5 1 bbn (bb.map encB), rC x_25.a0 x_25.c0 m_26.s, rS x_25.a1 x_25.c1 m_26.r, rS x_25.a2 x_25.c2 m_26.w, bk b_2 35 zC, mb b_1 x_25 m_26] ∧ k_ = 8 - i_) _ ⟨0, a_29, c_30, u_27.length, u_27, (by first | rfl | omega | (simp only [List.length_append, List.length_cons, List.length_nil, List.length_set]; omega) | simp), (by omega), (by rw [show min (a + text.length) (p_ * 8 + 0) - max a (p_ * 8) = 0 by omega]; rfl), (by omega), he_13, he_14, he_15, he_16, he_17, he_18, he_19, he_20, he_21, rfl, rfl, rfl, rfl⟩ ?_
      rintro _ e_31 _ ⟨i_, bba, bbc, bbn, bb, hbbn, hi, hb, hbl, he_32, he_33, he_34, he_35, he_36, he_37, he_38, he_39, he_40, he_41, he_42, rfl, rfl⟩
      refine jD <| jD <| jF <| jA (jC (v := nv i_) he_42) <| jA (js rfl rfl) <| jE <| jB ?_
      by_cases h_43 : ((i_ : Nat) : Int) < 8
      · refine jR (cB (dT h_43)) <| jU <| jB <| jD <| jm <| jD <| jF <| jA (jC (v := nv p_) he_40) <| jA (PO.mul (c := ((p_ * 8 : Nat) : Int)) rfl rfl (wr (by omega))) <| jA (jC (v := nv i_) he_42) ?_
        refine jA (jg (c := (((p_ * 8) + i_ : Nat) : Int)) rfl rfl (wr (by omega))) <| jA (jG (v := iv (((p_ * 8) + i_ : Nat) : Int)) rfl) <| jE <| jB <| jD <| jD <| jF <| jA (jC (v := iv (((p_ * 8) + i_ : Nat) : Int)) rfl) <| jA (jC (v := nv a) he_33) <| jA (js rfl rfl) ?_
        refine jA (jC (v := .bool (decide ((((p_ * 8) + i_ : Nat) : Int) < ((a : Nat) : Int)))) rfl) ?_
        by_cases h_44 : (((p_ * 8) + i_ : Nat) : Int) < ((a : Nat) : Int)
        · refine jY (b := true) rfl rfl rfl (cB (dT h_44)) <| jY (b := true) rfl rfl rfl (cB (dT h_44)) <| jY (b := true) rfl rfl rfl (cB (dT h_44)) <| jA (jx (v := .bool true) (cB (dT h_44)) rfl) <| jE <| jB <| jR (cB rfl) <| kB <| jn <| kC ?_
          refine jB <| jF <| jA (jC (v := nv i_) he_42) <| jA (jg (c := ((i_ + 1 : Nat) : Int)) rfl rfl (wr (by omega))) <| jA (jG (v := iv ((i_ + 1 : Nat) : Int)) rfl) <| jE <| jr [0, 0, 0, 0, 0, 0] (A := [Res.row (.slice bba bbn bbc) 5 1 bbn (bb.map encB), rC x_25.a0 x_25.c0 m_26.s, rS x_25.a1 x_25.c1 m_26.r, rS x_25.a2 x_25.c2 m_26.w, bk b_2 35 zC, mb b_1 x_25 m_26]) rfl ?_
          refine jt (8 - (i_ + 1)) (by omega) ⟨(i_ + 1), bba, bbc, bbn, bb, (by first | rfl | omega | (simp only [List.length_append, List.length_cons, List.length_nil, List.length_set]; omega) | simp), (by omega), (by rw [hb, show min (a + text.length) (p_ * 8 + (i_ + 1)) - max a (p_ * 8) = min (a + text.length) (p_ * 8 + i_) - max a (p_ * 8) by omega]), (by omega), he_32, he_33, he_34, he_35, he_36, he_37, he_38, he_39, he_40, he_41, rfl, rfl, rfl⟩
        refine jb rfl rfl rfl (cB (dF h_44)) (ja (jd (jC (v := iv (((p_ * 8) + i_ : Nat) : Int)) rfl))) ?_
        rintro _ _ ⟨rfl, rfl⟩
        refine jb rfl rfl rfl (cB (dF h_44)) (ja (jd (jC (v := iv ((a + text.length : Nat) : Int)) he_39))) ?_
        rintro _ _ ⟨rfl, rfl⟩
        refine jb rfl rfl rfl (cB (dF h_44)) (ja (jd (kT rfl rfl))) ?_
        rintro _ _ ⟨rfl, rfl⟩
        refine jA (jw (v := .bool (decide (((a + text.length : Nat) : Int) ≤ (((p_ * 8) + i_ : Nat) : Int)))) (cB (dF h_44)) rfl) <| jE <| jB ?_
        by_cases h_45 : ((a + text.length : Nat) : Int) ≤ (((p_ * 8) + i_ : Nat) : Int)
        · refine jR (cB (dT h_45)) <| kB <| jn <| kC <| jB <| jF <| jA (jC (v := nv i_) he_42) <| jA (jg (c := ((i_ + 1 : Nat) : Int)) rfl rfl (wr (by omega))) <| jA (jG (v := iv ((i_ + 1 : Nat) : Int)) rfl) <| jE ?_
          refine jr [0, 0, 0, 0, 0, 0] (A := [Res.row (.slice bba bbn bbc) 5 1 bbn (bb.map encB), rC x_25.a0 x_25.c0 m_26.s, rS x_25.a1 x_25.c1 m_26.r, rS x_25.a2 x_25.c2 m_26.w, bk b_2 35 zC, mb b_1 x_25 m_26]) rfl ?_
          refine jt (8 - (i_ + 1)) (by omega) ⟨(i_ + 1), bba, bbc, bbn, bb, (by first | rfl | omega | (simp only [List.length_append, List.length_cons, List.length_nil, List.length_set]; omega) | simp), (by omega), (by rw [hb, show min (a + text.length) (p_ * 8 + (i_ + 1)) - max a (p_ * 8) = min (a + text.length) (p_ * 8 + i_) - max a (p_ * 8) by omega]), (by omega), he_32, he_33, he_34, he_35, he_36, he_37, he_38, he_39, he_40, he_41, rfl, rfl, rfl⟩
        refine jQ (cB (dF h_45)) <| jU <| jB <| jD <| jm <| kE (fun k_ e_ L_ => ∃ g_ : Nat, ∃ cca : Option Addr, ∃ ccc : Nat, ∃ ccn : Nat, ∃ cc : Str, (cc.length = ccn) ∧ (cc ++ List.replicate (i_ + 1 - cc.length) 0 = bb ++ List.replicate (i_ + 1 - bb.length) 0) ∧ (cc.length = bb.length + g_) ∧ e_ 1 = iv id ∧ e_ 2 = nv a ∧ e_ 3 = str text ∧ e_ 4 = .pointer (some ⟨b_1, 0, none⟩) ∧ e_ 8 = .pointer (some ⟨b_2, 0, none⟩) ∧ e_ 9 = iv 0 ∧ e_ 10 = iv n_7 ∧ e_ 11 = iv ((a + text.length : Nat) : Int) ∧ e_ 12 = nv p_ ∧ e_ 14 = .slice cca ccn ccc ∧ e_ 15 = nv i_ ∧ e_ 16 = iv (((p_ * 8) + i_ : Nat) : Int) ∧ L_ = [Res.row (.slice cca ccn ccc) 5 1 ccn (cc.map encB), rC x_25.a0 x_25.c0 m_26.s, rS x_25.a1 x_25.c1 m_26.r, rS x_25.a2 x_25.c2 m_26.w, bk b_2 35 zC, mb b_1 x_25 m_26] ∧ k_ = 21000 - g_) _ ⟨0, bba, bbc, bbn, bb, (by first | rfl | omega | (simp only [List.length_append, List.length_cons, List.length_nil, List.length_set]; omega) | simp), rfl, (by omega), he_32, he_33, he_34, he_35, he_36, he_37, he_38, he_39, he_40, he_41, he_42, rfl, rfl, rfl⟩ ?_
        rintro _ e_46 _ ⟨g_, cca, ccc, ccn, cc, hccn, hc, hcl, he_47, he_48, he_49, he_50, he_51, he_52, he_53, he_54, he_55, he_56, he_57, he_58, rfl, rfl⟩
        refine jD <| jD <| jF <| jA (jC (v := .slice cca ccn ccc) he_56) <| jA (kK ki rfl) <| jA (jC (v := nv i_) he_57) <| jA (PO.leq rfl rfl) <| jE <| jB ?_
        by_cases h_59 : ((ccn : Nat) : Int) ≤ ((i_ : Nat) : Int)
        · refine jR (cB (dT h_59)) <| jU <| jB <| jm <| jF <| jA (jC (v := .slice cca ccn ccc) he_56) ?_
          refine jH rfl (kI (ps := [(0, .int .u8 0)]) (cur := #[.int .u8 0]) ki kq kw rfl (by kernel_rfl) (by decide) (by decide)) ?_
          rintro _ _ ⟨a_60, rfl, rfl⟩
          refine jH rfl (kF 1 (q := 1) (news := ([0] : List UInt8).map encB) (n' := (cc ++ ([0] : List UInt8)).length) (cs' := (cc ++ ([0] : List UInt8)).map encB) rfl ki ki Tryz.typeInfo5 rfl (by' := 1) rfl rfl rfl rfl rfl (fun w hw => Src.sees (hw.see (i := 0) rfl) (oneB _)) (by (try simp only [LE]); omega) (by (try simp only [LE]); omega) (by simp only [List.length_append, List.length_take, List.length_drop, List.length_cons, List.length_nil] <;> first | rfl | omega) (by simp only [List.map_append])) ?_
          rintro _ _ ⟨a_61, c_62, rfl, rfl⟩
          refine jA (jG (v := .slice a_61 ((cc ++ ([0] : List UInt8)).length) c_62) rfl) <| jE <| jk <| jr [1, 1, 1, 1, 1, 1] (A := [Res.row (.slice a_61 ((cc ++ ([0] : List UInt8)).length) c_62) 5 1 ((cc ++ ([0] : List UInt8)).length) ((cc ++ ([0] : List UInt8)).map encB), rC x_25.a0 x_25.c0 m_26.s, rS x_25.a1 x_25.c1 m_26.r, rS x_25.a2 x_25.c2 m_26.w, bk b_2 35 zC, mb b_1 x_25 m_26]) rfl ?_
          refine jt (21000 - (g_ + 1)) (by omega) ⟨(g_ + 1), a_61, c_62, ((cc ++ ([0] : List UInt8)).length), (cc ++ ([0] : List UInt8)), (by first | rfl | omega | (simp only [List.length_append, List.length_cons, List.length_nil, List.length_set]; omega) | simp), (by rw [List.length_append, ← hc]; exact pad_step (by omega)), (by simp only [List.length_append, List.length_cons, List.length_nil]; omega), he_47, he_48, he_49, he_50, he_51, he_52, he_53, he_54, he_55, rfl, he_57, he_58, rfl, rfl⟩
        have hcd : cc = bb ++ List.replicate (p_ * 8 + i_ - p_ * 8 + 1 - bb.length) 0 := by rw [show p_ * 8 + i_ - p_ * 8 = i_ by omega, ← hc, show i_ + 1 - cc.length = 0 by omega]; simp
        refine jQ (cB (dF h_59)) <| kB <| jn <| jn <| kC <| jB <| jF <| jA (jC (v := .slice cca ccn ccc) he_56) <| jA (jC (v := nv i_) he_57) <| jA (jC (v := str text) he_49) ?_
        refine jA (jC (v := iv (((p_ * 8) + i_ : Nat) : Int)) he_58) <| jA (jC (v := nv a) he_48) <| jA (kR (c := ((((p_ * 8) + i_) - a : Nat) : Int)) rfl rfl (wr (by omega))) <| jA (PO.indexS (i := ((p_ * 8) + i_) - a) (c := text.getD (((p_ * 8) + i_) - a) 0) kY rfl rfl (getD_some (by omega))) ?_
        have hu_63 := UInt8.toNat_lt (text.getD (((p_ * 8) + i_) - a) 0)
        refine JL.facts fun hst => ?_
        obtain ⟨hr_64, hr_64b, -⟩ := row_some 0 rfl (by omega) hst
        refine jA (kH (i := i_) ki kq hr_64 hr_64b rfl rfl (by omega)) ?_
        refine jH rfl (JO.storeR 0 (vs := [.int .u8 ((text.getD (((p_ * 8) + i_) - a) 0).toNat : Int)]) (cs' := (cc.set i_ (text.getD (((p_ * 8) + i_) - a) 0)).map encB) rfl rfl rfl rfl kq rfl rfl (by decide) (by rw [List.length_map]; omega) (setB (by omega))) ?_
        rintro _ _ rfl
        refine jE <| jk <| jB <| jF <| jA (jC (v := nv i_) he_57) <| jA (jg (c := ((i_ + 1 : Nat) : Int)) rfl rfl (wr (by omega))) <| jA (jG (v := iv ((i_ + 1 : Nat) : Int)) rfl) <| jE <| jr [0, 0, 0, 0, 0, 0] (A := [Res.row (.slice cca ccn ccc) 5 1 ccn ((cc.set i_ (text.getD (((p_ * 8) + i_) - a) 0)).map encB), rC x_25.a0 x_25.c0 m_26.s, rS x_25.a1 x_25.c1 m_26.r, rS x_25.a2 x_25.c2 m_26.w, bk b_2 35 zC, mb b_1 x_25 m_26]) rfl ?_
        refine jt (8 - (i_ + 1)) (by omega) ⟨(i_ + 1), cca, ccc, ccn, (cc.set i_ (text.getD (((p_ * 8) + i_) - a) 0)), (by first | rfl | omega | (simp only [List.length_append, List.length_cons, List.length_nil, List.length_set]; omega) | simp), (by omega), (by have h3_ := overTo_step (text := text) (a := a) (f := p_ * 8) (j := p_ * 8 + i_) (by omega) (hb.trans (by rw [show min (a + text.length) (p_ * 8 + i_) - max a (p_ * 8) = p_ * 8 + i_ - max a (p_ * 8) by omega])) hcd; rw [show p_ * 8 + i_ - p_ * 8 = i_ by omega, show p_ * 8 + i_ + 1 - max a (p_ * 8) = min (a + text.length) (p_ * 8 + (i_ + 1)) - max a (p_ * 8) by omega] at h3_; exact h3_), (by have hl_ := congrArg List.length hcd; simp only [List.length_append, List.length_replicate] at hl_; simp only [List.length_set]; omega), he_47, he_48, he_49, he_50, he_51, he_52, he_53, he_54, he_55, he_56, rfl, rfl, rfl⟩
      have hb2 : overTo text a (p_ * 8) u_27 (min (a + text.length) (p_ * 8 + 8) - max a (p_ * 8)) = bb := by rw [hb, show i_ = 8 by omega]
      refine jQ (cB (dF h_43)) <| kB <| jn <| jn <| kC <| jB <| jF <| jT (jP 5 x_25 m_26 rfl he_35) <| jA (jC (v := iv id) he_32) <| jA (jC (v := nv p_) he_40) ?_
      refine jA (jC (v := .slice bba bbn bbc) he_41) <| jT (LO.toStr 0 bb rfl ki kk kY rfl rfl) ?_
      refine jH rfl (jI [1, 1, 1] Tryz.call147 rfl (M_layBlock x_25 m_26 k_24 (by omega) (by omega) id ((p_ : Nat) : Int) bb (by omega) (by omega) (by omega)) rfl (fun _ _ => trivial)) ?_
      rintro _ _ ⟨_, ⟨x_67, m_68, e_65, k_66, rfl, rfl⟩, rfl⟩
      refine jH rfl (jW 5 x_67 m_68 rfl he_35 rfl rfl) ?_
      rintro _ _ rfl
      refine jE <| jk <| jB <| jF <| jA (jC (v := nv p_) he_40) <| jA (jg (c := ((p_ + 1 : Nat) : Int)) rfl rfl (wr (by omega))) <| jA (jG (v := iv ((p_ + 1 : Nat) : Int)) rfl) <| jE <| jr [0, 0, 0, 1, 1] (A := [rC x_67.a0 x_67.c0 m_68.s, rS x_67.a1 x_67.c1 m_68.r, rS x_67.a2 x_67.c2 m_68.w, bk b_2 35 zC, mb b_1 x_67 m_68]) rfl ?_
      refine jt (70 - (p_ + 1)) (by omega) ⟨(p_ + 1), x_67, m_68, (k_66.mono (by omega) (by omega)), (by omega), (by rw [show 130 - p_ = (130 - (p_ + 1)) + 1 by omega, MS.writeL, if_pos (by omega)] at hR; simp only [MS.blockKey, e_3, e_23, e_65, hb2] at hR; exact hR), he_32, he_33, he_34, he_35, he_36, he_37, he_38, he_39, rfl, rfl, rfl⟩
    rw [MS.writeL_stop (by omega)] at hR
    have hRE := hR.symm
    refine jQ (cB (dF h_22)) <| kB <| jn <| jn <| kC <| jB <| jD <| jD <| jF <| jA (jC (v := iv ((a + text.length : Nat) : Int)) he_20) ?_
    refine jA (jC (v := iv n_7) he_19) <| jA (kS rfl rfl) <| jE <| jB ?_
    by_cases h_69 : n_7 < ((a + text.length : Nat) : Int)
    · refine jR (cB (dT h_69)) <| jq [mb b_1 x1 mm] 4 mixed (by simp) <| jl 0 rfl (jP 0 x1 mm rfl he_16) <| jK 1 rfl (jC (v := iv id) he_13) <| jK 3 rfl (jC (v := iv ((a + text.length : Nat) : Int)) he_20) <| jL (i := 2) ?_
      refine jO rfl rfl (jI [] Tryz.call91 rfl (N_sKeyNum [105, 47] id [47, 115] (show List.length ([105, 47] : Str) ≤ 2 by decide) (by omega) (show List.length ([47, 115] : Str) ≤ 2 by decide) (by omega)) rfl (fun _ _ => trivial)) ?_
      rintro _ _ ⟨_, ⟨u_80, e_78, f_81, rfl, rfl⟩, rfl⟩
      refine ⟨(by simp), ?_⟩
      refine jL (i := 4) ?_
      refine jo rfl (jI [0, 0, 0] Tryz.call90 rfl (N_sSetNum x1 mm hkmm (by omega) (by omega) u_80 ((a + text.length : Nat) : Int) (by omega) (by omega)) rfl (fun _ _ => trivial)) ?_
      rintro _ _ ⟨_, ⟨x_88, m_89, e_86, k_87, rfl, rfl⟩, rfl⟩
      refine jL (i := 5) ?_
      refine jp rfl (jW 4 x_88 m_89 rfl he_16 rfl rfl) ?_
      rintro _ _ rfl
      refine jB <| jD <| jF <| jT (jP 4 x_88 m_89 rfl he_16) ?_
      refine jH rfl (jW 3 x_88 m_89 rfl he_17 rfl rfl) ?_
      rintro _ _ rfl
      refine jA (jG (v := iv 0) rfl) <| jE <| jB <| jM <| jj (.inl rfl) rfl (je (jP 3 x_88 m_89 rfl he_17) ⟨_, he_17⟩) (jN (v := iv 0) rfl) (tS 3 _) ?_
      exact ⟨x_88, m_89, 0, (by simp only [MS.writeFile, List.length_nil, Int.toNat_natCast, true_or, or_true, false_or, or_false, e_3, h_9, hat, h_10, h_11, h_22, hRE, h_69, e_78, e_86, SB]; (repeat (first | rw [if_pos (by omega)] | rw [if_neg (by omega)])); all_goals (first | rfl | simp only [SB, e_3, h_9, hat, h_10, h_11, h_22, hRE, h_69, e_78, e_86])), (k_87.mono (by omega) (by omega)), (by first | omega | (simp only [LE]; omega)), rfl, rfl⟩
    refine jQ (cB (dF h_69)) <| jU <| jB <| jD <| jF <| jT (jP 4 x1 mm rfl he_16) ?_
    refine jH rfl (jW 3 x1 mm rfl he_17 rfl rfl) ?_
    rintro _ _ rfl
    refine jA (jG (v := iv 0) rfl) <| jE <| jB <| jM <| jj (.inl rfl) rfl (je (jP 3 x1 mm rfl he_17) ⟨_, he_17⟩) (jN (v := iv 0) rfl) (tS 3 _) ?_
    exact ⟨x1, mm, 0, (by simp only [MS.writeFile, List.length_nil, Int.toNat_natCast, true_or, or_true, false_or, or_false, e_3, h_9, hat, h_10, h_11, h_22, hRE, h_69, SB]; (repeat (first | rw [if_pos (by omega)] | rw [if_neg (by omega)])); all_goals (first | rfl | simp only [SB, e_3, h_9, hat, h_10, h_11, h_22, hRE, h_69])), (hkmm.mono (by omega) (by omega)), (by first | omega | (simp only [LE]; omega)), rfl, rfl⟩
  have h_9d := h_9
  simp only [Bool.and_eq_true, Bool.and_eq_false_iff, decide_eq_true_eq, decide_eq_false_iff_not] at h_9d
  refine jY (b := true) rfl rfl rfl (cB (cN h_9)) <| jY (b := true) rfl rfl rfl (cB (cN h_9)) <| jA (jx (v := .bool true) (cB (cN h_9)) rfl) <| jE <| jB <| jR (cB rfl) <| jD <| jF <| jT (jP 4 x_5 m_6 rfl rfl) ?_
  refine jH rfl (jW 3 x_5 m_6 rfl rfl rfl rfl) ?_
  rintro _ _ rfl
  refine jA (jG (v := iv 4) rfl) <| jE <| jB <| jM <| jX <| jj (.inl rfl) rfl (je (jP 3 x_5 m_6 rfl rfl) ⟨_, rfl⟩) (jN (v := iv 4) rfl) (tS 3 _) ?_
  exact ⟨x_5, m_6, 4, (by simp only [MS.writeFile, List.length_nil, Int.toNat_natCast, true_or, or_true, false_or, or_false, e_3, h_9, SB]; (repeat (first | rw [if_pos (by omega)] | rw [if_neg (by omega)])); all_goals (first | rfl | simp only [SB, e_3, h_9])), (k_4.mono (by omega) (by omega)), (by first | omega | (simp only [LE]; omega)), rfl, rfl⟩

theorem N_brought (x y : Nat) :
    Ct Tryz.prog 148 [.int .i64 ((x : Nat) : Int), .int .i64 0, .int .i64 ((y : Nat) : Int)] [] (fun _ => True) (fun v A' => v = .int .i64 ((min x y : Nat) : Int) ∧ A' = []) := by
  refine Ct.intro Tryz.func148 rfl Tryz.ntmps148 (lb rfl) fun w0 hpre => ?_
  refine jD <| jF <| jA (jG (v := iv 0) rfl) <| jE <| jB <| jD <| jD <| jF <| jA (jC (v := nv y) rfl) <| jA (jC (v := iv 0) rfl) ?_
  refine jA (js rfl rfl) <| jA (jC (v := .bool (decide (((y : Nat) : Int) < 0))) rfl) ?_
  by_cases h_1 : ((y : Nat) : Int) < 0
  · refine jY (b := true) rfl rfl rfl (cB (dT h_1)) <| jY (b := true) rfl rfl rfl (cB (dT h_1)) <| jY (b := true) rfl rfl rfl (cB (dT h_1)) <| jA (jx (v := .bool true) (cB (dT h_1)) rfl) <| jE <| jB <| jR (cB rfl) <| jD <| jF <| jA (jC (v := iv 0) rfl) ?_
    refine jA (jG (v := iv 0) rfl) <| jE <| jB <| jM <| jX <| jV (.inl rfl) rfl (jN (v := iv 0) rfl) (List.nil_sublist _) ?_
    refine ⟨?_, rfl⟩
    exact congrArg (Value.int .i64) (by omega)
  refine jb rfl rfl rfl (cB (dF h_1)) (ja (jd (jC (v := nv x) rfl))) ?_
  rintro _ _ ⟨rfl, rfl⟩
  refine jb rfl rfl rfl (cB (dF h_1)) (ja (jd (jC (v := iv 0) rfl))) ?_
  rintro _ _ ⟨rfl, rfl⟩
  refine jb rfl rfl rfl (cB (dF h_1)) (ja (jd (js rfl rfl))) ?_
  rintro _ _ ⟨rfl, rfl⟩
  refine jA (jw (v := .bool (decide (((x : Nat) : Int) < 0))) (cB (dF h_1)) rfl) <| jE <| jB ?_
  by_cases h_2 : ((x : Nat) : Int) < 0
  · refine jR (cB (dT h_2)) <| jD <| jF <| jA (jC (v := iv 0) rfl) <| jA (jG (v := iv 0) rfl) <| jE <| jB <| jM <| jX <| jV (.inl rfl) rfl (jN (v := iv 0) rfl) (List.nil_sublist _) ?_
    refine ⟨?_, rfl⟩
    exact congrArg (Value.int .i64) (by omega)
  refine jQ (cB (dF h_2)) <| jU <| jB <| jD <| jD <| jF <| jA (jC (v := nv x) rfl) <| jA (jC (v := nv y) rfl) <| jA (kS rfl rfl) <| jE ?_
  refine jB ?_
  by_cases h_3 : ((y : Nat) : Int) < ((x : Nat) : Int)
  · refine jR (cB (dT h_3)) <| jD <| jF <| jA (jC (v := nv y) rfl) <| jA (jG (v := nv y) rfl) <| jE <| jB <| jM <| jX <| jV (.inl rfl) rfl (jN (v := nv y) rfl) (List.nil_sublist _) ?_
    refine ⟨?_, rfl⟩
    exact congrArg (Value.int .i64) (by omega)
  refine jQ (cB (dF h_3)) <| jU <| jB <| jD <| jF <| jA (jC (v := nv x) rfl) <| jA (jG (v := nv x) rfl) <| jE <| jB <| jM ?_
  refine jV (.inl rfl) rfl (jN (v := nv x) rfl) (List.nil_sublist _) ?_
  refine ⟨?_, rfl⟩
  exact congrArg (Value.int .i64) (by omega)

theorem N_cutFile (p : Nat) (x : MA) (m : MS) {S T : Nat} (hk : m.ok S T) (hS : S ≤ 50000000) (hT : T ≤ 50000000) (id : Int) (n : Int) (hid : -9223372036854775808 ≤ id ∧ id ≤ 9223372036854775807) (hn : -9223372036854775808 ≤ n ∧ n ≤ 9223372036854775807) :
    Ct Tryz.prog 133 [.pointer (some ⟨p, 0, none⟩), .int .i64 id, .int .i64 n] (mb p x m :: mr x m) (fun w => HexOk w) (fun v A' => ∃ x' m' r0, MS.cutFile m id n = (m', r0) ∧ m'.ok (S + 3) (T + 140) ∧ (0 ≤ r0 ∧ r0 ≤ 9) ∧ v = .int .i64 r0 ∧ A' = mb p x' m' :: mr x' m') := by
  refine Ct.introL Tryz.func133 rfl Tryz.ntmps133 (lb rfl) fun w0 hpre hlow => ?_
  refine jD <| jF <| jA (jG (v := iv 0) rfl) <| jE <| jB <| jD <| jF <| jA (jC (v := pv p) rfl) <| jA (jC (v := iv id) rfl) ?_
  refine jH rfl (jI [] Tryz.call159 rfl (N_sizeKey id (by omega)) rfl (fun _ _ => trivial)) ?_
  rintro _ _ ⟨_, ⟨u_3, e_1, f_4, rfl, rfl⟩, rfl⟩
  refine jH rfl (jI [0, 0, 0, 0] Tryz.call118 rfl (N_num p x m hk (by omega) (by omega) u_3) rfl (fun _ _ => trivial)) ?_
  rintro _ _ ⟨_, ⟨x_7, m_8, n_9, e_5, k_6, f_10, rfl, rfl⟩, rfl⟩
  refine jA (jG (v := iv n_9) rfl) <| jE <| jB <| jD <| jD <| jF <| jA (jC (v := iv n) rfl) <| jA (jC (v := iv n_9) rfl) ?_
  refine jH rfl (jI [] Tryz.call120 rfl (C_within n 0 n_9) rfl (fun _ _ => trivial)) ?_
  rintro _ _ ⟨_, ⟨rfl, rfl⟩, rfl⟩
  refine jA (kA rfl) <| jE <| jB ?_
  rcases Bool.eq_false_or_eq_true (decide (0 ≤ n) && decide (n ≤ n_9)) with h_11 | h_11
  · have h_11d := h_11
    simp only [Bool.and_eq_true, Bool.and_eq_false_iff, decide_eq_true_eq, decide_eq_false_iff_not] at h_11d
    obtain ⟨a, hat⟩ : ∃ a : Nat, n = ((a : Nat) : Int) := ⟨n.toNat, by omega⟩
    obtain ⟨Z, hZ⟩ : ∃ Z : Nat, n_9 = ((Z : Nat) : Int) := ⟨n_9.toNat, by omega⟩
    refine jQ (cB (cN h_11)) <| jU <| jB <| jD <| jF <| jA (jC (v := nv a) (congrArg (Value.int .i64) hat)) <| jA (PO.quoN (c := ((a / 8 : Nat) : Int)) rfl rfl (by omega) (by omega) (by omega) (wr (by omega))) <| jA (jG (v := iv ((a / 8 : Nat) : Int)) rfl) <| jE <| jB ?_
    refine jD <| jD <| jF <| jA (jC (v := nv a) (congrArg (Value.int .i64) hat)) <| jA (PO.remN (c := ((a % 8 : Nat) : Int)) rfl rfl (by omega) (by omega) (by omega)) <| jA (kS rfl rfl) <| jE <| jB ?_
    by_cases h_12 : 0 < ((a % 8 : Nat) : Int)
    · refine jR (cB (dT h_12)) <| jD <| jF <| jA (jC (v := pv p) rfl) <| jA (jC (v := iv id) rfl) <| jA (jC (v := iv ((a / 8 : Nat) : Int)) rfl) ?_
      refine jH rfl (jI [0, 0, 0, 0] Tryz.call160 rfl (N_block p x_7 m_8 k_6 (by omega) (by omega) id ((a / 8 : Nat) : Int) (by omega) (by omega)) rfl (fun w hw => hw.hex hlow hpre)) ?_
      rintro _ _ ⟨_, ⟨x_15, m_16, u_17, e_13, k_14, f_18, rfl, rfl⟩, rfl⟩
      refine jA (jG (v := str u_17) rfl) <| jE <| jB <| jD <| jq [] 11 mixed (by simp) <| jK 0 rfl (jC (v := pv p) rfl) <| jK 1 rfl (jC (v := iv id) rfl) <| jK 2 rfl (jC (v := iv ((a / 8 : Nat) : Int)) rfl) <| jK 4 rfl (jC (v := str u_17) rfl) <| jK 5 rfl (jC (v := nv a) (congrArg (Value.int .i64) hat)) ?_
      refine jK 6 rfl (PO.remN (c := ((a % 8 : Nat) : Int)) rfl rfl (by omega) (by omega) (by omega)) <| jK 7 rfl (jC (v := str u_17) rfl) <| jK 8 rfl (kJ kY rfl) <| jK 9 rfl (PO.min2 (c := ((min (a % 8) u_17.length : Nat) : Int)) rfl rfl (by omega)) <| jK 10 rfl (PO.sliceSh (j := (min (a % 8) u_17.length)) kY rfl rfl (by omega)) <| jL (i := 3) ?_
      refine jO rfl rfl (jI [] Tryz.call161 rfl (N_blockKey id ((a / 8 : Nat) : Int) (by omega) (by omega)) rfl (fun _ _ => trivial)) ?_
      rintro _ _ ⟨_, ⟨u_53, e_51, f_54, rfl, rfl⟩, rfl⟩
      refine ⟨(fun _ h => by cases h), ?_⟩
      refine jL (i := 11) ?_
      refine jo rfl (jI [] Tryz.call136 rfl (N_hexOf (u_17.take (min (a % 8) u_17.length)) (by first | omega | (simp only [LE]; omega))) rfl (fun _ _ => trivial)) ?_
      rintro _ _ ⟨_, ⟨u_61, e_59, f_62, rfl, rfl⟩, rfl⟩
      refine jL (i := 12) ?_
      refine jp rfl (jI [0, 0, 0, 0] Tryz.call127 rfl (N_lay p x_15 m_16 k_14 (by omega) (by omega) u_53 u_61 (by omega)) rfl (fun _ _ => trivial)) ?_
      rintro _ _ ⟨_, ⟨x_69, m_70, e_67, k_68, rfl, rfl⟩, rfl⟩
      refine jB <| jF <| jA (jC (v := iv ((a / 8 : Nat) : Int)) rfl) <| jA (jg (c := (((a / 8) + 1 : Nat) : Int)) rfl rfl (wr (by omega))) <| jA (jG (v := iv (((a / 8) + 1 : Nat) : Int)) rfl) <| jE <| jB <| jD <| jm <| kE (fun k_ e_ L_ => ∃ p_ : Nat, ∃ x1 : MA, ∃ mm : MS, (mm.ok (S + 1) (T + 4 + p_)) ∧ (p_ ≤ 126) ∧ (MS.cutL id Z (130 - p_) p_ mm = MS.cutL id Z (130 - ((a / 8) + 1)) ((a / 8) + 1) m_70) ∧ e_ 0 = pv p ∧ e_ 1 = iv id ∧ e_ 2 = nv a ∧ e_ 6 = iv 0 ∧ e_ 7 = nv Z ∧ e_ 8 = nv p_ ∧ L_ = [mb p x1 mm, rC x1.a0 x1.c0 mm.s, rS x1.a1 x1.c1 mm.r, rS x1.a2 x1.c2 mm.w] ∧ k_ = 130 - p_) _ ⟨((a / 8) + 1), x_69, m_70, (k_68.mono (by omega) (by omega)), (by omega), rfl, rfl, rfl, (congrArg (Value.int .i64) hat), rfl, (congrArg (Value.int .i64) hZ), rfl, rfl, rfl⟩ ?_
      rintro _ e_71 _ ⟨p_, x1, mm, hkmm, hp0, hR, he_72, he_73, he_74, he_75, he_76, he_77, rfl, rfl⟩
      refine jD <| jD <| jF <| jA (jC (v := nv p_) he_77) <| jA (PO.mul (c := ((p_ * 8 : Nat) : Int)) rfl rfl (wr (by omega))) <| jA (jC (v := nv Z) he_76) <| jA (js rfl rfl) <| jE <| jB ?_
      by_cases h_78 : ((p_ * 8 : Nat) : Int) < ((Z : Nat) : Int)
      · refine jR (cB (dT h_78)) <| jU <| jB <| jD <| jm <| jF <| jA (jC (v := pv p) he_72) <| jA (jC (v := iv id) he_73) <| jA (jC (v := nv p_) he_77) ?_
        refine jH rfl (jI [] Tryz.call161 rfl (N_blockKey id ((p_ : Nat) : Int) (by omega) (by omega)) rfl (fun _ _ => trivial)) ?_
        rintro _ _ ⟨_, ⟨u_81, e_79, f_82, rfl, rfl⟩, rfl⟩
        refine jH rfl (jI [0, 0, 0, 0] Tryz.call127 rfl (N_layNil p x1 mm hkmm (by omega) (by omega) u_81 (by omega)) rfl (fun _ _ => trivial)) ?_
        rintro _ _ ⟨_, ⟨x_85, m_86, e_83, k_84, rfl, rfl⟩, rfl⟩
        refine jE <| jk <| jB <| jF <| jA (jC (v := nv p_) he_77) <| jA (jg (c := ((p_ + 1 : Nat) : Int)) rfl rfl (wr (by omega))) <| jA (jG (v := iv ((p_ + 1 : Nat) : Int)) rfl) <| jE <| jr [0, 0, 0, 0] (A := [mb p x_85 m_86, rC x_85.a0 x_85.c0 m_86.s, rS x_85.a1 x_85.c1 m_86.r, rS x_85.a2 x_85.c2 m_86.w]) rfl ?_
        refine jt (130 - (p_ + 1)) (by omega) ⟨(p_ + 1), x_85, m_86, (k_84.mono (by omega) (by omega)), (by omega), (by rw [show 130 - p_ = (130 - (p_ + 1)) + 1 by omega, MS.cutL, if_pos (by omega)] at hR; simp only [MS.blockKey, e_1, e_5, e_13, e_51, e_59, e_67, e_79, e_83] at hR; exact hR), he_72, he_73, he_74, he_75, he_76, rfl, rfl, rfl⟩
      rw [MS.cutL_stop (by omega)] at hR
      have hRE := hR.symm
      refine jQ (cB (dF h_78)) <| kB <| jn <| jn <| kC <| jB <| jD <| jF <| jA (jC (v := pv p) he_72) <| jA (jC (v := iv id) he_73) ?_
      refine jH rfl (jI [] Tryz.call159 rfl (N_sizeKey id (by omega)) rfl (fun _ _ => trivial)) ?_
      rintro _ _ ⟨_, ⟨u_89, e_87, f_90, rfl, rfl⟩, rfl⟩
      have hqe_87 := e_1.symm.trans e_87
      subst hqe_87
      refine jA (jC (v := nv a) he_74) ?_
      refine jH rfl (jI [0, 0, 0, 0] Tryz.call124 rfl (N_setNum p x1 mm hkmm (by omega) (by omega) u_3 ((a : Nat) : Int) (by omega) (by omega)) rfl (fun _ _ => trivial)) ?_
      rintro _ _ ⟨_, ⟨x_93, m_94, e_91, k_92, rfl, rfl⟩, rfl⟩
      refine jE <| jB <| jD <| jF <| jA (jG (v := iv 0) rfl) <| jE <| jB <| jM <| jV (.inl rfl) rfl (jN (v := iv 0) rfl) (List.Sublist.refl _) ?_
      exact ⟨x_93, m_94, 0, (by simp only [MS.cutFile, Int.toNat_natCast, true_or, or_true, false_or, or_false, MS.blockKey, MS.sizeOf, e_1, e_5, h_11, hat, hZ, h_12, e_13, e_51, e_59, e_67, h_78, hRE, e_91, SB]; (repeat (first | rw [if_pos (by omega)] | rw [if_neg (by omega)])); all_goals (first | rfl | simp only [SB, e_1, e_5, h_11, hat, hZ, h_12, e_13, e_51, e_59, e_67, h_78, hRE, e_91])), (k_92.mono (by omega) (by omega)), (by first | omega | (simp only [LE]; omega)), rfl, rfl⟩
    refine jQ (cB (dF h_12)) <| jU <| jB <| jD <| jm <| kE (fun k_ e_ L_ => ∃ p_ : Nat, ∃ x1 : MA, ∃ mm : MS, (mm.ok (S + 1) (T + 4 + p_)) ∧ (p_ ≤ 126) ∧ (MS.cutL id Z (130 - p_) p_ mm = MS.cutL id Z (130 - (a / 8)) (a / 8) m_8) ∧ e_ 0 = pv p ∧ e_ 1 = iv id ∧ e_ 2 = nv a ∧ e_ 6 = iv 0 ∧ e_ 7 = nv Z ∧ e_ 8 = nv p_ ∧ L_ = [mb p x1 mm, rC x1.a0 x1.c0 mm.s, rS x1.a1 x1.c1 mm.r, rS x1.a2 x1.c2 mm.w] ∧ k_ = 130 - p_) _ ⟨(a / 8), x_7, m_8, (k_6.mono (by omega) (by omega)), (by omega), rfl, rfl, rfl, (congrArg (Value.int .i64) hat), rfl, (congrArg (Value.int .i64) hZ), rfl, rfl, rfl⟩ ?_
    rintro _ e_95 _ ⟨p_, x1, mm, hkmm, hp0, hR, he_96, he_97, he_98, he_99, he_100, he_101, rfl, rfl⟩
    refine jD <| jD <| jF <| jA (jC (v := nv p_) he_101) <| jA (PO.mul (c := ((p_ * 8 : Nat) : Int)) rfl rfl (wr (by omega))) <| jA (jC (v := nv Z) he_100) <| jA (js rfl rfl) <| jE <| jB ?_
    by_cases h_102 : ((p_ * 8 : Nat) : Int) < ((Z : Nat) : Int)
    · refine jR (cB (dT h_102)) <| jU <| jB <| jD <| jm <| jF <| jA (jC (v := pv p) he_96) <| jA (jC (v := iv id) he_97) <| jA (jC (v := nv p_) he_101) ?_
      refine jH rfl (jI [] Tryz.call161 rfl (N_blockKey id ((p_ : Nat) : Int) (by omega) (by omega)) rfl (fun _ _ => trivial)) ?_
      rintro _ _ ⟨_, ⟨u_105, e_103, f_106, rfl, rfl⟩, rfl⟩
      refine jH rfl (jI [0, 0, 0, 0] Tryz.call127 rfl (N_layNil p x1 mm hkmm (by omega) (by omega) u_105 (by omega)) rfl (fun _ _ => trivial)) ?_
      rintro _ _ ⟨_, ⟨x_109, m_110, e_107, k_108, rfl, rfl⟩, rfl⟩
      refine jE <| jk <| jB <| jF <| jA (jC (v := nv p_) he_101) <| jA (jg (c := ((p_ + 1 : Nat) : Int)) rfl rfl (wr (by omega))) <| jA (jG (v := iv ((p_ + 1 : Nat) : Int)) rfl) <| jE <| jr [0, 0, 0, 0] (A := [mb p x_109 m_110, rC x_109.a0 x_109.c0 m_110.s, rS x_109.a1 x_109.c1 m_110.r, rS x_109.a2 x_109.c2 m_110.w]) rfl ?_
      refine jt (130 - (p_ + 1)) (by omega) ⟨(p_ + 1), x_109, m_110, (k_108.mono (by omega) (by omega)), (by omega), (by rw [show 130 - p_ = (130 - (p_ + 1)) + 1 by omega, MS.cutL, if_pos (by omega)] at hR; simp only [MS.blockKey, e_1, e_5, e_103, e_107] at hR; exact hR), he_96, he_97, he_98, he_99, he_100, rfl, rfl, rfl⟩
    rw [MS.cutL_stop (by omega)] at hR
    have hRE := hR.symm
    refine jQ (cB (dF h_102)) <| kB <| jn <| jn <| kC <| jB <| jD <| jF <| jA (jC (v := pv p) he_96) <| jA (jC (v := iv id) he_97) ?_
    refine jH rfl (jI [] Tryz.call159 rfl (N_sizeKey id (by omega)) rfl (fun _ _ => trivial)) ?_
    rintro _ _ ⟨_, ⟨u_113, e_111, f_114, rfl, rfl⟩, rfl⟩
    have hqe_111 := e_1.symm.trans e_111
    subst hqe_111
    refine jA (jC (v := nv a) he_98) ?_
    refine jH rfl (jI [0, 0, 0, 0] Tryz.call124 rfl (N_setNum p x1 mm hkmm (by omega) (by omega) u_3 ((a : Nat) : Int) (by omega) (by omega)) rfl (fun _ _ => trivial)) ?_
    rintro _ _ ⟨_, ⟨x_117, m_118, e_115, k_116, rfl, rfl⟩, rfl⟩
    refine jE <| jB <| jD <| jF <| jA (jG (v := iv 0) rfl) <| jE <| jB <| jM <| jV (.inl rfl) rfl (jN (v := iv 0) rfl) (List.Sublist.refl _) ?_
    exact ⟨x_117, m_118, 0, (by simp only [MS.cutFile, Int.toNat_natCast, true_or, or_true, false_or, or_false, MS.blockKey, MS.sizeOf, e_1, e_5, h_11, hat, hZ, h_12, h_102, hRE, e_115, SB]; (repeat (first | rw [if_pos (by omega)] | rw [if_neg (by omega)])); all_goals (first | rfl | simp only [SB, e_1, e_5, h_11, hat, hZ, h_12, h_102, hRE, e_115])), (k_116.mono (by omega) (by omega)), (by first | omega | (simp only [LE]; omega)), rfl, rfl⟩
  have h_11d := h_11
  simp only [Bool.and_eq_true, Bool.and_eq_false_iff, decide_eq_true_eq, decide_eq_false_iff_not] at h_11d
  refine jR (cB (cN h_11)) <| jD <| jF <| jA (jG (v := iv 4) rfl) <| jE <| jB <| jM <| jX <| jV (.inl rfl) rfl (jN (v := iv 4) rfl) (List.Sublist.refl _) ?_
  exact ⟨x_7, m_8, 4, (by simp only [MS.cutFile, Int.toNat_natCast, true_or, or_true, false_or, or_false, MS.blockKey, MS.sizeOf, e_1, e_5, h_11, SB]; (repeat (first | rw [if_pos (by omega)] | rw [if_neg (by omega)])); all_goals (first | rfl | simp only [SB, e_1, e_5, h_11])), (k_6.mono (by omega) (by omega)), (by first | omega | (simp only [LE]; omega)), rfl, rfl⟩

theorem M_cutFile (x : MA) (m : MS) {S T : Nat} (hk : m.ok S T) (hS : S ≤ 50000000) (hT : T ≤ 50000000) (id : Int) (n : Int) (hid : -9223372036854775808 ≤ id ∧ id ≤ 9223372036854775807) (hn : -9223372036854775808 ≤ n ∧ n ≤ 9223372036854775807) :
    Ct Tryz.prog 97 [mv x m, .int .i64 id, .int .i64 n] (mr x m) (fun _ => True) (fun v A' => ∃ x' m' r0, MS.cutFile m id n = (m', r0) ∧ m'.ok (S + 3) (T + 140) ∧ (0 ≤ r0 ∧ r0 ≤ 9) ∧ v = .tuple #[mv x' m', .int .i64 r0] ∧ A' = mr x' m') := by
  refine Ct.intro Tryz.func97 rfl Tryz.ntmps97 (lb rfl) fun w0 hpre => ?_
  refine jD <| jF ?_
  refine jH rfl (jv (cs := (mc x m)) rfl rfl) ?_
  rintro _ _ ⟨b_1, rfl, rfl⟩
  refine jH rfl (jh (z := zM) (cs := zC) kd rfl) ?_
  rintro _ _ ⟨b_2, rfl, rfl⟩
  refine jA (jG (v := iv 0) rfl) <| jE <| jB <| jD <| jF <| jT (jP 1 x m rfl rfl) <| jA (jC (v := iv id) rfl) ?_
  refine jH rfl (jI [2, 2, 2] Tryz.call145 rfl (M_sizeFile x m hk (by omega) (by omega) id (by omega)) rfl (fun _ _ => trivial)) ?_
  rintro _ _ ⟨_, ⟨x_5, m_6, n_7, e_3, k_4, f_8, rfl, rfl⟩, rfl⟩
  refine jA (jC (v := .tuple #[mv x_5 m_6, iv n_7]) rfl) <| jA (jS (v := mv x_5 m_6) rfl rfl) <| jA (jS (v := iv n_7) rfl rfl) ?_
  refine jH rfl (jW 4 x_5 m_6 rfl rfl rfl rfl) ?_
  rintro _ _ rfl
  refine jA (jG (v := iv n_7) rfl) <| jE <| jB <| jD <| jD <| jF <| jA (jC (v := iv n) rfl) <| jA (jC (v := iv n_7) rfl) ?_
  refine jH rfl (jI [] Tryz.call86 rfl (C_l01In n 0 n_7) rfl (fun _ _ => trivial)) ?_
  rintro _ _ ⟨_, ⟨rfl, rfl⟩, rfl⟩
  refine jA (kA rfl) <| jE <| jB ?_
  rcases Bool.eq_false_or_eq_true (decide (0 ≤ n) && decide (n ≤ n_7)) with h_9 | h_9
  · have h_9d := h_9
    simp only [Bool.and_eq_true, Bool.and_eq_false_iff, decide_eq_true_eq, decide_eq_false_iff_not] at h_9d
    obtain ⟨a, hat⟩ : ∃ a : Nat, n = ((a : Nat) : Int) := ⟨n.toNat, by omega⟩
    obtain ⟨Z, hZ⟩ : ∃ Z : Nat, n_7 = ((Z : Nat) : Int) := ⟨n_7.toNat, by omega⟩
    refine jQ (cB (cN h_9)) <| jU <| jB <| jD <| jF <| jA (jC (v := nv a) (congrArg (Value.int .i64) hat)) <| jA (PO.quoN (c := ((a / 8 : Nat) : Int)) rfl rfl (by omega) (by omega) (by omega) (wr (by omega))) <| jA (jG (v := iv ((a / 8 : Nat) : Int)) rfl) <| jE <| jB ?_
    refine jD <| jD <| jF <| jA (jC (v := nv a) (congrArg (Value.int .i64) hat)) <| jA (PO.remN (c := ((a % 8 : Nat) : Int)) rfl rfl (by omega) (by omega) (by omega)) <| jA (kS rfl rfl) <| jE <| jB ?_
    by_cases h_10 : 0 < ((a % 8 : Nat) : Int)
    · refine jR (cB (dT h_10)) <| jD <| jF <| jA (jG (v := str []) rfl) <| jE <| jB <| jD <| jF <| jT (jP 4 x_5 m_6 rfl rfl) <| jA (jC (v := iv id) rfl) ?_
      refine jA (jC (v := iv ((a / 8 : Nat) : Int)) rfl) ?_
      refine jH rfl (jI [0, 0, 0] Tryz.call146 rfl (M_block x_5 m_6 k_4 (by omega) (by omega) id ((a / 8 : Nat) : Int) (by omega) (by omega)) rfl (fun _ _ => trivial)) ?_
      rintro _ _ ⟨_, ⟨x_13, m_14, u_15, e_11, k_12, f_16, rfl, rfl⟩, rfl⟩
      refine jA (jC (v := .tuple #[mv x_13 m_14, str u_15]) rfl) <| jA (jS (v := mv x_13 m_14) rfl rfl) <| jA (jS (v := str u_15) rfl rfl) ?_
      refine jH rfl (jW 4 x_13 m_14 rfl rfl rfl rfl) ?_
      rintro _ _ rfl
      refine jA (jG (v := str u_15) rfl) <| jE <| jB <| jD <| jq [mb b_1 x_13 m_14] 10 mixed (by simp) <| jl 0 rfl (jP 0 x_13 m_14 rfl rfl) <| jK 1 rfl (jC (v := iv id) rfl) <| jK 2 rfl (jC (v := iv ((a / 8 : Nat) : Int)) rfl) <| jK 3 rfl (jC (v := str u_15) rfl) <| jK 4 rfl (jC (v := nv a) (congrArg (Value.int .i64) hat)) ?_
      refine jK 5 rfl (PO.remN (c := ((a % 8 : Nat) : Int)) rfl rfl (by omega) (by omega) (by omega)) <| jK 6 rfl (jC (v := str u_15) rfl) <| jK 7 rfl (kJ kY rfl) <| jL (i := 8) ?_
      refine jO rfl rfl (jI [] Tryz.call148 rfl (N_brought (a % 8) u_15.length) rfl (fun _ _ => trivial)) ?_
      rintro _ _ ⟨_, ⟨rfl, rfl⟩, rfl⟩
      refine ⟨(by simp), ?_⟩
      refine jK 9 rfl (PO.sliceSh (j := (min (a % 8) u_15.length)) kY rfl rfl (by omega)) <| jL (i := 10) ?_
      refine jo rfl (jI [0, 0, 0] Tryz.call147 rfl (M_layBlock x_13 m_14 k_12 (by omega) (by omega) id ((a / 8 : Nat) : Int) (u_15.take (min (a % 8) u_15.length)) (by omega) (by omega) (by first | omega | (simp only [LE]; omega))) rfl (fun _ _ => trivial)) ?_
      rintro _ _ ⟨_, ⟨x_23, m_24, e_21, k_22, rfl, rfl⟩, rfl⟩
      refine jL (i := 11) ?_
      refine jp rfl (jW 4 x_23 m_24 rfl rfl rfl rfl) ?_
      rintro _ _ rfl
      refine jB <| jF <| jA (jC (v := iv ((a / 8 : Nat) : Int)) rfl) <| jA (jg (c := (((a / 8) + 1 : Nat) : Int)) rfl rfl (wr (by omega))) <| jA (jG (v := iv (((a / 8) + 1 : Nat) : Int)) rfl) <| jE <| jB <| jD <| jm <| kE (fun k_ e_ L_ => ∃ p_ : Nat, ∃ x1 : MA, ∃ mm : MS, (mm.ok (S + 1) (T + 4 + p_)) ∧ (p_ ≤ 126) ∧ (MS.cutL id Z (130 - p_) p_ mm = MS.cutL id Z (130 - ((a / 8) + 1)) ((a / 8) + 1) m_24) ∧ e_ 1 = iv id ∧ e_ 2 = nv a ∧ e_ 3 = .pointer (some ⟨b_1, 0, none⟩) ∧ e_ 6 = .pointer (some ⟨b_2, 0, none⟩) ∧ e_ 7 = iv 0 ∧ e_ 8 = nv Z ∧ e_ 9 = nv p_ ∧ L_ = [rC x1.a0 x1.c0 mm.s, rS x1.a1 x1.c1 mm.r, rS x1.a2 x1.c2 mm.w, bk b_2 35 zC, mb b_1 x1 mm] ∧ k_ = 130 - p_) _ ⟨((a / 8) + 1), x_23, m_24, (k_22.mono (by omega) (by omega)), (by omega), rfl, rfl, (congrArg (Value.int .i64) hat), rfl, rfl, rfl, (congrArg (Value.int .i64) hZ), rfl, rfl, rfl⟩ ?_
      rintro _ e_25 _ ⟨p_, x1, mm, hkmm, hp0, hR, he_26, he_27, he_28, he_29, he_30, he_31, he_32, rfl, rfl⟩
      refine jD <| jD <| jF <| jA (jC (v := nv p_) he_32) <| jA (PO.mul (c := ((p_ * 8 : Nat) : Int)) rfl rfl (wr (by omega))) <| jA (jC (v := nv Z) he_31) <| jA (js rfl rfl) <| jE <| jB ?_
      by_cases h_33 : ((p_ * 8 : Nat) : Int) < ((Z : Nat) : Int)
      · refine jR (cB (dT h_33)) <| jU <| jB <| jm <| jD <| jq [mb b_1 x1 mm] 4 mixed (by simp) <| jl 0 rfl (jP 0 x1 mm rfl he_28) <| jK 1 rfl (jC (v := iv id) he_26) <| jK 2 rfl (jC (v := nv p_) he_32) <| jL (i := 3) ?_
        refine jO rfl rfl (jI [] Tryz.call149 rfl (N_l07Block id ((p_ : Nat) : Int) (by omega) (by omega)) rfl (fun _ _ => trivial)) ?_
        rintro _ _ ⟨_, ⟨u_40, e_38, f_41, rfl, rfl⟩, rfl⟩
        refine ⟨(by simp), ?_⟩
        refine jL (i := 4) ?_
        refine jo rfl (jI [0, 0, 0] Tryz.call92 rfl (N_sLayNil x1 mm hkmm (by omega) (by omega) u_40 (by omega)) rfl (fun _ _ => trivial)) ?_
        rintro _ _ ⟨_, ⟨x_48, m_49, e_46, k_47, rfl, rfl⟩, rfl⟩
        refine jL (i := 5) ?_
        refine jp rfl (jW 4 x_48 m_49 rfl he_28 rfl rfl) ?_
        rintro _ _ rfl
        refine jB <| jF <| jA (jC (v := nv p_) he_32) <| jA (jg (c := ((p_ + 1 : Nat) : Int)) rfl rfl (wr (by omega))) <| jA (jG (v := iv ((p_ + 1 : Nat) : Int)) rfl) <| jE <| jk <| jr [0, 0, 0, 0, 0] (A := [rC x_48.a0 x_48.c0 m_49.s, rS x_48.a1 x_48.c1 m_49.r, rS x_48.a2 x_48.c2 m_49.w, bk b_2 35 zC, mb b_1 x_48 m_49]) rfl ?_
        refine jt (130 - (p_ + 1)) (by omega) ⟨(p_ + 1), x_48, m_49, (k_47.mono (by omega) (by omega)), (by omega), (by rw [show 130 - p_ = (130 - (p_ + 1)) + 1 by omega, MS.cutL, if_pos (by omega)] at hR; simp only [MS.blockKey, e_3, e_11, e_21, e_38, e_46] at hR; exact hR), he_26, he_27, he_28, he_29, he_30, he_31, rfl, rfl, rfl⟩
      rw [MS.cutL_stop (by omega)] at hR
      have hRE := hR.symm
      refine jQ (cB (dF h_33)) <| kB <| jn <| jn <| kC <| jB <| jD <| jq [mb b_1 x1 mm] 4 mixed (by simp) <| jl 0 rfl (jP 0 x1 mm rfl he_28) <| jK 1 rfl (jC (v := iv id) he_26) ?_
      refine jK 3 rfl (jC (v := nv a) he_27) <| jL (i := 2) ?_
      refine jO rfl rfl (jI [] Tryz.call91 rfl (N_sKeyNum [105, 47] id [47, 115] (show List.length ([105, 47] : Str) ≤ 2 by decide) (by omega) (show List.length ([47, 115] : Str) ≤ 2 by decide) (by omega)) rfl (fun _ _ => trivial)) ?_
      rintro _ _ ⟨_, ⟨u_60, e_58, f_61, rfl, rfl⟩, rfl⟩
      refine ⟨(by simp), ?_⟩
      refine jL (i := 4) ?_
      refine jo rfl (jI [0, 0, 0] Tryz.call90 rfl (N_sSetNum x1 mm hkmm (by omega) (by omega) u_60 ((a : Nat) : Int) (by omega) (by omega)) rfl (fun _ _ => trivial)) ?_
      rintro _ _ ⟨_, ⟨x_68, m_69, e_66, k_67, rfl, rfl⟩, rfl⟩
      refine jL (i := 5) ?_
      refine jo rfl (jW 3 x_68 m_69 rfl he_29 rfl rfl) ?_
      rintro _ _ rfl
      refine jK 6 rfl (jG (v := iv 0) rfl) <| kG (by kernel_rfl) <| jB <| jM <| jj (.inl rfl) rfl (je (jP 3 x_68 m_69 rfl he_29) ⟨_, he_29⟩) (jN (v := iv 0) rfl) (tS 3 _) ?_
      exact ⟨x_68, m_69, 0, (by simp only [MS.cutFile, Int.toNat_natCast, true_or, or_true, false_or, or_false, MS.blockKey, e_3, h_9, hat, hZ, h_10, e_11, e_21, h_33, hRE, e_58, e_66, SB]; (repeat (first | rw [if_pos (by omega)] | rw [if_neg (by omega)])); all_goals (first | rfl | simp only [SB, e_3, h_9, hat, hZ, h_10, e_11, e_21, h_33, hRE, e_58, e_66])), (k_67.mono (by omega) (by omega)), (by first | omega | (simp only [LE]; omega)), rfl, rfl⟩
    refine jQ (cB (dF h_10)) <| jU <| jB <| jD <| jm <| kE (fun k_ e_ L_ => ∃ p_ : Nat, ∃ x1 : MA, ∃ mm : MS, (mm.ok (S + 1) (T + 4 + p_)) ∧ (p_ ≤ 126) ∧ (MS.cutL id Z (130 - p_) p_ mm = MS.cutL id Z (130 - (a / 8)) (a / 8) m_6) ∧ e_ 1 = iv id ∧ e_ 2 = nv a ∧ e_ 3 = .pointer (some ⟨b_1, 0, none⟩) ∧ e_ 6 = .pointer (some ⟨b_2, 0, none⟩) ∧ e_ 7 = iv 0 ∧ e_ 8 = nv Z ∧ e_ 9 = nv p_ ∧ L_ = [rC x1.a0 x1.c0 mm.s, rS x1.a1 x1.c1 mm.r, rS x1.a2 x1.c2 mm.w, bk b_2 35 zC, mb b_1 x1 mm] ∧ k_ = 130 - p_) _ ⟨(a / 8), x_5, m_6, (k_4.mono (by omega) (by omega)), (by omega), rfl, rfl, (congrArg (Value.int .i64) hat), rfl, rfl, rfl, (congrArg (Value.int .i64) hZ), rfl, rfl, rfl⟩ ?_
    rintro _ e_70 _ ⟨p_, x1, mm, hkmm, hp0, hR, he_71, he_72, he_73, he_74, he_75, he_76, he_77, rfl, rfl⟩
    refine jD <| jD <| jF <| jA (jC (v := nv p_) he_77) <| jA (PO.mul (c := ((p_ * 8 : Nat) : Int)) rfl rfl (wr (by omega))) <| jA (jC (v := nv Z) he_76) <| jA (js rfl rfl) <| jE <| jB ?_
    by_cases h_78 : ((p_ * 8 : Nat) : Int) < ((Z : Nat) : Int)
    · refine jR (cB (dT h_78)) <| jU <| jB <| jm <| jD <| jq [mb b_1 x1 mm] 4 mixed (by simp) <| jl 0 rfl (jP 0 x1 mm rfl he_73) <| jK 1 rfl (jC (v := iv id) he_71) <| jK 2 rfl (jC (v := nv p_) he_77) <| jL (i := 3) ?_
      refine jO rfl rfl (jI [] Tryz.call149 rfl (N_l07Block id ((p_ : Nat) : Int) (by omega) (by omega)) rfl (fun _ _ => trivial)) ?_
      rintro _ _ ⟨_, ⟨u_85, e_83, f_86, rfl, rfl⟩, rfl⟩
      refine ⟨(by simp), ?_⟩
      refine jL (i := 4) ?_
      refine jo rfl (jI [0, 0, 0] Tryz.call92 rfl (N_sLayNil x1 mm hkmm (by omega) (by omega) u_85 (by omega)) rfl (fun _ _ => trivial)) ?_
      rintro _ _ ⟨_, ⟨x_93, m_94, e_91, k_92, rfl, rfl⟩, rfl⟩
      refine jL (i := 5) ?_
      refine jp rfl (jW 4 x_93 m_94 rfl he_73 rfl rfl) ?_
      rintro _ _ rfl
      refine jB <| jF <| jA (jC (v := nv p_) he_77) <| jA (jg (c := ((p_ + 1 : Nat) : Int)) rfl rfl (wr (by omega))) <| jA (jG (v := iv ((p_ + 1 : Nat) : Int)) rfl) <| jE <| jk <| jr [0, 0, 0, 0, 0] (A := [rC x_93.a0 x_93.c0 m_94.s, rS x_93.a1 x_93.c1 m_94.r, rS x_93.a2 x_93.c2 m_94.w, bk b_2 35 zC, mb b_1 x_93 m_94]) rfl ?_
      refine jt (130 - (p_ + 1)) (by omega) ⟨(p_ + 1), x_93, m_94, (k_92.mono (by omega) (by omega)), (by omega), (by rw [show 130 - p_ = (130 - (p_ + 1)) + 1 by omega, MS.cutL, if_pos (by omega)] at hR; simp only [MS.blockKey, e_3, e_83, e_91] at hR; exact hR), he_71, he_72, he_73, he_74, he_75, he_76, rfl, rfl, rfl⟩
    rw [MS.cutL_stop (by omega)] at hR
    have hRE := hR.symm
    refine jQ (cB (dF h_78)) <| kB <| jn <| jn <| kC <| jB <| jD <| jq [mb b_1 x1 mm] 4 mixed (by simp) <| jl 0 rfl (jP 0 x1 mm rfl he_73) <| jK 1 rfl (jC (v := iv id) he_71) ?_
    refine jK 3 rfl (jC (v := nv a) he_72) <| jL (i := 2) ?_
    refine jO rfl rfl (jI [] Tryz.call91 rfl (N_sKeyNum [105, 47] id [47, 115] (show List.length ([105, 47] : Str) ≤ 2 by decide) (by omega) (show List.length ([47, 115] : Str) ≤ 2 by decide) (by omega)) rfl (fun _ _ => trivial)) ?_
    rintro _ _ ⟨_, ⟨u_105, e_103, f_106, rfl, rfl⟩, rfl⟩
    refine ⟨(by simp), ?_⟩
    refine jL (i := 4) ?_
    refine jo rfl (jI [0, 0, 0] Tryz.call90 rfl (N_sSetNum x1 mm hkmm (by omega) (by omega) u_105 ((a : Nat) : Int) (by omega) (by omega)) rfl (fun _ _ => trivial)) ?_
    rintro _ _ ⟨_, ⟨x_113, m_114, e_111, k_112, rfl, rfl⟩, rfl⟩
    refine jL (i := 5) ?_
    refine jo rfl (jW 3 x_113 m_114 rfl he_74 rfl rfl) ?_
    rintro _ _ rfl
    refine jK 6 rfl (jG (v := iv 0) rfl) <| kG (by kernel_rfl) <| jB <| jM <| jj (.inl rfl) rfl (je (jP 3 x_113 m_114 rfl he_74) ⟨_, he_74⟩) (jN (v := iv 0) rfl) (tS 3 _) ?_
    exact ⟨x_113, m_114, 0, (by simp only [MS.cutFile, Int.toNat_natCast, true_or, or_true, false_or, or_false, MS.blockKey, e_3, h_9, hat, hZ, h_10, h_78, hRE, e_103, e_111, SB]; (repeat (first | rw [if_pos (by omega)] | rw [if_neg (by omega)])); all_goals (first | rfl | simp only [SB, e_3, h_9, hat, hZ, h_10, h_78, hRE, e_103, e_111])), (k_112.mono (by omega) (by omega)), (by first | omega | (simp only [LE]; omega)), rfl, rfl⟩
  have h_9d := h_9
  simp only [Bool.and_eq_true, Bool.and_eq_false_iff, decide_eq_true_eq, decide_eq_false_iff_not] at h_9d
  refine jR (cB (cN h_9)) <| jD <| jF <| jT (jP 4 x_5 m_6 rfl rfl) ?_
  refine jH rfl (jW 3 x_5 m_6 rfl rfl rfl rfl) ?_
  rintro _ _ rfl
  refine jA (jG (v := iv 4) rfl) <| jE <| jB <| jM <| jX <| jj (.inl rfl) rfl (je (jP 3 x_5 m_6 rfl rfl) ⟨_, rfl⟩) (jN (v := iv 4) rfl) (tS 3 _) ?_
  exact ⟨x_5, m_6, 4, (by simp only [MS.cutFile, Int.toNat_natCast, true_or, or_true, false_or, or_false, MS.blockKey, e_3, h_9, SB]; (repeat (first | rw [if_pos (by omega)] | rw [if_neg (by omega)])); all_goals (first | rfl | simp only [SB, e_3, h_9])), (k_4.mono (by omega) (by omega)), (by first | omega | (simp only [LE]; omega)), rfl, rfl⟩

end Go.Proofs.YthdgcbdfcclgbaaGreatDoor
