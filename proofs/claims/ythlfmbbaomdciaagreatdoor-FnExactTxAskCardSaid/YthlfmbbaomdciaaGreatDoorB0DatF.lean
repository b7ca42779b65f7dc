/-
Texts of the walk, joined: what each one proves stands at its theorems.
-/
import Derived.Test.YthlfmbbaomdciaaGreatDoorB0S18HEX
set_option linter.unusedSimpArgs false
set_option linter.unusedVariables false
set_option linter.unnecessarySimpa false
set_option maxHeartbeats 4000000
set_option maxRecDepth 4000
namespace Go.Proofs.YthlfmbbaomdciaaGreatDoor
open Go Go.RowKit
attribute [local irreducible] JL JC JQ JO LO PO JA JX Ct
theorem N_message (p : Nat) (x : MA) (m : MS) {S T : Nat} (hk : m.ok S T) (hS : S ≤ 700000000) (hT : T ≤ 1650000000) (key : Str) :
   Ct Tryz.prog 305 [.pointer (some ⟨p, 0, none⟩), str key] (mb p x m :: mr x m) (fun w => HexOk w) (fun v A' => ∃ x' m' r0, MS.message m key = (m', r0) ∧ m'.ok (S) (T + 1) ∧ r0.length ≤ 20000 ∧ v = str r0 ∧ A' = mb p x' m' :: mr x' m') := by
 refine Ct.introL Tryz.func305 rfl Tryz.ntmps305 (lb rfl) fun w0 hpre hlow => ?_
 refine go ?_
 refine jA [0, 0, 0, 0] (N_look p x m hk (by omega) (by omega) key) ?_
 rintro _ _ ⟨x_3, m_4, u_5, e_1, k_2, f_6, rfl, rfl⟩
 refine jA [] (N_messageOf u_5 (by omega)) (hpre := fun w hw => hw.hex hlow hpre) ?_
 rintro _ _ ⟨u_9, e_7, f_10, rfl, rfl⟩
 refine go ?_
 refine jE (.inl rfl) rfl (jC (v := str u_9) rfl) (List.Sublist.refl _) ?_
 exact ⟨x_3, m_4, u_9, (by simp only [MS.message, e_1, e_7, SB]; (repeat (first | rw [if_pos (by omega)] | rw [if_neg (by omega)])); all_goals (first | rfl | simp only [SB, e_1, e_7])), (k_2.mono (by omega) (by omega)), (by first | omega | (simp only [LE]; omega)), rfl, rfl⟩

theorem N_putOut (p : Nat) (x : MA) (m : MS) {S T : Nat} (hk : m.ok S T) (hS : S ≤ 300000000) (hT : T ≤ 1250000000) (text : Str) (htext : text.length ≤ 1000000000000) :
   Ct Tryz.prog 228 [.pointer (some ⟨p, 0, none⟩), str text] (mb p x m :: mr x m) (fun _ => True) (fun v A' => ∃ x' m' r0, MS.putOut m text = (m', r0) ∧ m'.ok (S + 2) (T + 3) ∧ (0 ≤ r0 ∧ r0 ≤ 9) ∧ v = .int .i64 r0 ∧ A' = mb p x' m' :: mr x' m') := by
 refine Ct.intro Tryz.func228 rfl Tryz.ntmps228 (lb rfl) fun w0 hpre => ?_
 refine go ?_
 refine jN [] (C_within (text.length : Int) 1 20) ?_
 refine go ?_
 rcases Bool.eq_false_or_eq_true (decide (1 ≤ (text.length : Int)) && decide ((text.length : Int) ≤ 20)) with h_1 | h_1
 · have h_1d := h_1
   simp only [Bool.and_eq_true, Bool.and_eq_false_iff, decide_eq_true_eq, decide_eq_false_iff_not] at h_1d
   refine go ?_
   refine jA [0, 0, 0, 0] (N_num p x m hk (by omega) (by omega) [100, 47, 110]) ?_
   rintro _ _ ⟨x_4, m_5, n_6, e_2, k_3, f_7, rfl, rfl⟩
   refine go ?_
   by_cases h_8 : 40 ≤ n_6
   · refine go ?_
     refine jE (.inl rfl) rfl (jC (v := iv 3) rfl) (List.Sublist.refl _) ?_
     exact ⟨x_4, m_5, 3, (by simp only [MS.putOut, h_1, e_2, h_8, SB]; (repeat (first | rw [if_pos (by omega)] | rw [if_neg (by omega)])); all_goals (first | rfl | simp only [SB, h_1, e_2, h_8])), (k_3.mono (by omega) (by omega)), (by first | omega | (simp only [LE]; omega)), rfl, rfl⟩
   refine go ?_
   refine jA [0, 0, 0, 0] (N_setNum p x_4 m_5 k_3 (by omega) (by omega) [100, 47, 110] (n_6 + 1) (by decide) (by omega)) ?_
   rintro _ _ ⟨x_11, m_12, e_9, k_10, rfl, rfl⟩
   refine go ?_
   refine jA [] (N_keyNum [100, 47] (n_6 + 1) [] (show List.length ([100, 47] : Str) ≤ 2 by decide) (by omega) (show List.length ([] : Str) ≤ 0 by decide) (by omega)) ?_
   rintro _ _ ⟨u_15, e_13, f_16, rfl, rfl⟩
   refine go ?_
   refine jA [] (N_hexOf text (by omega)) ?_
   rintro _ _ ⟨u_19, e_17, f_20, rfl, rfl⟩
   refine go ?_
   refine jA [0, 0, 0, 0] (N_lay p x_11 m_12 k_10 (by omega) (by omega) u_15 ([45] ++ u_19) (by omega)) ?_
   rintro _ _ ⟨x_23, m_24, e_21, k_22, rfl, rfl⟩
   refine go ?_
   refine jE (.inl rfl) rfl (jC (v := iv 0) rfl) (List.Sublist.refl _) ?_
   exact ⟨x_23, m_24, 0, (by simp only [MS.putOut, h_1, e_2, h_8, e_9, e_13, e_17, e_21, SB]; (repeat (first | rw [if_pos (by omega)] | rw [if_neg (by omega)])); all_goals (first | rfl | simp only [SB, h_1, e_2, h_8, e_9, e_13, e_17, e_21])), (k_22.mono (by omega) (by omega)), (by first | omega | (simp only [LE]; omega)), rfl, rfl⟩
 have h_1d := h_1
 simp only [Bool.and_eq_true, Bool.and_eq_false_iff, decide_eq_true_eq, decide_eq_false_iff_not] at h_1d
 refine go ?_
 refine jE (.inl rfl) rfl (jC (v := iv 4) rfl) (List.Sublist.refl _) ?_
 exact ⟨x, m, 4, (by simp only [MS.putOut, h_1, SB]; (repeat (first | rw [if_pos (by omega)] | rw [if_neg (by omega)])); all_goals (first | rfl | simp only [SB, h_1])), (hk.mono (by omega) (by omega)), (by first | omega | (simp only [LE]; omega)), rfl, rfl⟩

theorem M_putOut (x : MA) (m : MS) {S T : Nat} (hk : m.ok S T) (hS : S ≤ 300000000) (hT : T ≤ 1250000000) (text : Str) (htext : text.length ≤ 1000000000000) :
   Ct Tryz.prog 246 [mv x m, str text] (mr x m) (fun _ => True) (fun v A' => ∃ x' m' r0, MS.putOut m text = (m', r0) ∧ m'.ok (S + 2) (T + 3) ∧ (0 ≤ r0 ∧ r0 ≤ 9) ∧ v = .tuple #[mv x' m', .int .i64 r0] ∧ A' = mr x' m') := by
 refine Ct.intro Tryz.func246 rfl Tryz.ntmps246 (lb rfl) fun w0 hpre => ?_
 refine go ?_
 refine jM (mc x m) fun b_1 => ?_
 refine jG zC fun b_2 => ?_
 refine go ?_
 by_cases h_3 : text = []
 · have h_3l : text.length = 0 := by rw [h_3]; rfl
   refine go ?_
   refine jD 0 (mc x m) ?_
   refine go ?_
   exact jQ [2, 2, 2] ⟨x, m, 4, (by simp only [MS.putOut, hexS_P, h_3, SB]; (repeat (first | rw [if_pos (by omega)] | rw [if_neg (by omega)])); all_goals (first | rfl | simp only [SB, h_3])), (hk.mono (by omega) (by omega)), (by first | omega | (simp only [LE]; omega)), rfl, rfl⟩
 have h_3l := List.length_pos_iff.2 h_3
 refine go ?_
 by_cases h_4 : 20 < (text.length : Int)
 · refine go ?_
   refine jD 0 (mc x m) ?_
   refine go ?_
   exact jQ [2, 2, 2] ⟨x, m, 4, (by simp only [MS.putOut, hexS_P, h_3, h_4, SB]; (repeat (first | rw [if_pos (by omega)] | rw [if_neg (by omega)])); all_goals (first | rfl | simp only [SB, h_3, h_4])), (hk.mono (by omega) (by omega)), (by first | omega | (simp only [LE]; omega)), rfl, rfl⟩
 refine go ?_
 refine jA [2, 2, 2] (N_sNumAt x m hk (by omega) (by omega) [100, 47, 110]) ?_
 rintro _ _ ⟨x_7, m_8, n_9, e_5, k_6, f_10, rfl, rfl⟩
 refine go ?_
 refine jD 4 (mc x_7 m_8) ?_
 refine go ?_
 by_cases h_11 : 40 ≤ n_9
 · refine go ?_
   refine jD 3 (mc x_7 m_8) ?_
   refine go ?_
   exact jQ [0, 0, 0] ⟨x_7, m_8, 3, (by simp only [MS.putOut, hexS_P, h_3, h_4, e_5, h_11, SB]; (repeat (first | rw [if_pos (by omega)] | rw [if_neg (by omega)])); all_goals (first | rfl | simp only [SB, h_3, h_4, e_5, h_11])), (k_6.mono (by omega) (by omega)), (by first | omega | (simp only [LE]; omega)), rfl, rfl⟩
 refine go ?_
 refine jA [] (N_sHex text (by omega)) ?_
 rintro _ _ ⟨u_14, b_16, e_12, f_15, rfl, rfl⟩
 refine go ?_
 refine jA [0, 0, 0] (N_sSetNum x_7 m_8 k_6 (by omega) (by omega) [100, 47, 110] (n_9 + 1) (by decide) (by omega)) ?_
 rintro _ _ ⟨x_19, m_20, e_17, k_18, rfl, rfl⟩
 refine jD 4 (mc x_19 m_20) ?_
 refine go ?_
 refine jH [4] 6 ?_
 refine go ?_
 refine jB (i := 3) ?_
 refine jI [] (N_sKeyNum [100, 47] (n_9 + 1) [] (show List.length ([100, 47] : Str) ≤ 2 by decide) (by omega) (show List.length ([] : Str) ≤ 0 by decide) (by omega)) ?_
 rintro _ _ ⟨u_35, e_33, f_36, rfl, rfl⟩
 refine jB (i := 6) ?_
 refine kE [0, 0, 0] (N_sLay x_19 m_20 k_18 (by omega) (by omega) u_35 ([45] ++ u_14) (by omega)) ?_
 rintro _ _ ⟨x_43, m_44, e_41, k_42, rfl, rfl⟩
 refine jB (i := 7) ?_
 refine jf 3 (mc x_43 m_44) ?_
 refine go ?_
 exact jQ [0, 0, 0] ⟨x_43, m_44, 0, (by simp only [MS.putOut, hexS_P, h_3, h_4, e_5, h_11, e_12, e_17, e_33, e_41, SB]; (repeat (first | rw [if_pos (by omega)] | rw [if_neg (by omega)])); all_goals (first | rfl | simp only [SB, h_3, h_4, e_5, h_11, e_12, e_17, e_33, e_41])), (k_42.mono (by omega) (by omega)), (by first | omega | (simp only [LE]; omega)), rfl, rfl⟩

theorem N_putPipe (p : Nat) (x : MA) (m : MS) {S T : Nat} (hk : m.ok S T) (hS : S ≤ 300000000) (hT : T ≤ 1250000000) (id : Int) (text : Str) (hid : -9223372036854775808 ≤ id ∧ id ≤ 9223372036854775807) (htext : text.length ≤ 1000000000000) :
   Ct Tryz.prog 215 [.pointer (some ⟨p, 0, none⟩), .int .i64 id, str text] (mb p x m :: mr x m) (fun _ => True) (fun v A' => ∃ x' m' r0, MS.putPipe m id text = (m', r0) ∧ m'.ok (S + 2) (T + 5) ∧ (0 ≤ r0 ∧ r0 ≤ 9) ∧ v = .int .i64 r0 ∧ A' = mb p x' m' :: mr x' m') := by
 refine Ct.intro Tryz.func215 rfl Tryz.ntmps215 (lb rfl) fun w0 hpre => ?_
 refine go ?_
 refine jA [0, 0, 0, 0] (N_isPipe p x m hk (by omega) (by omega) id (by omega)) ?_
 rintro _ _ ⟨x_3, m_4, b_5, e_1, k_2, rfl, rfl⟩
 refine go ?_
 rcases Bool.eq_false_or_eq_true (b_5) with h_6 | h_6
 · refine go ?_
   by_cases h_7 : 20 < (text.length : Int)
   · refine go ?_
     refine jE (.inl rfl) rfl (jC (v := iv 4) rfl) (List.Sublist.refl _) ?_
     exact ⟨x_3, m_4, 4, (by simp only [MS.putPipe, e_1, h_6, h_7, SB]; (repeat (first | rw [if_pos (by omega)] | rw [if_neg (by omega)])); all_goals (first | rfl | simp only [SB, e_1, h_6, h_7])), (k_2.mono (by omega) (by omega)), (by first | omega | (simp only [LE]; omega)), rfl, rfl⟩
   refine go ?_
   refine jA [] (N_pipeKey id [47, 116] (by omega) (show List.length ([47, 116] : Str) ≤ 2 by decide) (by omega)) ?_
   rintro _ _ ⟨u_10, e_8, f_11, rfl, rfl⟩
   refine jA [0, 0, 0, 0] (N_num p x_3 m_4 k_2 (by omega) (by omega) u_10) ?_
   rintro _ _ ⟨x_14, m_15, n_16, e_12, k_13, f_17, rfl, rfl⟩
   refine go ?_
   refine jA [] (N_pipeKey id [47, 104] (by omega) (show List.length ([47, 104] : Str) ≤ 2 by decide) (by omega)) ?_
   rintro _ _ ⟨u_20, e_18, f_21, rfl, rfl⟩
   refine jA [0, 0, 0, 0] (N_num p x_14 m_15 k_13 (by omega) (by omega) u_20) ?_
   rintro _ _ ⟨x_24, m_25, n_26, e_22, k_23, f_27, rfl, rfl⟩
   refine go ?_
   refine jK (jg (c := n_16 - n_26) rfl rfl (wr (by omega))) ?_
   refine go ?_
   by_cases h_28 : 4 ≤ (n_16 - n_26)
   · refine go ?_
     refine jE (.inl rfl) rfl (jC (v := iv 5) rfl) (List.Sublist.refl _) ?_
     exact ⟨x_24, m_25, 5, (by simp only [MS.putPipe, e_1, h_6, h_7, e_8, e_12, e_18, e_22, h_28, SB]; (repeat (first | rw [if_pos (by omega)] | rw [if_neg (by omega)])); all_goals (first | rfl | simp only [SB, e_1, h_6, h_7, e_8, e_12, e_18, e_22, h_28])), (k_23.mono (by omega) (by omega)), (by first | omega | (simp only [LE]; omega)), rfl, rfl⟩
   refine go ?_
   by_cases h_29 : 999 ≤ n_16
   · refine go ?_
     refine jE (.inl rfl) rfl (jC (v := iv 3) rfl) (List.Sublist.refl _) ?_
     exact ⟨x_24, m_25, 3, (by simp only [MS.putPipe, e_1, h_6, h_7, e_8, e_12, e_18, e_22, h_28, h_29, SB]; (repeat (first | rw [if_pos (by omega)] | rw [if_neg (by omega)])); all_goals (first | rfl | simp only [SB, e_1, h_6, h_7, e_8, e_12, e_18, e_22, h_28, h_29])), (k_23.mono (by omega) (by omega)), (by first | omega | (simp only [LE]; omega)), rfl, rfl⟩
   refine go ?_
   refine jA [] (N_pipeKey id [47, 116] (by omega) (show List.length ([47, 116] : Str) ≤ 2 by decide) (by omega)) ?_
   rintro _ _ ⟨u_32, e_30, f_33, rfl, rfl⟩
   have hqe_30 := e_8.symm.trans e_30
   subst hqe_30
   refine go ?_
   refine jA [0, 0, 0, 0] (N_setNum p x_24 m_25 k_23 (by omega) (by omega) u_10 (n_16 + 1) (by omega) (by omega)) ?_
   rintro _ _ ⟨x_36, m_37, e_34, k_35, rfl, rfl⟩
   refine go ?_
   refine jA [] (N_pipeKey id [47, 113, 47] (by omega) (show List.length ([47, 113, 47] : Str) ≤ 3 by decide) (by omega)) ?_
   rintro _ _ ⟨u_40, e_38, f_41, rfl, rfl⟩
   refine go ?_
   refine jA [] (N_keyNum u_40 (n_16 + 1) [] (Nat.le_refl _) (by omega) (show List.length ([] : Str) ≤ 0 by decide) (by omega)) ?_
   rintro _ _ ⟨u_44, e_42, f_45, rfl, rfl⟩
   refine go ?_
   refine jA [] (N_hexOf text (by omega)) ?_
   rintro _ _ ⟨u_48, e_46, f_49, rfl, rfl⟩
   refine go ?_
   refine jA [0, 0, 0, 0] (N_lay p x_36 m_37 k_35 (by omega) (by omega) u_44 ([45] ++ u_48) (by omega)) ?_
   rintro _ _ ⟨x_52, m_53, e_50, k_51, rfl, rfl⟩
   refine go ?_
   refine jE (.inl rfl) rfl (jC (v := iv 0) rfl) (List.Sublist.refl _) ?_
   exact ⟨x_52, m_53, 0, (by simp only [MS.putPipe, e_1, h_6, h_7, e_8, e_12, e_18, e_22, h_28, h_29, e_34, e_38, e_42, e_46, e_50, SB]; (repeat (first | rw [if_pos (by omega)] | rw [if_neg (by omega)])); all_goals (first | rfl | simp only [SB, e_1, h_6, h_7, e_8, e_12, e_18, e_22, h_28, h_29, e_34, e_38, e_42, e_46, e_50])), (k_51.mono (by omega) (by omega)), (by first | omega | (simp only [LE]; omega)), rfl, rfl⟩
 refine go ?_
 refine jE (.inl rfl) rfl (jC (v := iv 2) rfl) (List.Sublist.refl _) ?_
 exact ⟨x_3, m_4, 2, (by simp only [MS.putPipe, e_1, h_6, SB]; (repeat (first | rw [if_pos (by omega)] | rw [if_neg (by omega)])); all_goals (first | rfl | simp only [SB, e_1, h_6])), (k_2.mono (by omega) (by omega)), (by first | omega | (simp only [LE]; omega)), rfl, rfl⟩

theorem M_putPipe (x : MA) (m : MS) {S T : Nat} (hk : m.ok S T) (hS : S ≤ 300000000) (hT : T ≤ 1250000000) (id : Int) (text : Str) (hid : -9223372036854775808 ≤ id ∧ id ≤ 9223372036854775807) (htext : text.length ≤ 1000000000000) :
   Ct Tryz.prog 238 [mv x m, .int .i64 id, str text] (mr x m) (fun _ => True) (fun v A' => ∃ x' m' r0, MS.putPipe m id text = (m', r0) ∧ m'.ok (S + 2) (T + 5) ∧ (0 ≤ r0 ∧ r0 ≤ 9) ∧ v = .tuple #[mv x' m', .int .i64 r0] ∧ A' = mr x' m') := by
 refine Ct.intro Tryz.func238 rfl Tryz.ntmps238 (lb rfl) fun w0 hpre => ?_
 refine go ?_
 refine jM (mc x m) fun b_1 => ?_
 refine jG zC fun b_2 => ?_
 refine go ?_
 refine jA [2, 2, 2] (M_isPipe x m hk (by omega) (by omega) id (by omega)) ?_
 rintro _ _ ⟨x_5, m_6, b_7, e_3, k_4, rfl, rfl⟩
 refine go ?_
 refine jD 4 (mc x_5 m_6) ?_
 refine go ?_
 rcases Bool.eq_false_or_eq_true (b_7) with h_8 | h_8
 · refine go ?_
   by_cases h_9 : 20 < (text.length : Int)
   · refine go ?_
     refine jD 3 (mc x_5 m_6) ?_
     refine go ?_
     exact jQ [0, 0, 0] ⟨x_5, m_6, 4, (by simp only [MS.putPipe, hexS_P, e_3, h_8, h_9, SB]; (repeat (first | rw [if_pos (by omega)] | rw [if_neg (by omega)])); all_goals (first | rfl | simp only [SB, e_3, h_8, h_9])), (k_4.mono (by omega) (by omega)), (by first | omega | (simp only [LE]; omega)), rfl, rfl⟩
   refine go ?_
   refine jH [4] 7 ?_
   refine go ?_
   refine jB (i := 2) ?_
   refine jI [] (N_l08Key id [47, 116] (by omega) (show List.length ([47, 116] : Str) ≤ 2 by decide) (by omega)) ?_
   rintro _ _ ⟨u_16, e_14, f_17, rfl, rfl⟩
   refine jB (i := 3) ?_
   refine jI [0, 0, 0] (N_sNumAt x_5 m_6 k_4 (by omega) (by omega) u_16) ?_
   rintro _ _ ⟨x_26, m_27, n_28, e_24, k_25, f_29, rfl, rfl⟩
   refine go ?_
   refine jB (i := 7) ?_
   refine jf 4 (mc x_26 m_27) ?_
   refine go ?_
   refine jH [4] 7 ?_
   refine go ?_
   refine jB (i := 2) ?_
   refine jI [] (N_l08Key id [47, 104] (by omega) (show List.length ([47, 104] : Str) ≤ 2 by decide) (by omega)) ?_
   rintro _ _ ⟨u_36, e_34, f_37, rfl, rfl⟩
   refine jB (i := 3) ?_
   refine jI [0, 0, 0] (N_sNumAt x_26 m_27 k_25 (by omega) (by omega) u_36) ?_
   rintro _ _ ⟨x_46, m_47, n_48, e_44, k_45, f_49, rfl, rfl⟩
   refine go ?_
   refine jB (i := 7) ?_
   refine jf 4 (mc x_46 m_47) ?_
   refine go ?_
   refine jK (jg (c := n_28 - n_48) rfl rfl (wr (by omega))) ?_
   refine go ?_
   by_cases h_50 : 4 ≤ (n_28 - n_48)
   · refine go ?_
     refine jD 3 (mc x_46 m_47) ?_
     refine go ?_
     exact jQ [0, 0, 0] ⟨x_46, m_47, 5, (by simp only [MS.putPipe, hexS_P, e_3, h_8, h_9, e_14, e_24, e_34, e_44, h_50, SB]; (repeat (first | rw [if_pos (by omega)] | rw [if_neg (by omega)])); all_goals (first | rfl | simp only [SB, e_3, h_8, h_9, e_14, e_24, e_34, e_44, h_50])), (k_45.mono (by omega) (by omega)), (by first | omega | (simp only [LE]; omega)), rfl, rfl⟩
   refine go ?_
   by_cases h_51 : 999 ≤ n_28
   · refine go ?_
     refine jD 3 (mc x_46 m_47) ?_
     refine go ?_
     exact jQ [0, 0, 0] ⟨x_46, m_47, 3, (by simp only [MS.putPipe, hexS_P, e_3, h_8, h_9, e_14, e_24, e_34, e_44, h_50, h_51, SB]; (repeat (first | rw [if_pos (by omega)] | rw [if_neg (by omega)])); all_goals (first | rfl | simp only [SB, e_3, h_8, h_9, e_14, e_24, e_34, e_44, h_50, h_51])), (k_45.mono (by omega) (by omega)), (by first | omega | (simp only [LE]; omega)), rfl, rfl⟩
   refine go ?_
   refine jA [] (N_sHex text (by omega)) ?_
   rintro _ _ ⟨u_54, b_56, e_52, f_55, rfl, rfl⟩
   refine go ?_
   refine jH [4] 5 ?_
   refine go ?_
   refine jB (i := 2) ?_
   refine ja rfl rfl (jO [] Tryz.call318 rfl (N_l08Key id [47, 116] (by omega) (show List.length ([47, 116] : Str) ≤ 2 by decide) (by omega)) rfl (fun _ _ => trivial)) ?_
   rintro _ _ ⟨_, ⟨u_71, e_69, f_72, rfl, rfl⟩, rfl⟩
   have hqe_69 := e_14.symm.trans e_69
   subst hqe_69
   refine ⟨all_go, ?_⟩
   refine jB (i := 5) ?_
   refine kE [0, 0, 0] (N_sSetNum x_46 m_47 k_45 (by omega) (by omega) u_16 (n_28 + 1) (by omega) (by omega)) ?_
   rintro _ _ ⟨x_79, m_80, e_77, k_78, rfl, rfl⟩
   refine jB (i := 6) ?_
   refine jS 4 (mc x_79 m_80) ?_
   refine go ?_
   refine jH [4] 7 ?_
   refine go ?_
   refine jB (i := 4) ?_
   refine jI [] (N_l08Message id (n_28 + 1) (by omega) (by omega)) ?_
   rintro _ _ ⟨u_95, e_93, f_96, rfl, rfl⟩
   refine jB (i := 7) ?_
   refine kE [0, 0, 0] (N_sLay x_79 m_80 k_78 (by omega) (by omega) u_95 ([45] ++ u_54) (by omega)) ?_
   rintro _ _ ⟨x_103, m_104, e_101, k_102, rfl, rfl⟩
   refine jB (i := 8) ?_
   refine jf 3 (mc x_103 m_104) ?_
   refine go ?_
   exact jQ [0, 0, 0] ⟨x_103, m_104, 0, (by simp only [MS.putPipe, hexS_P, e_3, h_8, h_9, e_14, e_24, e_34, e_44, h_50, h_51, e_52, e_77, e_93, e_101, SB]; (repeat (first | rw [if_pos (by omega)] | rw [if_neg (by omega)])); all_goals (first | rfl | simp only [SB, e_3, h_8, h_9, e_14, e_24, e_34, e_44, h_50, h_51, e_52, e_77, e_93, e_101])), (k_102.mono (by omega) (by omega)), (by first | omega | (simp only [LE]; omega)), rfl, rfl⟩
 refine go ?_
 refine jD 3 (mc x_5 m_6) ?_
 refine go ?_
 exact jQ [0, 0, 0] ⟨x_5, m_6, 2, (by simp only [MS.putPipe, hexS_P, e_3, h_8, SB]; (repeat (first | rw [if_pos (by omega)] | rw [if_neg (by omega)])); all_goals (first | rfl | simp only [SB, e_3, h_8])), (k_4.mono (by omega) (by omega)), (by first | omega | (simp only [LE]; omega)), rfl, rfl⟩

theorem N_takePipe (p : Nat) (x : MA) (m : MS) {S T : Nat} (hk : m.ok S T) (hS : S ≤ 300000000) (hT : T ≤ 1250000000) (id : Int) (hid : -9223372036854775808 ≤ id ∧ id ≤ 9223372036854775807) :
   Ct Tryz.prog 216 [.pointer (some ⟨p, 0, none⟩), .int .i64 id] (mb p x m :: mr x m) (fun w => HexOk w) (fun v A' => ∃ x' m' r0 r1, MS.takePipe m id = (m', r0, r1) ∧ m'.ok (S + 1) (T + 6) ∧ r0.length ≤ 20000 ∧ (0 ≤ r1 ∧ r1 ≤ 9) ∧ v = .tuple #[str r0, .int .i64 r1] ∧ A' = mb p x' m' :: mr x' m') := by
 refine Ct.introL Tryz.func216 rfl Tryz.ntmps216 (lb rfl) fun w0 hpre hlow => ?_
 refine go ?_
 refine jA [0, 0, 0, 0] (N_isPipe p x m hk (by omega) (by omega) id (by omega)) ?_
 rintro _ _ ⟨x_3, m_4, b_5, e_1, k_2, rfl, rfl⟩
 refine go ?_
 rcases Bool.eq_false_or_eq_true (b_5) with h_6 | h_6
 · refine go ?_
   refine jA [] (N_pipeKey id [47, 104] (by omega) (show List.length ([47, 104] : Str) ≤ 2 by decide) (by omega)) ?_
   rintro _ _ ⟨u_9, e_7, f_10, rfl, rfl⟩
   refine jA [0, 0, 0, 0] (N_num p x_3 m_4 k_2 (by omega) (by omega) u_9) ?_
   rintro _ _ ⟨x_13, m_14, n_15, e_11, k_12, f_16, rfl, rfl⟩
   refine go ?_
   refine jA [] (N_pipeKey id [47, 116] (by omega) (show List.length ([47, 116] : Str) ≤ 2 by decide) (by omega)) ?_
   rintro _ _ ⟨u_19, e_17, f_20, rfl, rfl⟩
   refine jA [0, 0, 0, 0] (N_num p x_13 m_14 k_12 (by omega) (by omega) u_19) ?_
   rintro _ _ ⟨x_23, m_24, n_25, e_21, k_22, f_26, rfl, rfl⟩
   refine go ?_
   by_cases h_27 : n_25 = n_15
   · refine go ?_
     refine ji (.inl rfl) rfl (jC (v := str []) rfl) (jC (v := iv 5) rfl) (List.Sublist.refl _) ?_
     exact ⟨x_23, m_24, [], 5, (by simp only [MS.takePipe, e_1, h_6, e_7, e_11, e_17, e_21, h_27, SB]; (repeat (first | rw [if_pos (by omega)] | rw [if_neg (by omega)])); all_goals (first | rfl | simp only [SB, e_1, h_6, e_7, e_11, e_17, e_21, h_27])), (k_22.mono (by omega) (by omega)), (by first | omega | (simp only [LE]; omega)), (by first | omega | (simp only [LE]; omega)), rfl, rfl⟩
   refine go ?_
   refine jA [] (N_pipeKey id [47, 113, 47] (by omega) (show List.length ([47, 113, 47] : Str) ≤ 3 by decide) (by omega)) ?_
   rintro _ _ ⟨u_30, e_28, f_31, rfl, rfl⟩
   refine go ?_
   refine jA [] (N_keyNum u_30 (n_15 + 1) [] (Nat.le_refl _) (by omega) (show List.length ([] : Str) ≤ 0 by decide) (by omega)) ?_
   rintro _ _ ⟨u_34, e_32, f_35, rfl, rfl⟩
   refine go ?_
   refine jA [0, 0, 0, 0] (N_message p x_23 m_24 k_22 (by omega) (by omega) u_34) (hpre := fun w hw => hw.hex hlow hpre) ?_
   rintro _ _ ⟨x_38, m_39, u_40, e_36, k_37, f_41, rfl, rfl⟩
   refine go ?_
   refine jA [0, 0, 0, 0] (N_layNil p x_38 m_39 k_37 (by omega) (by omega) u_34 (by omega)) ?_
   rintro _ _ ⟨x_44, m_45, e_42, k_43, rfl, rfl⟩
   refine go ?_
   refine jA [] (N_pipeKey id [47, 104] (by omega) (show List.length ([47, 104] : Str) ≤ 2 by decide) (by omega)) ?_
   rintro _ _ ⟨u_48, e_46, f_49, rfl, rfl⟩
   have hqe_46 := e_7.symm.trans e_46
   subst hqe_46
   refine go ?_
   refine jA [0, 0, 0, 0] (N_setNum p x_44 m_45 k_43 (by omega) (by omega) u_9 (n_15 + 1) (by omega) (by omega)) ?_
   rintro _ _ ⟨x_52, m_53, e_50, k_51, rfl, rfl⟩
   refine go ?_
   refine ji (.inl rfl) rfl (jC (v := str u_40) rfl) (jC (v := iv 0) rfl) (List.Sublist.refl _) ?_
   exact ⟨x_52, m_53, u_40, 0, (by simp only [MS.takePipe, e_1, h_6, e_7, e_11, e_17, e_21, h_27, e_28, e_32, e_36, e_42, e_50, SB]; (repeat (first | rw [if_pos (by omega)] | rw [if_neg (by omega)])); all_goals (first | rfl | simp only [SB, e_1, h_6, e_7, e_11, e_17, e_21, h_27, e_28, e_32, e_36, e_42, e_50])), (k_51.mono (by omega) (by omega)), (by first | omega | (simp only [LE]; omega)), (by first | omega | (simp only [LE]; omega)), rfl, rfl⟩
 refine go ?_
 refine ji (.inl rfl) rfl (jC (v := str []) rfl) (jC (v := iv 2) rfl) (List.Sublist.refl _) ?_
 exact ⟨x_3, m_4, [], 2, (by simp only [MS.takePipe, e_1, h_6, SB]; (repeat (first | rw [if_pos (by omega)] | rw [if_neg (by omega)])); all_goals (first | rfl | simp only [SB, e_1, h_6])), (k_2.mono (by omega) (by omega)), (by first | omega | (simp only [LE]; omega)), (by first | omega | (simp only [LE]; omega)), rfl, rfl⟩

theorem M_takePipe (x : MA) (m : MS) {S T : Nat} (hk : m.ok S T) (hS : S ≤ 300000000) (hT : T ≤ 1250000000) (id : Int) (hid : -9223372036854775808 ≤ id ∧ id ≤ 9223372036854775807) :
   Ct Tryz.prog 239 [mv x m, .int .i64 id] (mr x m) (fun _ => True) (fun v A' => ∃ x' m' r0 r1, MS.takePipe m id = (m', r0, r1) ∧ m'.ok (S + 1) (T + 6) ∧ r0.length ≤ 20000 ∧ (0 ≤ r1 ∧ r1 ≤ 9) ∧ v = .tuple #[mv x' m', str r0, .int .i64 r1] ∧ A' = mr x' m') := by
 refine Ct.intro Tryz.func239 rfl Tryz.ntmps239 (lb rfl) fun w0 hpre => ?_
 refine go ?_
 refine jM (mc x m) fun b_1 => ?_
 refine jG zC fun b_2 => ?_
 refine go ?_
 refine jA [2, 2, 2] (M_isPipe x m hk (by omega) (by omega) id (by omega)) ?_
 rintro _ _ ⟨x_5, m_6, b_7, e_3, k_4, rfl, rfl⟩
 refine go ?_
 refine jD 4 (mc x_5 m_6) ?_
 refine go ?_
 rcases Bool.eq_false_or_eq_true (b_7) with h_8 | h_8
 · refine go ?_
   refine jH [4] 7 ?_
   refine go ?_
   refine jB (i := 2) ?_
   refine jI [] (N_l08Key id [47, 104] (by omega) (show List.length ([47, 104] : Str) ≤ 2 by decide) (by omega)) ?_
   rintro _ _ ⟨u_15, e_13, f_16, rfl, rfl⟩
   refine jB (i := 3) ?_
   refine jI [0, 0, 0] (N_sNumAt x_5 m_6 k_4 (by omega) (by omega) u_15) ?_
   rintro _ _ ⟨x_25, m_26, n_27, e_23, k_24, f_28, rfl, rfl⟩
   refine go ?_
   refine jB (i := 7) ?_
   refine jf 4 (mc x_25 m_26) ?_
   refine go ?_
   refine jH [4] 7 ?_
   refine go ?_
   refine jB (i := 2) ?_
   refine jI [] (N_l08Key id [47, 116] (by omega) (show List.length ([47, 116] : Str) ≤ 2 by decide) (by omega)) ?_
   rintro _ _ ⟨u_35, e_33, f_36, rfl, rfl⟩
   refine jB (i := 3) ?_
   refine jI [0, 0, 0] (N_sNumAt x_25 m_26 k_24 (by omega) (by omega) u_35) ?_
   rintro _ _ ⟨x_45, m_46, n_47, e_43, k_44, f_48, rfl, rfl⟩
   refine go ?_
   refine jB (i := 7) ?_
   refine jf 4 (mc x_45 m_46) ?_
   refine go ?_
   by_cases h_49 : n_27 = n_47
   · refine go ?_
     refine jD 3 (mc x_45 m_46) ?_
     refine go ?_
     exact jt [0, 0, 0] ⟨x_45, m_46, [], 5, (by simp only [MS.takePipe, MS.message, e_3, h_8, e_13, e_23, e_33, e_43, h_49, SB]; (repeat (first | rw [if_pos (by omega)] | rw [if_neg (by omega)])); all_goals (first | rfl | simp only [SB, e_3, h_8, e_13, e_23, e_33, e_43, h_49])), (k_44.mono (by omega) (by omega)), (by first | omega | (simp only [LE]; omega)), (by first | omega | (simp only [LE]; omega)), rfl, rfl⟩
   refine go ?_
   refine jH [4] 9 ?_
   refine go ?_
   refine jB (i := 4) ?_
   refine jI [] (N_l08Message id (n_27 + 1) (by omega) (by omega)) ?_
   rintro _ _ ⟨u_56, e_54, f_57, rfl, rfl⟩
   refine jB (i := 5) ?_
   refine jI [0, 0, 0] (N_sLook x_45 m_46 k_44 (by omega) (by omega) u_56) ?_
   rintro _ _ ⟨x_66, m_67, u_68, e_64, k_65, f_69, rfl, rfl⟩
   refine go ?_
   refine jB (i := 9) ?_
   refine jf 4 (mc x_66 m_67) ?_
   refine gQ ?_
   refine JA.done (by kernel_rfl) <| jT <| jc <| jy ?_
   refine gQ ?_
   refine jb <| jT <| jc ?_
   refine JC.cut (fun e_ L_ => EL e_ [(1, iv id), (2, .pointer (some ⟨b_1, 0, none⟩)), (4, .pointer (some ⟨b_2, 0, none⟩)), (5, str []), (6, iv 0), (8, iv n_27), (11, str (messageOf u_68))] ∧ L_ = [rC x_66.a0 x_66.c0 m_67.s, rS x_66.a1 x_66.c1 m_67.r, rS x_66.a2 x_66.c2 m_67.w, bk b_2 60 zC, mb b_1 x_66 m_67]) ?_ ?_
   · refine go ?_
     by_cases h_70 : u_68 = []
     · have hm := messageOf_nil h_70
       refine go ?_
       exact jh [0, 0, 0, 0, 0] ⟨(EL.cons rfl <| EL.cons rfl <| EL.cons rfl <| EL.cons rfl <| EL.cons rfl <| EL.cons rfl <| EL.cons (congrArg str hm.symm) <| EL.go), rfl⟩
     have h_70l := List.length_pos_iff.2 h_70
     refine go ?_
     have hu_71 := UInt8.toNat_lt (u_68.getD 0 0)
     refine go ?_
     by_cases h_72 : ((u_68.getD 0 0).toNat : Int) = 45
     · have hm_73 := messageOf_one h_70 h_72
       refine go ?_
       refine jK (PO.sliceSl (i := 1) kO rfl rfl (by omega)) ?_
       refine jA [] (N_sUnhex (u_68.drop 1) (by first | omega | (simp only [LE]; omega))) ?_
       rintro _ _ ⟨u_76, b_78, e_74, f_77, rfl, rfl⟩
       refine go ?_
       exact jh [0, 0, 0, 0, 0] ⟨(EL.cons rfl <| EL.cons rfl <| EL.cons rfl <| EL.cons rfl <| EL.cons rfl <| EL.cons rfl <| EL.cons (congrArg str (hm_73.trans (congrArg Prod.fst e_74)).symm) <| EL.go), rfl⟩
     have hm_79 := messageOf_no h_72
     refine go ?_
     exact jh [0, 0, 0, 0, 0] ⟨(EL.cons rfl <| EL.cons rfl <| EL.cons rfl <| EL.cons rfl <| EL.cons rfl <| EL.cons rfl <| EL.cons (congrArg str hm_79.symm) <| EL.go), rfl⟩
   rintro _ _ ⟨⟨_, rfl⟩, rfl⟩
   have hml := messageOf_len u_68
   refine go ?_
   refine jH [4] 5 ?_
   refine go ?_
   refine jB (i := 4) ?_
   refine ja rfl rfl (jO [] Tryz.call320 rfl (N_l08Message id (n_27 + 1) (by omega) (by omega)) rfl (fun _ _ => trivial)) ?_
   rintro _ _ ⟨_, ⟨u_86, e_84, f_87, rfl, rfl⟩, rfl⟩
   have hqe_84 := e_54.symm.trans e_84
   subst hqe_84
   refine ⟨all_go, ?_⟩
   refine jB (i := 5) ?_
   refine kE [0, 0, 0] (N_sLayNil x_66 m_67 k_65 (by omega) (by omega) u_56 (by omega)) ?_
   rintro _ _ ⟨x_94, m_95, e_92, k_93, rfl, rfl⟩
   refine jB (i := 6) ?_
   refine jS 4 (mc x_94 m_95) ?_
   refine go ?_
   refine jH [4] 7 ?_
   refine go ?_
   refine jB (i := 2) ?_
   refine ja rfl rfl (jO [] Tryz.call318 rfl (N_l08Key id [47, 104] (by omega) (show List.length ([47, 104] : Str) ≤ 2 by decide) (by omega)) rfl (fun _ _ => trivial)) ?_
   rintro _ _ ⟨_, ⟨u_114, e_112, f_115, rfl, rfl⟩, rfl⟩
   have hqe_112 := e_13.symm.trans e_112
   subst hqe_112
   refine ⟨all_go, ?_⟩
   refine jB (i := 5) ?_
   refine jI [0, 0, 0] (N_sSetNum x_94 m_95 k_93 (by omega) (by omega) u_15 (n_27 + 1) (by omega) (by omega)) ?_
   rintro _ _ ⟨x_122, m_123, e_120, k_121, rfl, rfl⟩
   refine jB (i := 7) ?_
   refine jf 3 (mc x_122 m_123) ?_
   refine go ?_
   exact jt [0, 0, 0] ⟨x_122, m_123, (messageOf u_68), 0, (by simp only [MS.takePipe, MS.message, e_3, h_8, e_13, e_23, e_33, e_43, h_49, e_54, e_64, e_92, e_120, SB]; (repeat (first | rw [if_pos (by omega)] | rw [if_neg (by omega)])); all_goals (first | rfl | simp only [SB, e_3, h_8, e_13, e_23, e_33, e_43, h_49, e_54, e_64, e_92, e_120])), (k_121.mono (by omega) (by omega)), (by first | omega | (simp only [LE]; omega)), (by first | omega | (simp only [LE]; omega)), rfl, rfl⟩
 refine go ?_
 refine jD 3 (mc x_5 m_6) ?_
 refine go ?_
 exact jt [0, 0, 0] ⟨x_5, m_6, [], 2, (by simp only [MS.takePipe, MS.message, e_3, h_8, SB]; (repeat (first | rw [if_pos (by omega)] | rw [if_neg (by omega)])); all_goals (first | rfl | simp only [SB, e_3, h_8])), (k_4.mono (by omega) (by omega)), (by first | omega | (simp only [LE]; omega)), (by first | omega | (simp only [LE]; omega)), rfl, rfl⟩

theorem N_storePage (p : Nat) (x : MA) (m : MS) {S T : Nat} (hk : m.ok S T) (hS : S ≤ 300000000) (hT : T ≤ 1250000000) (id : Int) (page : Int) (text : Str) (hid : -9223372036854775808 ≤ id ∧ id ≤ 9223372036854775807) (hpage : -9223372036854775808 ≤ page ∧ page ≤ 9223372036854775807) (htext : text.length ≤ 1000000000000) :
   Ct Tryz.prog 226 [.pointer (some ⟨p, 0, none⟩), .int .i64 id, .int .i64 page, str text] (mb p x m :: mr x m) (fun _ => True) (fun v A' => ∃ x' m' r0, MS.storePage m id page text = (m', r0) ∧ m'.ok (S + 1) (T + 1) ∧ (0 ≤ r0 ∧ r0 ≤ 9) ∧ v = .int .i64 r0 ∧ A' = mb p x' m' :: mr x' m') := by
 refine Ct.intro Tryz.func226 rfl Tryz.ntmps226 (lb rfl) fun w0 hpre => ?_
 refine go ?_
 refine jN [] (C_within page 0 3) ?_
 refine go ?_
 rcases Bool.eq_false_or_eq_true (decide (0 ≤ page) && decide (page ≤ 3)) with h_1 | h_1
 · have h_1d := h_1
   simp only [Bool.and_eq_true, Bool.and_eq_false_iff, decide_eq_true_eq, decide_eq_false_iff_not] at h_1d
   refine go ?_
   by_cases h_2 : 20 < (text.length : Int)
   · refine go ?_
     refine jE (.inl rfl) rfl (jC (v := iv 4) rfl) (List.Sublist.refl _) ?_
     exact ⟨x, m, 4, (by simp only [MS.storePage, h_1, h_2, SB]; (repeat (first | rw [if_pos (by omega)] | rw [if_neg (by omega)])); all_goals (first | rfl | simp only [SB, h_1, h_2])), (hk.mono (by omega) (by omega)), (by first | omega | (simp only [LE]; omega)), rfl, rfl⟩
   refine go ?_
   by_cases h_3 : text = []
   · have h_3l : text.length = 0 := by rw [h_3]; rfl
     refine go ?_
     refine jA [] (N_pagesKey id (by omega)) ?_
     rintro _ _ ⟨u_6, e_4, f_7, rfl, rfl⟩
     refine go ?_
     refine jA [] (N_keyNum u_6 page [] (Nat.le_refl _) (by omega) (show List.length ([] : Str) ≤ 0 by decide) (by omega)) ?_
     rintro _ _ ⟨u_10, e_8, f_11, rfl, rfl⟩
     refine go ?_
     refine jA [0, 0, 0, 0] (N_layNil p x m hk (by omega) (by omega) u_10 (by omega)) ?_
     rintro _ _ ⟨x_14, m_15, e_12, k_13, rfl, rfl⟩
     refine go ?_
     refine jE (.inl rfl) rfl (jC (v := iv 0) rfl) (List.Sublist.refl _) ?_
     exact ⟨x_14, m_15, 0, (by simp only [MS.storePage, h_1, h_2, h_3, e_4, e_8, e_12, SB]; (repeat (first | rw [if_pos (by omega)] | rw [if_neg (by omega)])); all_goals (first | rfl | simp only [SB, h_1, h_2, h_3, e_4, e_8, e_12])), (k_13.mono (by omega) (by omega)), (by first | omega | (simp only [LE]; omega)), rfl, rfl⟩
   have h_3l := List.length_pos_iff.2 h_3
   refine go ?_
   refine jA [] (N_hexOf text (by omega)) ?_
   rintro _ _ ⟨u_18, e_16, f_19, rfl, rfl⟩
   refine go ?_
   refine jA [] (N_pagesKey id (by omega)) ?_
   rintro _ _ ⟨u_22, e_20, f_23, rfl, rfl⟩
   refine go ?_
   refine jA [] (N_keyNum u_22 page [] (Nat.le_refl _) (by omega) (show List.length ([] : Str) ≤ 0 by decide) (by omega)) ?_
   rintro _ _ ⟨u_26, e_24, f_27, rfl, rfl⟩
   refine go ?_
   refine jA [0, 0, 0, 0] (N_lay p x m hk (by omega) (by omega) u_26 ([45] ++ u_18) (by omega)) ?_
   rintro _ _ ⟨x_30, m_31, e_28, k_29, rfl, rfl⟩
   refine go ?_
   refine jE (.inl rfl) rfl (jC (v := iv 0) rfl) (List.Sublist.refl _) ?_
   exact ⟨x_30, m_31, 0, (by simp only [MS.storePage, h_1, h_2, h_3, e_16, e_20, e_24, e_28, SB]; (repeat (first | rw [if_pos (by omega)] | rw [if_neg (by omega)])); all_goals (first | rfl | simp only [SB, h_1, h_2, h_3, e_16, e_20, e_24, e_28])), (k_29.mono (by omega) (by omega)), (by first | omega | (simp only [LE]; omega)), rfl, rfl⟩
 have h_1d := h_1
 simp only [Bool.and_eq_true, Bool.and_eq_false_iff, decide_eq_true_eq, decide_eq_false_iff_not] at h_1d
 refine go ?_
 refine jE (.inl rfl) rfl (jC (v := iv 4) rfl) (List.Sublist.refl _) ?_
 exact ⟨x, m, 4, (by simp only [MS.storePage, h_1, SB]; (repeat (first | rw [if_pos (by omega)] | rw [if_neg (by omega)])); all_goals (first | rfl | simp only [SB, h_1])), (hk.mono (by omega) (by omega)), (by first | omega | (simp only [LE]; omega)), rfl, rfl⟩

theorem M_storePage (x : MA) (m : MS) {S T : Nat} (hk : m.ok S T) (hS : S ≤ 300000000) (hT : T ≤ 1250000000) (id : Int) (page : Int) (text : Str) (hid : -9223372036854775808 ≤ id ∧ id ≤ 9223372036854775807) (hpage : -9223372036854775808 ≤ page ∧ page ≤ 9223372036854775807) (htext : text.length ≤ 1000000000000) :
   Ct Tryz.prog 244 [mv x m, .int .i64 id, .int .i64 page, str text] (mr x m) (fun _ => True) (fun v A' => ∃ x' m' r0, MS.storePage m id page text = (m', r0) ∧ m'.ok (S + 1) (T + 1) ∧ (0 ≤ r0 ∧ r0 ≤ 9) ∧ v = .tuple #[mv x' m', .int .i64 r0] ∧ A' = mr x' m') := by
 refine Ct.intro Tryz.func244 rfl Tryz.ntmps244 (lb rfl) fun w0 hpre => ?_
 refine go ?_
 refine jM (mc x m) fun b_1 => ?_
 refine jG zC fun b_2 => ?_
 refine go ?_
 refine jN [] (C_l01In page 0 3) ?_
 refine go ?_
 rcases Bool.eq_false_or_eq_true (decide (0 ≤ page) && decide (page ≤ 3)) with h_3 | h_3
 · have h_3d := h_3
   simp only [Bool.and_eq_true, Bool.and_eq_false_iff, decide_eq_true_eq, decide_eq_false_iff_not] at h_3d
   refine go ?_
   by_cases h_4 : 20 < (text.length : Int)
   · refine go ?_
     refine jD 0 (mc x m) ?_
     refine go ?_
     exact jQ [2, 2, 2] ⟨x, m, 4, (by simp only [MS.storePage, hexS_P, h_3, h_4, SB]; (repeat (first | rw [if_pos (by omega)] | rw [if_neg (by omega)])); all_goals (first | rfl | simp only [SB, h_3, h_4])), (hk.mono (by omega) (by omega)), (by first | omega | (simp only [LE]; omega)), rfl, rfl⟩
   refine go ?_
   by_cases h_5 : text = []
   · have h_5l : text.length = 0 := by rw [h_5]; rfl
     refine go ?_
     refine jH [1] 6 ?_
     refine go ?_
     refine jB (i := 2) ?_
     refine jI [] (N_l11Head id (by omega)) ?_
     rintro _ _ ⟨u_16, e_14, f_17, rfl, rfl⟩
     refine jB (i := 4) ?_
     refine jI [] (N_sKeyNum u_16 page [] (Nat.le_refl _) (by omega) (show List.length ([] : Str) ≤ 0 by decide) (by omega)) ?_
     rintro _ _ ⟨u_24, e_22, f_25, rfl, rfl⟩
     refine jB (i := 5) ?_
     refine jI [2, 2, 2] (N_sLayNil x m hk (by omega) (by omega) u_24 (by omega)) ?_
     rintro _ _ ⟨x_32, m_33, e_30, k_31, rfl, rfl⟩
     refine jB (i := 6) ?_
     refine jf 3 (mc x_32 m_33) ?_
     refine go ?_
     exact jQ [0, 0, 0] ⟨x_32, m_33, 0, (by simp only [MS.storePage, hexS_P, h_3, h_4, h_5, e_14, e_22, e_30, SB]; (repeat (first | rw [if_pos (by omega)] | rw [if_neg (by omega)])); all_goals (first | rfl | simp only [SB, h_3, h_4, h_5, e_14, e_22, e_30])), (k_31.mono (by omega) (by omega)), (by first | omega | (simp only [LE]; omega)), rfl, rfl⟩
   have h_5l := List.length_pos_iff.2 h_5
   refine go ?_
   refine jA [] (N_sHex text (by omega)) ?_
   rintro _ _ ⟨u_36, b_38, e_34, f_37, rfl, rfl⟩
   refine go ?_
   refine jH [1] 8 ?_
   refine go ?_
   refine jB (i := 2) ?_
   refine jI [] (N_l11Head id (by omega)) ?_
   rintro _ _ ⟨u_57, e_55, f_58, rfl, rfl⟩
   refine jB (i := 4) ?_
   refine jI [] (N_sKeyNum u_57 page [] (Nat.le_refl _) (by omega) (show List.length ([] : Str) ≤ 0 by decide) (by omega)) ?_
   rintro _ _ ⟨u_65, e_63, f_66, rfl, rfl⟩
   refine jB (i := 7) ?_
   refine jI [2, 2, 2] (N_sLay x m hk (by omega) (by omega) u_65 ([45] ++ u_36) (by omega)) ?_
   rintro _ _ ⟨x_73, m_74, e_71, k_72, rfl, rfl⟩
   refine jB (i := 8) ?_
   refine jf 3 (mc x_73 m_74) ?_
   refine go ?_
   exact jQ [0, 0, 0] ⟨x_73, m_74, 0, (by simp only [MS.storePage, hexS_P, h_3, h_4, h_5, e_34, e_55, e_63, e_71, SB]; (repeat (first | rw [if_pos (by omega)] | rw [if_neg (by omega)])); all_goals (first | rfl | simp only [SB, h_3, h_4, h_5, e_34, e_55, e_63, e_71])), (k_72.mono (by omega) (by omega)), (by first | omega | (simp only [LE]; omega)), rfl, rfl⟩
 have h_3d := h_3
 simp only [Bool.and_eq_true, Bool.and_eq_false_iff, decide_eq_true_eq, decide_eq_false_iff_not] at h_3d
 refine go ?_
 refine jD 0 (mc x m) ?_
 refine go ?_
 exact jQ [2, 2, 2] ⟨x, m, 4, (by simp only [MS.storePage, hexS_P, h_3, SB]; (repeat (first | rw [if_pos (by omega)] | rw [if_neg (by omega)])); all_goals (first | rfl | simp only [SB, h_3])), (hk.mono (by omega) (by omega)), (by first | omega | (simp only [LE]; omega)), rfl, rfl⟩

theorem N_loadPage (p : Nat) (x : MA) (m : MS) {S T : Nat} (hk : m.ok S T) (hS : S ≤ 300000000) (hT : T ≤ 1250000000) (id : Int) (page : Int) (hid : -9223372036854775808 ≤ id ∧ id ≤ 9223372036854775807) (hpage : -9223372036854775808 ≤ page ∧ page ≤ 9223372036854775807) :
   Ct Tryz.prog 227 [.pointer (some ⟨p, 0, none⟩), .int .i64 id, .int .i64 page] (mb p x m :: mr x m) (fun w => HexOk w) (fun v A' => ∃ x' m' r0 r1, MS.loadPage m id page = (m', r0, r1) ∧ m'.ok (S) (T + 1) ∧ r0.length ≤ 20000 ∧ (0 ≤ r1 ∧ r1 ≤ 9) ∧ v = .tuple #[str r0, .int .i64 r1] ∧ A' = mb p x' m' :: mr x' m') := by
 refine Ct.introL Tryz.func227 rfl Tryz.ntmps227 (lb rfl) fun w0 hpre hlow => ?_
 refine go ?_
 refine jN [] (C_within page 0 3) ?_
 refine go ?_
 rcases Bool.eq_false_or_eq_true (decide (0 ≤ page) && decide (page ≤ 3)) with h_1 | h_1
 · have h_1d := h_1
   simp only [Bool.and_eq_true, Bool.and_eq_false_iff, decide_eq_true_eq, decide_eq_false_iff_not] at h_1d
   refine go ?_
   refine jA [] (N_pagesKey id (by omega)) ?_
   rintro _ _ ⟨u_4, e_2, f_5, rfl, rfl⟩
   refine go ?_
   refine jA [] (N_keyNum u_4 page [] (Nat.le_refl _) (by omega) (show List.length ([] : Str) ≤ 0 by decide) (by omega)) ?_
   rintro _ _ ⟨u_8, e_6, f_9, rfl, rfl⟩
   refine jA [0, 0, 0, 0] (N_message p x m hk (by omega) (by omega) u_8) (hpre := fun w hw => hw.hex hlow hpre) ?_
   rintro _ _ ⟨x_12, m_13, u_14, e_10, k_11, f_15, rfl, rfl⟩
   refine go ?_
   refine ji (.inl rfl) rfl (jC (v := str u_14) rfl) (jC (v := iv 0) rfl) (List.Sublist.refl _) ?_
   exact ⟨x_12, m_13, u_14, 0, (by simp only [MS.loadPage, h_1, e_2, e_6, e_10, SB]; (repeat (first | rw [if_pos (by omega)] | rw [if_neg (by omega)])); all_goals (first | rfl | simp only [SB, h_1, e_2, e_6, e_10])), (k_11.mono (by omega) (by omega)), (by first | omega | (simp only [LE]; omega)), (by first | omega | (simp only [LE]; omega)), rfl, rfl⟩
 have h_1d := h_1
 simp only [Bool.and_eq_true, Bool.and_eq_false_iff, decide_eq_true_eq, decide_eq_false_iff_not] at h_1d
 refine go ?_
 refine ji (.inl rfl) rfl (jC (v := str []) rfl) (jC (v := iv 4) rfl) (List.Sublist.refl _) ?_
 exact ⟨x, m, [], 4, (by simp only [MS.loadPage, h_1, SB]; (repeat (first | rw [if_pos (by omega)] | rw [if_neg (by omega)])); all_goals (first | rfl | simp only [SB, h_1])), (hk.mono (by omega) (by omega)), (by first | omega | (simp only [LE]; omega)), (by first | omega | (simp only [LE]; omega)), rfl, rfl⟩

theorem M_loadPage (x : MA) (m : MS) {S T : Nat} (hk : m.ok S T) (hS : S ≤ 300000000) (hT : T ≤ 1250000000) (id : Int) (page : Int) (hid : -9223372036854775808 ≤ id ∧ id ≤ 9223372036854775807) (hpage : -9223372036854775808 ≤ page ∧ page ≤ 9223372036854775807) :
   Ct Tryz.prog 245 [mv x m, .int .i64 id, .int .i64 page] (mr x m) (fun _ => True) (fun v A' => ∃ x' m' r0 r1, MS.loadPage m id page = (m', r0, r1) ∧ m'.ok (S) (T + 1) ∧ r0.length ≤ 20000 ∧ (0 ≤ r1 ∧ r1 ≤ 9) ∧ v = .tuple #[mv x' m', str r0, .int .i64 r1] ∧ A' = mr x' m') := by
 refine Ct.intro Tryz.func245 rfl Tryz.ntmps245 (lb rfl) fun w0 hpre => ?_
 refine go ?_
 refine jM (mc x m) fun b_1 => ?_
 refine jG zC fun b_2 => ?_
 refine go ?_
 refine jN [] (C_l01In page 0 3) ?_
 refine go ?_
 rcases Bool.eq_false_or_eq_true (decide (0 ≤ page) && decide (page ≤ 3)) with h_3 | h_3
 · have h_3d := h_3
   simp only [Bool.and_eq_true, Bool.and_eq_false_iff, decide_eq_true_eq, decide_eq_false_iff_not] at h_3d
   refine go ?_
   refine jH [1] 9 ?_
   refine go ?_
   refine jB (i := 2) ?_
   refine jI [] (N_l11Head id (by omega)) ?_
   rintro _ _ ⟨u_14, e_12, f_15, rfl, rfl⟩
   refine jB (i := 4) ?_
   refine jI [] (N_sKeyNum u_14 page [] (Nat.le_refl _) (by omega) (show List.length ([] : Str) ≤ 0 by decide) (by omega)) ?_
   rintro _ _ ⟨u_22, e_20, f_23, rfl, rfl⟩
   refine jB (i := 5) ?_
   refine jI [2, 2, 2] (N_sLook x m hk (by omega) (by omega) u_22) ?_
   rintro _ _ ⟨x_32, m_33, u_34, e_30, k_31, f_35, rfl, rfl⟩
   refine go ?_
   refine jB (i := 9) ?_
   refine jf 4 (mc x_32 m_33) ?_
   refine gQ ?_
   refine JA.done (by kernel_rfl) <| jT <| jc <| jy ?_
   refine gQ ?_
   refine jb <| jT <| jc ?_
   refine JC.cut (fun e_ L_ => EL e_ [(3, .pointer (some ⟨b_1, 0, none⟩)), (6, .pointer (some ⟨b_2, 0, none⟩)), (7, str []), (8, iv 0), (10, str (messageOf u_34))] ∧ L_ = [rC x_32.a0 x_32.c0 m_33.s, rS x_32.a1 x_32.c1 m_33.r, rS x_32.a2 x_32.c2 m_33.w, bk b_2 60 zC, mb b_1 x_32 m_33]) ?_ ?_
   · refine go ?_
     by_cases h_36 : u_34 = []
     · have hm := messageOf_nil h_36
       refine go ?_
       exact jh [0, 0, 0, 0, 0] ⟨(EL.cons rfl <| EL.cons rfl <| EL.cons rfl <| EL.cons rfl <| EL.cons (congrArg str hm.symm) <| EL.go), rfl⟩
     have h_36l := List.length_pos_iff.2 h_36
     refine go ?_
     have hu_37 := UInt8.toNat_lt (u_34.getD 0 0)
     refine go ?_
     by_cases h_38 : ((u_34.getD 0 0).toNat : Int) = 45
     · have hm_39 := messageOf_one h_36 h_38
       refine go ?_
       refine jK (PO.sliceSl (i := 1) kO rfl rfl (by omega)) ?_
       refine jA [] (N_sUnhex (u_34.drop 1) (by first | omega | (simp only [LE]; omega))) ?_
       rintro _ _ ⟨u_42, b_44, e_40, f_43, rfl, rfl⟩
       refine go ?_
       exact jh [0, 0, 0, 0, 0] ⟨(EL.cons rfl <| EL.cons rfl <| EL.cons rfl <| EL.cons rfl <| EL.cons (congrArg str (hm_39.trans (congrArg Prod.fst e_40)).symm) <| EL.go), rfl⟩
     have hm_45 := messageOf_no h_38
     refine go ?_
     exact jh [0, 0, 0, 0, 0] ⟨(EL.cons rfl <| EL.cons rfl <| EL.cons rfl <| EL.cons rfl <| EL.cons (congrArg str hm_45.symm) <| EL.go), rfl⟩
   rintro _ _ ⟨⟨_, rfl⟩, rfl⟩
   have hml := messageOf_len u_34
   refine go ?_
   refine jD 3 (mc x_32 m_33) ?_
   refine go ?_
   exact jt [0, 0, 0] ⟨x_32, m_33, (messageOf u_34), 0, (by simp only [MS.loadPage, MS.message, h_3, e_12, e_20, e_30, SB]; (repeat (first | rw [if_pos (by omega)] | rw [if_neg (by omega)])); all_goals (first | rfl | simp only [SB, h_3, e_12, e_20, e_30])), (k_31.mono (by omega) (by omega)), (by first | omega | (simp only [LE]; omega)), (by first | omega | (simp only [LE]; omega)), rfl, rfl⟩
 have h_3d := h_3
 simp only [Bool.and_eq_true, Bool.and_eq_false_iff, decide_eq_true_eq, decide_eq_false_iff_not] at h_3d
 refine go ?_
 refine jD 0 (mc x m) ?_
 refine go ?_
 exact jt [2, 2, 2] ⟨x, m, [], 4, (by simp only [MS.loadPage, MS.message, h_3, SB]; (repeat (first | rw [if_pos (by omega)] | rw [if_neg (by omega)])); all_goals (first | rfl | simp only [SB, h_3])), (hk.mono (by omega) (by omega)), (by first | omega | (simp only [LE]; omega)), (by first | omega | (simp only [LE]; omega)), rfl, rfl⟩
end Go.Proofs.YthlfmbbaomdciaaGreatDoor
namespace Go.Proofs.YthlfmbbaomdciaaGreatDoor
open Go Go.RowKit
/-- What stands between two places. -/
def piece (b : Str) (lo hi : Nat) : Str := (b.drop lo).take (hi - lo)
theorem piece_nil {b : Str} {lo hi : Nat} (h : hi ≤ lo) : piece b lo hi = [] := by
 unfold piece
 rw [show hi - lo = 0 by omega]
 simp
theorem piece_yes {b : Str} {lo i e : Nat} (h1 : lo ≤ i) (h2 : i < e) (h3 : i < b.length) : piece b lo (min e (i + 1)) = piece b lo (min e i) ++ [b.getD i 0] := by
 unfold piece
 rw [show min e (i + 1) - lo = (i - lo) + 1 by omega, show min e i - lo = i - lo by omega]
 have : (b.drop lo)[i - lo]? = some (b.getD i 0) := by
   rw [List.getElem?_drop, show lo + (i - lo) = i by omega]
   exact getD_some h3
 rw [List.take_add_one, this]
 rfl
theorem piece_no {b : Str} {lo i e : Nat} (h : i < lo ∨ e ≤ i) : piece b lo (min e (i + 1)) = piece b lo (min e i) := by
 rcases h with h | h
 · rw [piece_nil (by omega), piece_nil (by omega)]
 · rw [show min e (i + 1) = min e i by omega]
/-- A byte put at a place, with noughts between. -/
def setPad (b : Str) (i : Nat) (c : UInt8) : Str := (b ++ List.replicate (i + 1 - b.length) 0).set i c
theorem pad_step {c : Str} {n : Nat} (h : c.length < n + 1) : (c ++ [0]) ++ List.replicate (n + 1 - (c.length + 1)) (0 : UInt8) = c ++ List.replicate (n + 1 - c.length) 0 := by
 rw [show n + 1 - c.length = (n + 1 - (c.length + 1)) + 1 by omega, List.replicate_succ]
 simp
def overTo (text : Str) (a f : Nat) (b : Str) : Nat → Str
 | 0 => b
 | k + 1 => setPad (overTo text a f b k) (a - f + k) (text.getD (f + (a - f + k) - a) 0)
theorem overTo_step {text b c d : Str} {a f j : Nat} (h : max a f ≤ j) (hc : c = overTo text a f b (j - max a f)) (hd : d = c ++ List.replicate (j - f + 1 - c.length) 0) :
   d.set (j - f) (text.getD (j - a) 0) = overTo text a f b (j + 1 - max a f) := by
 rw [show j + 1 - max a f = (j - max a f) + 1 by omega, overTo, ← hc, show a - f + (j - max a f) = j - f by omega, show f + (j - f) - a = j - a by omega, setPad, ← hd]
namespace MS
def blockKey (id : Int) (p : Nat) : Str := keyNum (keyNum ([105, 47] : Str) id ([47, 98, 47] : Str)) (p : Int) []
def readL (id : Int) (a e : Nat) : Nat → Nat → MS → Str → MS × Str
 | 0, _, m, out => (m, out)
 | k + 1, p, m, out => if p * 8 < e then
     match m.block id (p : Int) with
     | (m, b) => readL id a e k (p + 1) m (out ++ piece b (a - p * 8) (min (min (e - p * 8) 8) b.length))
   else (m, out)
theorem readL_stop {id : Int} {a e k p : Nat} {m : MS} {out : Str} (h : ¬ p * 8 < e) : readL id a e k p m out = (m, out) := by
 cases k with
 | zero => rfl
 | succ k => rw [readL, if_neg h]
def readFile (m : MS) (id at_ n : Int) : MS × Str :=
 match m.sizeOf id with
 | (m, size) => if at_ < 0 ∨ n < 1 ∨ size ≤ at_ then (m, []) else
   readL id at_.toNat (at_ + min n (size - at_)).toNat (130 - at_.toNat / 8) (at_.toNat / 8) m []
def writeL (id : Int) (text : Str) (a e : Nat) : Nat → Nat → MS → MS
 | 0, _, m => m
 | k + 1, p, m => if p * 8 < e then
     match m.block id (p : Int) with
     | (m, b) => writeL id text a e k (p + 1) (m.lay (blockKey id p) (hexS (overTo text a (p * 8) b (min e (p * 8 + 8) - max a (p * 8)))))
   else m
theorem writeL_stop {id : Int} {text : Str} {a e k p : Nat} {m : MS} (h : ¬ p * 8 < e) : writeL id text a e k p m = m := by
 cases k with
 | zero => rfl
 | succ k => rw [writeL, if_neg h]
def writeFile (m : MS) (id at_ : Int) (text : Str) : MS × Int :=
 match m.sizeOf id with
 | (m, size) => if at_ < 0 ∨ size < at_ ∨ (text.length : Int) = 0 then (m, 4) else
   if 64 < at_ + (text.length : Int) then (m, 3) else
   if size < at_ + (text.length : Int) then ((writeL id text at_.toNat (at_.toNat + text.length) (130 - at_.toNat / 8) (at_.toNat / 8) m).setNum (keyNum ([105, 47] : Str) id ([47, 115] : Str)) ((at_.toNat + text.length : Nat) : Int), 0)
   else (writeL id text at_.toNat (at_.toNat + text.length) (130 - at_.toNat / 8) (at_.toNat / 8) m, 0)
def cutL (id : Int) (z : Nat) : Nat → Nat → MS → MS
 | 0, _, m => m
 | k + 1, p, m => if p * 8 < z then cutL id z k (p + 1) (m.lay (blockKey id p) []) else m
theorem cutL_stop {id : Int} {z k p : Nat} {m : MS} (h : ¬ p * 8 < z) : cutL id z k p m = m := by
 cases k with
 | zero => rfl
 | succ k => rw [cutL, if_neg h]
def cutFile (m : MS) (id n : Int) : MS × Int :=
 match m.sizeOf id with
 | (m, size) => if n < 0 ∨ size < n then (m, 4) else
   if 0 < n.toNat % 8 then
     match m.block id ((n.toNat / 8 : Nat) : Int) with
     | (m, b) => ((cutL id size.toNat (130 - (n.toNat / 8 + 1)) (n.toNat / 8 + 1) (m.lay (blockKey id (n.toNat / 8)) (hexS (b.take (min (n.toNat % 8) b.length))))).setNum (keyNum ([105, 47] : Str) id ([47, 115] : Str)) n, 0)
   else ((cutL id size.toNat (130 - n.toNat / 8) (n.toNat / 8) m).setNum (keyNum ([105, 47] : Str) id ([47, 115] : Str)) n, 0)
end MS
end Go.Proofs.YthlfmbbaomdciaaGreatDoor
