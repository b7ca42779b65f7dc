/-
Texts of the walk, joined: what each one proves stands at its theorems.
-/
import Derived.Test.YthlfmbbaomdciaaGreatDoorB0S17NAMES
import Derived.Test.YthlfmbbaomdciaaGreatDoorB0S20FILES
import Derived.Test.YthlfmbbaomdciaaGreatDoorB0DatL
set_option linter.unusedSimpArgs false
set_option linter.unusedVariables false
set_option linter.unnecessarySimpa false
set_option maxHeartbeats 4000000
set_option maxRecDepth 4000
namespace Go.Proofs.YthlfmbbaomdciaaGreatDoor
open Go Go.RowKit
attribute [local irreducible] JL JC JQ JO LO PO JA JX Ct
theorem N_icallOk (c : CL) (hc : c.ok 1048576) :
   Ct Tryz.prog 207 [.agg #[.int .i64 c.kind, str c.name, str c.to_, .int .i64 c.a, .int .i64 c.b, str c.text]] ([]) (fun _ => True) (fun v A' => ∃ r0, callOk c = r0 ∧ v = .bool r0 ∧ A' = []) := by
 refine Ct.intro Tryz.func207 rfl Tryz.ntmps207 (lb rfl) fun w0 hpre => ?_
 obtain ⟨hc1, hc2, hc3, hc4, hc5, hc6⟩ := id hc
 refine go ?_
 refine jM [iv c.kind, str c.name, str c.to_, iv c.a, iv c.b, str c.text] fun b_1 => ?_
 refine go ?_
 refine jN [] (C_within c.kind 1 22) ?_
 refine go ?_
 rcases Bool.eq_false_or_eq_true (decide (1 ≤ c.kind) && decide (c.kind ≤ 22)) with h_2 | h_2
 · have h_2d := h_2
   simp only [Bool.and_eq_true, Bool.and_eq_false_iff, decide_eq_true_eq, decide_eq_false_iff_not] at h_2d
   refine go ?_
   by_cases h_3 : (c.name.length : Int) ≤ 20
   · refine go ?_
     by_cases h_4 : (c.to_.length : Int) ≤ 20
     · refine go ?_
       exact jJ [] ⟨(decide ((c.text.length : Int) ≤ 64)), (decide_eq_decide.2 (by omega)), rfl, rfl⟩
     refine go ?_
     exact jJ [] ⟨false, (dF (by omega)), rfl, rfl⟩
   refine go ?_
   exact jJ [] ⟨false, (dF (by omega)), rfl, rfl⟩
 have h_2d := h_2
 simp only [Bool.and_eq_true, Bool.and_eq_false_iff, decide_eq_true_eq, decide_eq_false_iff_not] at h_2d
 refine go ?_
 exact jJ [] ⟨false, (dF (by omega)), rfl, rfl⟩

theorem N_scallOk (c : CL) (hc : c.ok 1048576) :
   Ct Tryz.prog 230 [.agg #[.int .i64 c.kind, str c.name, str c.to_, .int .i64 c.a, .int .i64 c.b, str c.text]] ([]) (fun _ => True) (fun v A' => ∃ r0, callOk c = r0 ∧ v = .bool r0 ∧ A' = []) := by
 refine Ct.intro Tryz.func230 rfl Tryz.ntmps230 (lb rfl) fun w0 hpre => ?_
 obtain ⟨hc1, hc2, hc3, hc4, hc5, hc6⟩ := id hc
 refine go ?_
 refine jM [iv c.kind, str c.name, str c.to_, iv c.a, iv c.b, str c.text] fun b_1 => ?_
 refine go ?_
 refine jN [] (C_l01In c.kind 1 22) ?_
 refine go ?_
 rcases Bool.eq_false_or_eq_true (decide (1 ≤ c.kind) && decide (c.kind ≤ 22)) with h_2 | h_2
 · have h_2d := h_2
   simp only [Bool.and_eq_true, Bool.and_eq_false_iff, decide_eq_true_eq, decide_eq_false_iff_not] at h_2d
   refine go ?_
   by_cases h_3 : (c.name.length : Int) ≤ 20
   · refine go ?_
     by_cases h_4 : (c.to_.length : Int) ≤ 20
     · refine go ?_
       exact jJ [] ⟨(decide ((c.text.length : Int) ≤ 64)), (decide_eq_decide.2 (by omega)), rfl, rfl⟩
     refine go ?_
     exact jJ [] ⟨false, (dF (by omega)), rfl, rfl⟩
   refine go ?_
   exact jJ [] ⟨false, (dF (by omega)), rfl, rfl⟩
 have h_2d := h_2
 simp only [Bool.and_eq_true, Bool.and_eq_false_iff, decide_eq_true_eq, decide_eq_false_iff_not] at h_2d
 refine go ?_
 exact jJ [] ⟨false, (dF (by omega)), rfl, rfl⟩

theorem N_doFile (p : Nat) (x : MA) (m : MS) {S T : Nat} (hk : m.ok S T) (hS : S ≤ 28500000) (hT : T ≤ 1020000000) (c : CL) (hc : c.ok 1048576) :
   Ct Tryz.prog 213 [.pointer (some ⟨p, 0, none⟩), .agg #[.int .i64 c.kind, str c.name, str c.to_, .int .i64 c.a, .int .i64 c.b, str c.text]] (mb p x m :: mr x m) (fun w => HexOk w) (fun v A' => ∃ x' m' r0, MS.doFile m c = (m', r0) ∧ m'.ok (S + 12) (T + 141) ∧ ((0 ≤ r0.code ∧ r0.code ≤ 9) ∧ (-1 ≤ r0.n ∧ r0.n ≤ 1000000000) ∧ r0.text.length ≤ 30000000000000) ∧ v = .agg #[.int .i64 r0.code, .int .i64 r0.n, str r0.text] ∧ A' = mb p x' m' :: mr x' m') := by
 refine Ct.introL Tryz.func213 rfl Tryz.ntmps213 (lb rfl) fun w0 hpre hlow => ?_
 obtain ⟨hc1, hc2, hc3, hc4, hc5, hc6⟩ := id hc
 refine go ?_
 refine jM [iv c.kind, str c.name, str c.to_, iv c.a, iv c.b, str c.text] fun b_1 => ?_
 refine jG [iv 0, iv 0, str []] fun b_2 => ?_
 refine go ?_
 refine jA [2, 2, 2, 2] (N_fileOf p x m hk (by omega) (by omega) c.name (by omega)) ?_
 rintro _ _ ⟨x_5, m_6, n_7, e_3, k_4, f_8, rfl, rfl⟩
 refine go ?_
 by_cases h_9 : n_7 = 0
 · refine go ?_
   refine jK (je (ps := [(0, iv 2)]) (cs := [iv 2, iv 0, str []]) rfl (by kernel_rfl)) ?_
   refine jD 4 [iv 2, iv 0, str []] ?_
   refine go ?_
   exact jJ [0, 0, 0, 0] ⟨x_5, m_6, (⟨2, 0, []⟩ : AN), (by simp only [MS.doFile, e_3, h_9, SB]; (repeat (first | rw [if_pos (by omega)] | rw [if_neg (by omega)])); all_goals (first | rfl | simp only [SB, e_3, h_9])), (k_4.mono (by omega) (by omega)), (by (try dsimp only); (try simp only [List.length_nil]); omega), rfl, rfl⟩
 refine go ?_
 by_cases h_10 : c.kind = 6
 · refine go ?_
   refine jA [0, 0, 0, 0] (N_readFile p x_5 m_6 k_4 (by omega) (by omega) n_7 c.a c.b (by omega) (by omega) (by omega)) (hpre := fun w hw => hw.hex hlow hpre) ?_
   rintro _ _ ⟨x_13, m_14, u_15, e_11, k_12, f_16, rfl, rfl⟩
   refine jK (je (ps := [(2, str u_15)]) (cs := [iv 0, iv 0, str u_15]) rfl (by kernel_rfl)) ?_
   refine jD 4 [iv 0, iv 0, str u_15] ?_
   refine go ?_
   exact jJ [0, 0, 0, 0] ⟨x_13, m_14, (⟨0, 0, u_15⟩ : AN), (by simp only [MS.doFile, e_3, h_9, h_10, e_11, SB]; (repeat (first | rw [if_pos (by omega)] | rw [if_neg (by omega)])); all_goals (first | rfl | simp only [SB, e_3, h_9, h_10, e_11])), (k_12.mono (by omega) (by omega)), (by (try dsimp only); (try simp only [List.length_nil]); omega), rfl, rfl⟩
 refine go ?_
 by_cases h_17 : c.kind = 7
 · refine go ?_
   refine jA [0, 0, 0, 0] (N_writeFile p x_5 m_6 k_4 (by omega) (by omega) n_7 c.a c.text (by omega) (by omega) (by omega)) (hpre := fun w hw => hw.hex hlow hpre) ?_
   rintro _ _ ⟨x_20, m_21, n_22, e_18, k_19, f_23, rfl, rfl⟩
   refine jK (je (ps := [(0, iv n_22)]) (cs := [iv n_22, iv 0, str []]) rfl (by kernel_rfl)) ?_
   refine jD 4 [iv n_22, iv 0, str []] ?_
   refine go ?_
   exact jJ [0, 0, 0, 0] ⟨x_20, m_21, (⟨n_22, 0, []⟩ : AN), (by simp only [MS.doFile, e_3, h_9, h_10, h_17, e_18, SB]; (repeat (first | rw [if_pos (by omega)] | rw [if_neg (by omega)])); all_goals (first | rfl | simp only [SB, e_3, h_9, h_10, h_17, e_18])), (k_19.mono (by omega) (by omega)), (by (try dsimp only); (try simp only [List.length_nil]); omega), rfl, rfl⟩
 refine go ?_
 refine jA [0, 0, 0, 0] (N_cutFile p x_5 m_6 k_4 (by omega) (by omega) n_7 c.a (by omega) (by omega)) (hpre := fun w hw => hw.hex hlow hpre) ?_
 rintro _ _ ⟨x_26, m_27, n_28, e_24, k_25, f_29, rfl, rfl⟩
 refine jK (je (ps := [(0, iv n_28)]) (cs := [iv n_28, iv 0, str []]) rfl (by kernel_rfl)) ?_
 refine jD 4 [iv n_28, iv 0, str []] ?_
 refine go ?_
 exact jJ [0, 0, 0, 0] ⟨x_26, m_27, (⟨n_28, 0, []⟩ : AN), (by simp only [MS.doFile, e_3, h_9, h_10, h_17, e_24, SB]; (repeat (first | rw [if_pos (by omega)] | rw [if_neg (by omega)])); all_goals (first | rfl | simp only [SB, e_3, h_9, h_10, h_17, e_24])), (k_25.mono (by omega) (by omega)), (by (try dsimp only); (try simp only [List.length_nil]); omega), rfl, rfl⟩

theorem N_do (p : Nat) (x : MA) (m : MS) {S T : Nat} (hk : m.ok S T) (hS : S ≤ 28000000) (hT : T ≤ 1010000000) (proc : Int) (c : CL) (hproc : -9223372036854775808 ≤ proc ∧ proc ≤ 9223372036854775807) (hc : c.ok 1048576) :
   Ct Tryz.prog 122 [.pointer (some ⟨p, 0, none⟩), .int .i64 proc, .agg #[.int .i64 c.kind, str c.name, str c.to_, .int .i64 c.a, .int .i64 c.b, str c.text]] (mb p x m :: mr x m) (fun w => HexOk w) (fun v A' => ∃ x' m' r0, MS.doCall m proc c = (m', r0) ∧ m'.ok (3 * S + 20) (T + 7 * S + 200) ∧ ((0 ≤ r0.code ∧ r0.code ≤ 9) ∧ (-1 ≤ r0.n ∧ r0.n ≤ 1000000000) ∧ r0.text.length ≤ 30000000000000) ∧ v = .agg #[.int .i64 r0.code, .int .i64 r0.n, str r0.text] ∧ A' = mb p x' m' :: mr x' m') := by
 refine Ct.introL Tryz.func122 rfl Tryz.ntmps122 (lb rfl) fun w0 hpre hlow => ?_
 obtain ⟨hc1, hc2, hc3, hc4, hc5, hc6⟩ := id hc
 refine go ?_
 refine jM [iv c.kind, str c.name, str c.to_, iv c.a, iv c.b, str c.text] fun b_1 => ?_
 refine jG [iv 0, iv 0, str []] fun b_2 => ?_
 refine go ?_
 refine jG [iv 0, iv 0, str []] fun b_3 => ?_
 refine go ?_
 refine jA [3, 3, 3, 3] (N_state p x m hk (by omega) (by omega) proc (by omega)) ?_
 rintro _ _ ⟨x_6, m_7, n_8, e_4, k_5, f_9, rfl, rfl⟩
 refine go ?_
 by_cases h_10 : n_8 = 1
 · refine go ?_
   refine jA [] (N_icallOk c hc) ?_
   rintro _ _ ⟨b_13, e_11, rfl, rfl⟩
   refine go ?_
   rcases Bool.eq_false_or_eq_true (b_13) with h_14 | h_14
   · have hko := callOk_range (e_11.trans h_14)
     refine go ?_
     by_cases h_15 : c.kind = 1
     · refine go ?_
       refine jA [0, 0, 0, 0] (N_makeName p x_6 m_7 k_5 (by omega) (by omega) c.name (by omega)) ?_
       rintro _ _ ⟨x_18, m_19, n_20, n_22, e_16, k_17, f_21, f_23, rfl, rfl⟩
       refine go ?_
       refine jD 4 [iv 0, iv n_20, str []] ?_
       refine go ?_
       refine jD 4 [iv n_22, iv n_20, str []] ?_
       refine go ?_
       refine jD 5 [iv n_22, iv n_20, str []] ?_
       refine go ?_
       exact jJ [0, 0, 0, 0] ⟨x_18, m_19, (⟨n_22, n_20, []⟩ : AN), (by simp only [MS.doCall, MS.doKind, MS.doNames, MS.doProc, e_4, h_10, e_11, h_14, h_15, e_16, SB]; (repeat (first | rw [if_pos (by omega)] | rw [if_neg (by omega)])); all_goals (first | rfl | simp only [SB, e_4, h_10, e_11, h_14, h_15, e_16])), (k_17.mono (by omega) (by omega)), (by (try dsimp only); (try simp only [List.length_nil]); omega), rfl, rfl⟩
     refine go ?_
     by_cases h_24 : c.kind = 2
     · refine go ?_
       refine jA [0, 0, 0, 0] (N_linkName p x_6 m_7 k_5 (by omega) (by omega) c.name c.to_ (by omega) (by omega)) ?_
       rintro _ _ ⟨x_27, m_28, n_29, e_25, k_26, f_30, rfl, rfl⟩
       refine go ?_
       refine jD 4 [iv n_29, iv 0, str []] ?_
       refine go ?_
       refine jD 5 [iv n_29, iv 0, str []] ?_
       refine go ?_
       exact jJ [0, 0, 0, 0] ⟨x_27, m_28, (⟨n_29, 0, []⟩ : AN), (by simp only [MS.doCall, MS.doKind, MS.doNames, MS.doProc, e_4, h_10, e_11, h_14, h_15, h_24, e_25, SB]; (repeat (first | rw [if_pos (by omega)] | rw [if_neg (by omega)])); all_goals (first | rfl | simp only [SB, e_4, h_10, e_11, h_14, h_15, h_24, e_25])), (k_26.mono (by omega) (by omega)), (by (try dsimp only); (try simp only [List.length_nil]); omega), rfl, rfl⟩
     refine go ?_
     by_cases h_31 : c.kind = 3
     · refine go ?_
       refine jA [0, 0, 0, 0] (N_unlinkName p x_6 m_7 k_5 (by omega) (by omega) c.name (by omega)) ?_
       rintro _ _ ⟨x_34, m_35, n_36, e_32, k_33, f_37, rfl, rfl⟩
       refine go ?_
       refine jD 4 [iv n_36, iv 0, str []] ?_
       refine go ?_
       refine jD 5 [iv n_36, iv 0, str []] ?_
       refine go ?_
       exact jJ [0, 0, 0, 0] ⟨x_34, m_35, (⟨n_36, 0, []⟩ : AN), (by simp only [MS.doCall, MS.doKind, MS.doNames, MS.doProc, e_4, h_10, e_11, h_14, h_15, h_24, h_31, e_32, SB]; (repeat (first | rw [if_pos (by omega)] | rw [if_neg (by omega)])); all_goals (first | rfl | simp only [SB, e_4, h_10, e_11, h_14, h_15, h_24, h_31, e_32])), (k_33.mono (by omega) (by omega)), (by (try dsimp only); (try simp only [List.length_nil]); omega), rfl, rfl⟩
     refine go ?_
     by_cases h_38 : c.kind = 4
     · refine go ?_
       refine jA [0, 0, 0, 0] (N_renameName p x_6 m_7 k_5 (by omega) (by omega) c.name c.to_ (by omega) (by omega)) ?_
       rintro _ _ ⟨x_41, m_42, n_43, e_39, k_40, f_44, rfl, rfl⟩
       refine go ?_
       refine jD 4 [iv n_43, iv 0, str []] ?_
       refine go ?_
       refine jD 5 [iv n_43, iv 0, str []] ?_
       refine go ?_
       exact jJ [0, 0, 0, 0] ⟨x_41, m_42, (⟨n_43, 0, []⟩ : AN), (by simp only [MS.doCall, MS.doKind, MS.doNames, MS.doProc, *, SB]; (repeat (first | rw [if_pos (by omega)] | rw [if_neg (by omega)])); all_goals (first | rfl | simp only [SB, *])), (k_40.mono (by omega) (by omega)), (by (try dsimp only); (try simp only [List.length_nil]); omega), rfl, rfl⟩
     refine go ?_
     by_cases h_45 : c.kind = 5
     · refine go ?_
       refine jA [0, 0, 0, 0] (N_names p x_6 m_7 k_5 (by omega) (by omega)) ?_
       rintro _ _ ⟨x_48, m_49, l_50a, l_50c, l_50, e_46, k_47, f_51, rfl, rfl⟩
       refine go ?_
       have hno := names_ok k_5 e_46
       refine jL (fun k_ e_ L_ => ∃ j_ : Nat, ∃ t_ : Str, (j_ ≤ l_50.length) ∧ (t_.length ≤ j_ * 1048577) ∧ (joinL (l_50.drop j_) t_ = joinL l_50 []) ∧ EL e_ [(6, .pointer (some ⟨b_2, 0, none⟩)), (7, .pointer (some ⟨b_3, 0, none⟩)), (64, .slice l_50a l_50.length l_50c), (65, nv l_50.length), (66, nv j_)] ∧ L_ = [mb p x_48 m_49, rC x_48.a0 x_48.c0 m_49.s, rS x_48.a1 x_48.c1 m_49.r, rS x_48.a2 x_48.c2 m_49.w, rS l_50a l_50c l_50, bk b_3 39 [iv 0, iv 0, str t_], bk b_2 39 [iv 0, iv 0, str []], bk b_1 43 [iv c.kind, str c.name, str c.to_, iv c.a, iv c.b, str c.text]] ∧ k_ = l_50.length + 1 - j_) _ ⟨0, [], (by omega), (by simp), rfl, EL.go, rfl, rfl⟩ ?_
       rintro _ _ _ ⟨j_, t_, hj, ht, hR, ⟨_, rfl⟩, rfl, rfl⟩
       refine go ?_
       by_cases h_52 : ((j_ : Nat) : Int) < ((l_50.length : Nat) : Int)
       · have hlt : j_ < l_50.length := by omega
         have hbj := hno.2 j_ hlt
         refine go ?_
         refine jo fun hst => ?_
         obtain ⟨hr_53, hr_53b, -⟩ := row_some 4 rfl (by omega) hst
         refine go ?_
         refine jU (jr 4 (v := str (l_50.getD j_ [])) rfl rfl kJ (atS (by omega))) ?_
         refine go ?_
         refine jD 5 [iv 0, iv 0, str (t_ ++ ((l_50.getD j_ []) ++ [32]))] ?_
         refine go ?_
         exact jP [0, 0, 0, 0, 0, 0, 0, 0] ⟨(j_ + 1), (t_ ++ ((l_50.getD j_ []) ++ [32])), (by omega), (by simp only [LE]; omega), (by rw [drop_at (getD_some (d := []) hlt)] at hR; simp only [joinL] at hR; first | exact hR | (simp only [List.append_assoc] at hR ⊢; exact hR)), EL.go, rfl, rfl⟩
       rw [List.drop_of_length_le (by omega)] at hR
       simp only [joinL] at hR
       have hRE := hR.symm
       refine go ?_
       refine jD 6 [iv 0, iv 0, str t_] ?_
       refine go ?_
       exact jJ [0, 0, 0, 0] ⟨x_48, m_49, (⟨0, 0, t_⟩ : AN), (by simp only [MS.doCall, MS.doKind, MS.doNames, MS.doProc, e_4, h_10, e_11, h_14, h_15, h_24, h_31, h_38, h_45, e_46, h_52, hRE, SB]; (repeat (first | rw [if_pos (by omega)] | rw [if_neg (by omega)])); all_goals (first | rfl | simp only [SB, e_4, h_10, e_11, h_14, h_15, h_24, h_31, h_38, h_45, e_46, h_52, hRE])), (k_47.mono (by omega) (by omega)), (by (try dsimp only); (try simp only [List.length_nil]); omega), rfl, rfl⟩
     refine go ?_
     by_cases h_54 : c.kind = 6
     · refine go ?_
       refine jA [0, 0, 0, 0] (N_doFile p x_6 m_7 k_5 (by omega) (by omega) c hc) (hpre := fun w hw => hw.hex hlow hpre) ?_
       rintro _ _ ⟨x_57, m_58, A_59, e_55, k_56, f_60, rfl, rfl⟩
       refine jD 5 [iv A_59.code, iv A_59.n, str A_59.text] ?_
       refine go ?_
       exact jJ [0, 0, 0, 0] ⟨x_57, m_58, A_59, (by simp only [MS.doCall, MS.doKind, MS.doNames, MS.doProc, *, SB]; (repeat (first | rw [if_pos (by omega)] | rw [if_neg (by omega)])); all_goals (first | rfl | simp only [SB, *])), (k_56.mono (by omega) (by omega)), (by (try dsimp only); (try simp only [List.length_nil]); omega), rfl, rfl⟩
     refine go ?_
     by_cases h_61 : c.kind = 7
     · refine go ?_
       refine jA [0, 0, 0, 0] (N_doFile p x_6 m_7 k_5 (by omega) (by omega) c hc) (hpre := fun w hw => hw.hex hlow hpre) ?_
       rintro _ _ ⟨x_64, m_65, A_66, e_62, k_63, f_67, rfl, rfl⟩
       refine jD 5 [iv A_66.code, iv A_66.n, str A_66.text] ?_
       refine go ?_
       exact jJ [0, 0, 0, 0] ⟨x_64, m_65, A_66, (by simp only [MS.doCall, MS.doKind, MS.doNames, MS.doProc, *, SB]; (repeat (first | rw [if_pos (by omega)] | rw [if_neg (by omega)])); all_goals (first | rfl | simp only [SB, *])), (k_63.mono (by omega) (by omega)), (by (try dsimp only); (try simp only [List.length_nil]); omega), rfl, rfl⟩
     refine go ?_
     by_cases h_68 : c.kind = 8
     · refine go ?_
       refine jA [0, 0, 0, 0] (N_doFile p x_6 m_7 k_5 (by omega) (by omega) c hc) (hpre := fun w hw => hw.hex hlow hpre) ?_
       rintro _ _ ⟨x_71, m_72, A_73, e_69, k_70, f_74, rfl, rfl⟩
       refine jD 5 [iv A_73.code, iv A_73.n, str A_73.text] ?_
       refine go ?_
       exact jJ [0, 0, 0, 0] ⟨x_71, m_72, A_73, (by simp only [MS.doCall, MS.doKind, MS.doNames, MS.doProc, *, SB]; (repeat (first | rw [if_pos (by omega)] | rw [if_neg (by omega)])); all_goals (first | rfl | simp only [SB, *])), (k_70.mono (by omega) (by omega)), (by (try dsimp only); (try simp only [List.length_nil]); omega), rfl, rfl⟩
     refine go ?_
     by_cases h_75 : c.kind = 9
     · refine go ?_
       refine jA [0, 0, 0, 0] (N_makePipe p x_6 m_7 k_5 (by omega) (by omega)) ?_
       rintro _ _ ⟨x_78, m_79, n_80, n_82, e_76, k_77, f_81, f_83, rfl, rfl⟩
       refine go ?_
       refine jD 4 [iv 0, iv n_80, str []] ?_
       refine go ?_
       refine jD 4 [iv n_82, iv n_80, str []] ?_
       refine go ?_
       refine jD 5 [iv n_82, iv n_80, str []] ?_
       refine go ?_
       exact jJ [0, 0, 0, 0] ⟨x_78, m_79, (⟨n_82, n_80, []⟩ : AN), (by simp only [MS.doCall, MS.doKind, MS.doNames, MS.doProc, *, SB]; (repeat (first | rw [if_pos (by omega)] | rw [if_neg (by omega)])); all_goals (first | rfl | simp only [SB, *])), (k_77.mono (by omega) (by omega)), (by (try dsimp only); (try simp only [List.length_nil]); omega), rfl, rfl⟩
     refine go ?_
     by_cases h_84 : c.kind = 10
     · refine go ?_
       refine jA [0, 0, 0, 0] (N_putPipe p x_6 m_7 k_5 (by omega) (by omega) c.a c.text (by omega) (by omega)) ?_
       rintro _ _ ⟨x_87, m_88, n_89, e_85, k_86, f_90, rfl, rfl⟩
       refine go ?_
       refine jD 4 [iv n_89, iv 0, str []] ?_
       refine go ?_
       refine jD 5 [iv n_89, iv 0, str []] ?_
       refine go ?_
       exact jJ [0, 0, 0, 0] ⟨x_87, m_88, (⟨n_89, 0, []⟩ : AN), (by simp only [MS.doCall, MS.doKind, MS.doNames, MS.doProc, *, SB]; (repeat (first | rw [if_pos (by omega)] | rw [if_neg (by omega)])); all_goals (first | rfl | simp only [SB, *])), (k_86.mono (by omega) (by omega)), (by (try dsimp only); (try simp only [List.length_nil]); omega), rfl, rfl⟩
     refine go ?_
     by_cases h_91 : c.kind = 11
     · refine go ?_
       refine jA [0, 0, 0, 0] (N_takePipe p x_6 m_7 k_5 (by omega) (by omega) c.a (by omega)) (hpre := fun w hw => hw.hex hlow hpre) ?_
       rintro _ _ ⟨x_94, m_95, u_96, n_98, e_92, k_93, f_97, f_99, rfl, rfl⟩
       refine go ?_
       refine jD 4 [iv 0, iv 0, str u_96] ?_
       refine go ?_
       refine jD 4 [iv n_98, iv 0, str u_96] ?_
       refine go ?_
       refine jD 5 [iv n_98, iv 0, str u_96] ?_
       refine go ?_
       exact jJ [0, 0, 0, 0] ⟨x_94, m_95, (⟨n_98, 0, u_96⟩ : AN), (by simp only [MS.doCall, MS.doKind, MS.doNames, MS.doProc, *, SB]; (repeat (first | rw [if_pos (by omega)] | rw [if_neg (by omega)])); all_goals (first | rfl | simp only [SB, *])), (k_93.mono (by omega) (by omega)), (by (try dsimp only); (try simp only [List.length_nil]); omega), rfl, rfl⟩
     refine go ?_
     by_cases h_100 : c.kind = 12
     · refine go ?_
       refine jA [0, 0, 0, 0] (N_spawn p x_6 m_7 k_5 (by omega) (by omega) proc (by omega)) ?_
       rintro _ _ ⟨x_103, m_104, n_105, n_107, e_101, k_102, f_106, f_108, rfl, rfl⟩
       refine go ?_
       refine jD 4 [iv 0, iv n_105, str []] ?_
       refine go ?_
       refine jD 4 [iv n_107, iv n_105, str []] ?_
       refine go ?_
       by_cases h_109 : n_107 = 0
       · refine go ?_
         refine jA [0, 0, 0, 0] (N_forkPages p x_103 m_104 k_102 (by omega) (by omega) proc n_105 (by omega) (by omega)) ?_
         rintro _ _ ⟨x_112, m_113, e_110, k_111, rfl, rfl⟩
         refine go ?_
         refine jD 5 [iv n_107, iv n_105, str []] ?_
         refine go ?_
         exact jJ [0, 0, 0, 0] ⟨x_112, m_113, (⟨n_107, n_105, []⟩ : AN), (by simp only [MS.doCall, MS.doKind, MS.doNames, MS.doProc, *, SB]; (repeat (first | rw [if_pos (by omega)] | rw [if_neg (by omega)])); all_goals (first | rfl | simp only [SB, *])), (k_111.mono (by omega) (by omega)), (by (try dsimp only); (try simp only [List.length_nil]); omega), rfl, rfl⟩
       refine go ?_
       refine jD 5 [iv n_107, iv n_105, str []] ?_
       refine go ?_
       exact jJ [0, 0, 0, 0] ⟨x_103, m_104, (⟨n_107, n_105, []⟩ : AN), (by simp only [MS.doCall, MS.doKind, MS.doNames, MS.doProc, *, SB]; (repeat (first | rw [if_pos (by omega)] | rw [if_neg (by omega)])); all_goals (first | rfl | simp only [SB, *])), (k_102.mono (by omega) (by omega)), (by (try dsimp only); (try simp only [List.length_nil]); omega), rfl, rfl⟩
     refine go ?_
     by_cases h_114 : c.kind = 13
     · refine go ?_
       refine jA [0, 0, 0, 0] (N_end p x_6 m_7 k_5 (by omega) (by omega) proc c.a (by omega) (by omega)) ?_
       rintro _ _ ⟨x_117, m_118, n_119, e_115, k_116, f_120, rfl, rfl⟩
       refine go ?_
       refine jD 4 [iv n_119, iv 0, str []] ?_
       refine go ?_
       by_cases h_121 : n_119 = 0
       · refine go ?_
         refine jA [0, 0, 0, 0] (N_dropPages p x_117 m_118 k_116 (by omega) (by omega) proc (by omega)) ?_
         rintro _ _ ⟨x_124, m_125, e_122, k_123, rfl, rfl⟩
         refine go ?_
         refine jD 5 [iv n_119, iv 0, str []] ?_
         refine go ?_
         exact jJ [0, 0, 0, 0] ⟨x_124, m_125, (⟨n_119, 0, []⟩ : AN), (by simp only [MS.doCall, MS.doKind, MS.doNames, MS.doProc, *, SB]; (repeat (first | rw [if_pos (by omega)] | rw [if_neg (by omega)])); all_goals (first | rfl | simp only [SB, *])), (k_123.mono (by omega) (by omega)), (by (try dsimp only); (try simp only [List.length_nil]); omega), rfl, rfl⟩
       refine go ?_
       refine jD 5 [iv n_119, iv 0, str []] ?_
       refine go ?_
       exact jJ [0, 0, 0, 0] ⟨x_117, m_118, (⟨n_119, 0, []⟩ : AN), (by simp only [MS.doCall, MS.doKind, MS.doNames, MS.doProc, *, SB]; (repeat (first | rw [if_pos (by omega)] | rw [if_neg (by omega)])); all_goals (first | rfl | simp only [SB, *])), (k_116.mono (by omega) (by omega)), (by (try dsimp only); (try simp only [List.length_nil]); omega), rfl, rfl⟩
     refine go ?_
     by_cases h_126 : c.kind = 14
     · refine go ?_
       refine jA [0, 0, 0, 0] (N_reap p x_6 m_7 k_5 (by omega) (by omega) proc c.a (by omega) (by omega)) ?_
       rintro _ _ ⟨x_129, m_130, n_131, n_133, e_127, k_128, f_132, f_134, rfl, rfl⟩
       refine go ?_
       refine jD 4 [iv 0, iv n_131, str []] ?_
       refine go ?_
       refine jD 4 [iv n_133, iv n_131, str []] ?_
       refine go ?_
       refine jD 5 [iv n_133, iv n_131, str []] ?_
       refine go ?_
       exact jJ [0, 0, 0, 0] ⟨x_129, m_130, (⟨n_133, n_131, []⟩ : AN), (by simp only [MS.doCall, MS.doKind, MS.doNames, MS.doProc, *, SB]; (repeat (first | rw [if_pos (by omega)] | rw [if_neg (by omega)])); all_goals (first | rfl | simp only [SB, *])), (k_128.mono (by omega) (by omega)), (by (try dsimp only); (try simp only [List.length_nil]); omega), rfl, rfl⟩
     refine go ?_
     by_cases h_135 : c.kind = 15
     · refine go ?_
       refine jA [0, 0, 0, 0] (N_kids p x_6 m_7 k_5 (by omega) (by omega) proc (by omega)) ?_
       rintro _ _ ⟨x_138, m_139, l_140a, l_140c, l_140, e_136, k_137, f_141, rfl, rfl⟩
       refine go ?_
       have hno := kids_ok e_136
       refine jL (fun k_ e_ L_ => ∃ j_ : Nat, ∃ t_ : Str, (j_ ≤ l_140.length) ∧ (t_.length ≤ j_ * 1048577) ∧ (joinD (l_140.drop j_) t_ = joinD l_140 []) ∧ EL e_ [(6, .pointer (some ⟨b_2, 0, none⟩)), (7, .pointer (some ⟨b_3, 0, none⟩)), (161, .slice l_140a l_140.length l_140c), (162, nv l_140.length), (163, nv j_)] ∧ L_ = [mb p x_138 m_139, rC x_138.a0 x_138.c0 m_139.s, rS x_138.a1 x_138.c1 m_139.r, rS x_138.a2 x_138.c2 m_139.w, rI l_140a l_140c l_140, bk b_3 39 [iv 0, iv 0, str t_], bk b_2 39 [iv 0, iv 0, str []], bk b_1 43 [iv c.kind, str c.name, str c.to_, iv c.a, iv c.b, str c.text]] ∧ k_ = l_140.length + 1 - j_) _ ⟨0, [], (by omega), (by simp), rfl, EL.go, rfl, rfl⟩ ?_
       rintro _ _ _ ⟨j_, t_, hj, ht, hR, ⟨_, rfl⟩, rfl, rfl⟩
       refine go ?_
       by_cases h_142 : ((j_ : Nat) : Int) < ((l_140.length : Nat) : Int)
       · have hlt : j_ < l_140.length := by omega
         have hbj := hno _ (getD_mem (d := 0) hlt)
         refine go ?_
         refine jo fun hst => ?_
         obtain ⟨hr_143, hr_143b, -⟩ := row_some 4 rfl (by omega) hst
         refine go ?_
         refine jU (jr 4 (v := iv (l_140.getD j_ 0)) rfl rfl kR (atI (by omega))) ?_
         refine go ?_
         refine jH [5] 6 ?_
         refine go ?_
         refine jB (i := 3) ?_
         refine jI [] (N_dec (l_140.getD j_ 0) (by omega)) ?_
         rintro _ _ ⟨u_150, e_148, f_151, rfl, rfl⟩
         refine go ?_
         refine jB (i := 7) ?_
         refine jS 5 [iv 0, iv 0, str (t_ ++ (u_150 ++ [32]))] ?_
         refine go ?_
         exact jP [0, 0, 0, 0, 0, 0, 0, 0] ⟨(j_ + 1), (t_ ++ (u_150 ++ [32])), (by omega), (by simp only [LE]; omega), (by rw [drop_at (getD_some (d := 0) hlt)] at hR; simp only [joinD, e_148] at hR; first | exact hR | (simp only [List.append_assoc] at hR ⊢; exact hR)), EL.go, rfl, rfl⟩
       rw [List.drop_of_length_le (by omega)] at hR
       simp only [joinD] at hR
       have hRE := hR.symm
       refine go ?_
       refine jD 6 [iv 0, iv 0, str t_] ?_
       refine go ?_
       exact jJ [0, 0, 0, 0] ⟨x_138, m_139, (⟨0, 0, t_⟩ : AN), (by simp only [MS.doCall, MS.doKind, MS.doNames, MS.doProc, e_4, h_10, e_11, h_14, h_15, h_24, h_31, h_38, h_45, h_54, h_61, h_68, h_75, h_84, h_91, h_100, h_114, h_126, h_135, e_136, h_142, hRE, SB]; (repeat (first | rw [if_pos (by omega)] | rw [if_neg (by omega)])); all_goals (first | rfl | simp only [SB, e_4, h_10, e_11, h_14, h_15, h_24, h_31, h_38, h_45, h_54, h_61, h_68, h_75, h_84, h_91, h_100, h_114, h_126, h_135, e_136, h_142, hRE])), (k_137.mono (by omega) (by omega)), (by (try dsimp only); (try simp only [List.length_nil]); omega), rfl, rfl⟩
     refine go ?_
     by_cases h_152 : c.kind = 16
     · refine go ?_
       refine jA [0, 0, 0, 0] (N_send p x_6 m_7 k_5 (by omega) (by omega) c.a c.b (by omega) (by omega)) ?_
       rintro _ _ ⟨x_155, m_156, n_157, e_153, k_154, f_158, rfl, rfl⟩
       refine go ?_
       refine jD 4 [iv n_157, iv 0, str []] ?_
       refine go ?_
       refine jD 5 [iv n_157, iv 0, str []] ?_
       refine go ?_
       exact jJ [0, 0, 0, 0] ⟨x_155, m_156, (⟨n_157, 0, []⟩ : AN), (by simp only [MS.doCall, MS.doKind, MS.doNames, MS.doProc, *, SB]; (repeat (first | rw [if_pos (by omega)] | rw [if_neg (by omega)])); all_goals (first | rfl | simp only [SB, *])), (k_154.mono (by omega) (by omega)), (by (try dsimp only); (try simp only [List.length_nil]); omega), rfl, rfl⟩
     refine go ?_
     by_cases h_159 : c.kind = 17
     · refine go ?_
       refine jA [0, 0, 0, 0] (N_takeSignal p x_6 m_7 k_5 (by omega) (by omega) proc (by omega)) ?_
       rintro _ _ ⟨x_162, m_163, n_164, n_166, e_160, k_161, f_165, f_167, rfl, rfl⟩
       refine go ?_
       refine jD 4 [iv 0, iv n_164, str []] ?_
       refine go ?_
       refine jD 4 [iv n_166, iv n_164, str []] ?_
       refine go ?_
       refine jD 5 [iv n_166, iv n_164, str []] ?_
       refine go ?_
       exact jJ [0, 0, 0, 0] ⟨x_162, m_163, (⟨n_166, n_164, []⟩ : AN), (by simp only [MS.doCall, MS.doKind, MS.doNames, MS.doProc, *, SB]; (repeat (first | rw [if_pos (by omega)] | rw [if_neg (by omega)])); all_goals (first | rfl | simp only [SB, *])), (k_161.mono (by omega) (by omega)), (by (try dsimp only); (try simp only [List.length_nil]); omega), rfl, rfl⟩
     refine go ?_
     by_cases h_168 : c.kind = 18
     · refine go ?_
       refine jA [0, 0, 0, 0] (N_setTimer p x_6 m_7 k_5 (by omega) (by omega) proc c.a (by omega) (by omega)) ?_
       rintro _ _ ⟨x_171, m_172, n_173, e_169, k_170, f_174, rfl, rfl⟩
       refine go ?_
       refine jD 4 [iv n_173, iv 0, str []] ?_
       refine go ?_
       refine jD 5 [iv n_173, iv 0, str []] ?_
       refine go ?_
       exact jJ [0, 0, 0, 0] ⟨x_171, m_172, (⟨n_173, 0, []⟩ : AN), (by simp only [MS.doCall, MS.doKind, MS.doNames, MS.doProc, *, SB]; (repeat (first | rw [if_pos (by omega)] | rw [if_neg (by omega)])); all_goals (first | rfl | simp only [SB, *])), (k_170.mono (by omega) (by omega)), (by (try dsimp only); (try simp only [List.length_nil]); omega), rfl, rfl⟩
     refine go ?_
     by_cases h_175 : c.kind = 19
     · refine go ?_
       refine jA [0, 0, 0, 0] (N_tick p x_6 m_7 k_5 (by omega) (by omega) c.a (by omega)) ?_
       rintro _ _ ⟨x_178, m_179, n_180, n_182, e_176, k_177, f_181, f_183, rfl, rfl⟩
       refine go ?_
       refine jD 4 [iv 0, iv n_180, str []] ?_
       refine go ?_
       refine jD 4 [iv n_182, iv n_180, str []] ?_
       refine go ?_
       refine jD 5 [iv n_182, iv n_180, str []] ?_
       refine go ?_
       exact jJ [0, 0, 0, 0] ⟨x_178, m_179, (⟨n_182, n_180, []⟩ : AN), (by simp only [MS.doCall, MS.doKind, MS.doNames, MS.doProc, *, SB]; (repeat (first | rw [if_pos (by omega)] | rw [if_neg (by omega)])); all_goals (first | rfl | simp only [SB, *])), (k_177.mono (by omega) (by omega)), (by (try dsimp only); (try simp only [List.length_nil]); omega), rfl, rfl⟩
     refine go ?_
     by_cases h_184 : c.kind = 20
     · refine go ?_
       refine jA [0, 0, 0, 0] (N_storePage p x_6 m_7 k_5 (by omega) (by omega) proc c.a c.text (by omega) (by omega) (by omega)) ?_
       rintro _ _ ⟨x_187, m_188, n_189, e_185, k_186, f_190, rfl, rfl⟩
       refine go ?_
       refine jD 4 [iv n_189, iv 0, str []] ?_
       refine go ?_
       refine jD 5 [iv n_189, iv 0, str []] ?_
       refine go ?_
       exact jJ [0, 0, 0, 0] ⟨x_187, m_188, (⟨n_189, 0, []⟩ : AN), (by simp only [MS.doCall, MS.doKind, MS.doNames, MS.doProc, *, SB]; (repeat (first | rw [if_pos (by omega)] | rw [if_neg (by omega)])); all_goals (first | rfl | simp only [SB, *])), (k_186.mono (by omega) (by omega)), (by (try dsimp only); (try simp only [List.length_nil]); omega), rfl, rfl⟩
     refine go ?_
     by_cases h_191 : c.kind = 21
     · refine go ?_
       refine jA [0, 0, 0, 0] (N_loadPage p x_6 m_7 k_5 (by omega) (by omega) proc c.a (by omega) (by omega)) (hpre := fun w hw => hw.hex hlow hpre) ?_
       rintro _ _ ⟨x_194, m_195, u_196, n_198, e_192, k_193, f_197, f_199, rfl, rfl⟩
       refine go ?_
       refine jD 4 [iv 0, iv 0, str u_196] ?_
       refine go ?_
       refine jD 4 [iv n_198, iv 0, str u_196] ?_
       refine go ?_
       refine jD 5 [iv n_198, iv 0, str u_196] ?_
       refine go ?_
       exact jJ [0, 0, 0, 0] ⟨x_194, m_195, (⟨n_198, 0, u_196⟩ : AN), (by simp only [MS.doCall, MS.doKind, MS.doNames, MS.doProc, *, SB]; (repeat (first | rw [if_pos (by omega)] | rw [if_neg (by omega)])); all_goals (first | rfl | simp only [SB, *])), (k_193.mono (by omega) (by omega)), (by (try dsimp only); (try simp only [List.length_nil]); omega), rfl, rfl⟩
     refine go ?_
     by_cases h_200 : c.kind = 22
     · refine go ?_
       refine jA [0, 0, 0, 0] (N_putOut p x_6 m_7 k_5 (by omega) (by omega) c.text (by omega)) ?_
       rintro _ _ ⟨x_203, m_204, n_205, e_201, k_202, f_206, rfl, rfl⟩
       refine go ?_
       refine jD 4 [iv n_205, iv 0, str []] ?_
       refine go ?_
       refine jD 5 [iv n_205, iv 0, str []] ?_
       refine go ?_
       exact jJ [0, 0, 0, 0] ⟨x_203, m_204, (⟨n_205, 0, []⟩ : AN), (by simp only [MS.doCall, MS.doKind, MS.doNames, MS.doProc, *, SB]; (repeat (first | rw [if_pos (by omega)] | rw [if_neg (by omega)])); all_goals (first | rfl | simp only [SB, *])), (k_202.mono (by omega) (by omega)), (by (try dsimp only); (try simp only [List.length_nil]); omega), rfl, rfl⟩
     refine go ?_
     refine jD 5 [iv 0, iv 0, str []] ?_
     refine go ?_
     exact jJ [0, 0, 0, 0] ⟨x_6, m_7, (⟨0, 0, []⟩ : AN), (by exfalso; omega), (k_5.mono (by omega) (by omega)), (by (try dsimp only); (try simp only [List.length_nil]); omega), rfl, rfl⟩
   refine go ?_
   refine jK (je (ps := [(0, iv 4)]) (cs := [iv 4, iv 0, str []]) rfl (by kernel_rfl)) ?_
   refine jD 5 [iv 4, iv 0, str []] ?_
   refine go ?_
   exact jJ [0, 0, 0, 0] ⟨x_6, m_7, (⟨4, 0, []⟩ : AN), (by simp only [MS.doCall, MS.doKind, MS.doNames, MS.doProc, e_4, h_10, e_11, h_14, SB]; (repeat (first | rw [if_pos (by omega)] | rw [if_neg (by omega)])); all_goals (first | rfl | simp only [SB, e_4, h_10, e_11, h_14])), (k_5.mono (by omega) (by omega)), (by (try dsimp only); (try simp only [List.length_nil]); omega), rfl, rfl⟩
 refine go ?_
 refine jK (je (ps := [(0, iv 2)]) (cs := [iv 2, iv 0, str []]) rfl (by kernel_rfl)) ?_
 refine jD 5 [iv 2, iv 0, str []] ?_
 refine go ?_
 exact jJ [0, 0, 0, 0] ⟨x_6, m_7, (⟨2, 0, []⟩ : AN), (by simp only [MS.doCall, MS.doKind, MS.doNames, MS.doProc, e_4, h_10, SB]; (repeat (first | rw [if_pos (by omega)] | rw [if_neg (by omega)])); all_goals (first | rfl | simp only [SB, e_4, h_10])), (k_5.mono (by omega) (by omega)), (by (try dsimp only); (try simp only [List.length_nil]); omega), rfl, rfl⟩

theorem M_doNames (x : MA) (m : MS) {S T : Nat} (hk : m.ok S T) (hS : S ≤ 28500000) (hT : T ≤ 1020000000)  :
   Ct Tryz.prog 235 [mv x m] (mr x m) (fun _ => True) (fun v A' => ∃ x' m' r0, MS.doNames m = (m', r0) ∧ m'.ok (S) (T + 1) ∧ ((0 ≤ r0.code ∧ r0.code ≤ 9) ∧ (-1 ≤ r0.n ∧ r0.n ≤ 1000000000) ∧ r0.text.length ≤ 30000000000000) ∧ v = .tuple #[mv x' m', .agg #[.int .i64 r0.code, .int .i64 r0.n, str r0.text]] ∧ A' = mr x' m') := by
 refine Ct.intro Tryz.func235 rfl Tryz.ntmps235 (lb rfl) fun w0 hpre => ?_
 refine go ?_
 refine jM (mc x m) fun b_1 => ?_
 refine jG zC fun b_2 => ?_
 refine jG [iv 0, iv 0, str []] fun b_3 => ?_
 refine go ?_
 refine jA [3, 3, 3] (M_names x m hk (by omega) (by omega)) ?_
 rintro _ _ ⟨x_6, m_7, l_8a, l_8c, l_8, e_4, k_5, f_9, rfl, rfl⟩
 refine go ?_
 refine jD 6 (mc x_6 m_7) ?_
 refine go ?_
 refine jK (je (ps := []) (cs := [iv 0, iv 0, str []]) rfl (by kernel_rfl)) ?_
 refine jG [iv 0, iv 0, str []] fun b_10 => ?_
 refine jD 0 [iv 0, iv 0, str []] ?_
 refine go ?_
 have hno := names_ok hk e_4
 refine jL (fun k_ e_ L_ => ∃ j_ : Nat, ∃ t_ : Str, (j_ ≤ l_8.length) ∧ (t_.length ≤ j_ * 1048577) ∧ (joinL (l_8.drop j_) t_ = joinL l_8 []) ∧ EL e_ [(1, .pointer (some ⟨b_1, 0, none⟩)), (2, .pointer (some ⟨b_2, 0, none⟩)), (3, .pointer (some ⟨b_3, 0, none⟩)), (4, .slice l_8a l_8.length l_8c), (5, .pointer (some ⟨b_10, 0, none⟩)), (6, nv j_)] ∧ L_ = [bk b_10 39 [iv 0, iv 0, str t_], rC x_6.a0 x_6.c0 m_7.s, rS x_6.a1 x_6.c1 m_7.r, rS x_6.a2 x_6.c2 m_7.w, rS l_8a l_8c l_8, bk b_3 39 [iv 0, iv 0, str []], bk b_2 60 zC, mb b_1 x_6 m_7] ∧ k_ = l_8.length + 1 - j_) _ ⟨0, [], (by omega), (by simp), rfl, EL.go, rfl, rfl⟩ ?_
 rintro _ _ _ ⟨j_, t_, hj, ht, hR, ⟨_, rfl⟩, rfl, rfl⟩
 refine go ?_
 by_cases h_11 : ((j_ : Nat) : Int) < ((l_8.length : Nat) : Int)
 · have hlt : j_ < l_8.length := by omega
   have hbj := hno.2 j_ hlt
   refine go ?_
   refine jH [0] 8 ?_
   refine go ?_
   refine JA.facts fun hst => ?_
   obtain ⟨hr_12, hr_12b, -⟩ := row_some 4 rfl (by omega) hst
   refine go ?_
   refine jB (i := 5) ?_
   refine ja rfl rfl (jm (jr 4 (v := str (l_8.getD j_ [])) rfl rfl kJ (atS (by omega)))) ?_
   rintro _ _ ⟨rfl, rfl⟩
   refine ⟨all_go, ?_⟩
   refine go ?_
   refine jB (i := 9) ?_
   refine jS 0 [iv 0, iv 0, str ((t_ ++ (l_8.getD j_ [])) ++ [32])] ?_
   refine go ?_
   exact jP [0, 0, 0, 0, 0, 0, 0, 0] ⟨(j_ + 1), ((t_ ++ (l_8.getD j_ [])) ++ [32]), (by omega), (by simp only [LE]; omega), (by rw [drop_at (getD_some (d := []) hlt)] at hR; simp only [joinL] at hR; first | exact hR | (simp only [List.append_assoc] at hR ⊢; exact hR)), EL.go, rfl, rfl⟩
 rw [List.drop_of_length_le (by omega)] at hR
 simp only [joinL] at hR
 have hRE := hR.symm
 refine go ?_
 refine jH [0, 6] 3 ?_
 refine go ?_
 refine jB (i := 2) ?_
 refine jp 6 (mc x_6 m_7) ?_
 refine jB (i := 3) ?_
 refine jS 5 [iv 0, iv 0, str t_] ?_
 refine go ?_
 exact jQ [1, 1, 1] ⟨x_6, m_7, (⟨0, 0, t_⟩ : AN), (by simp only [MS.doNames, e_4, h_11, hRE, SB]; (repeat (first | rw [if_pos (by omega)] | rw [if_neg (by omega)])); all_goals (first | rfl | simp only [SB, e_4, h_11, hRE])), (k_5.mono (by omega) (by omega)), (by (try dsimp only); (try simp only [List.length_nil]); omega), rfl, rfl⟩

theorem M_doProc (x : MA) (m : MS) {S T : Nat} (hk : m.ok S T) (hS : S ≤ 28500000) (hT : T ≤ 1020000000) (proc : Int) (c : CL) (hproc : -9223372036854775808 ≤ proc ∧ proc ≤ 9223372036854775807) (hc : c.ok 1048576) :
   Ct Tryz.prog 247 [mv x m, .int .i64 proc, .agg #[.int .i64 c.kind, str c.name, str c.to_, .int .i64 c.a, .int .i64 c.b, str c.text]] (mr x m) (fun _ => True) (fun v A' => ∃ x' m' r0, MS.doProc m proc c = (m', r0) ∧ m'.ok (2 * S + 6) (T + 2 * S + 11) ∧ ((0 ≤ r0.code ∧ r0.code ≤ 9) ∧ (-1 ≤ r0.n ∧ r0.n ≤ 1000000000) ∧ r0.text.length ≤ 30000000000000) ∧ v = .tuple #[mv x' m', .agg #[.int .i64 r0.code, .int .i64 r0.n, str r0.text]] ∧ A' = mr x' m') := by
 refine Ct.intro Tryz.func247 rfl Tryz.ntmps247 (lb rfl) fun w0 hpre => ?_
 obtain ⟨hc1, hc2, hc3, hc4, hc5, hc6⟩ := id hc
 refine go ?_
 refine jM (mc x m) fun b_1 => ?_
 refine jM [iv c.kind, str c.name, str c.to_, iv c.a, iv c.b, str c.text] fun b_2 => ?_
 refine jG zC fun b_3 => ?_
 refine jG [iv 0, iv 0, str []] fun b_4 => ?_
 refine go ?_
 refine jK (je (ps := []) (cs := [iv 0, iv 0, str []]) rfl (by kernel_rfl)) ?_
 refine jG [iv 0, iv 0, str []] fun b_5 => ?_
 refine jD 0 [iv 0, iv 0, str []] ?_
 refine go ?_
 by_cases h_6 : c.kind = 12
 · refine go ?_
   refine jA [5, 5, 5] (M_spawn x m hk (by omega) (by omega) proc (by omega)) ?_
   rintro _ _ ⟨x_9, m_10, n_11, n_13, e_7, k_8, f_12, f_14, rfl, rfl⟩
   refine go ?_
   refine jD 7 (mc x_9 m_10) ?_
   refine go ?_
   refine jD 3 [iv 0, iv n_11, str []] ?_
   refine go ?_
   refine jD 3 [iv n_13, iv n_11, str []] ?_
   refine go ?_
   by_cases h_15 : n_13 = 0
   · refine go ?_
     refine jA [0, 0, 0] (M_forkPages x_9 m_10 k_8 (by omega) (by omega) proc n_11 (by omega) (by omega)) ?_
     rintro _ _ ⟨x_18, m_19, e_16, k_17, rfl, rfl⟩
     refine jD 7 (mc x_18 m_19) ?_
     refine go ?_
     refine jH [3, 6] 3 ?_
     refine go ?_
     refine jB (i := 2) ?_
     refine jp 5 (mc x_18 m_19) ?_
     refine jB (i := 3) ?_
     refine jS 4 [iv n_13, iv n_11, str []] ?_
     refine go ?_
     exact jQ [0, 0, 0] ⟨x_18, m_19, (⟨n_13, n_11, []⟩ : AN), (by simp only [MS.doProc, h_6, e_7, h_15, e_16, SB]; (repeat (first | rw [if_pos (by omega)] | rw [if_neg (by omega)])); all_goals (first | rfl | simp only [SB, h_6, e_7, h_15, e_16])), (k_17.mono (by omega) (by omega)), (by (try dsimp only); (try simp only [List.length_nil]); omega), rfl, rfl⟩
   refine go ?_
   refine jH [3, 6] 3 ?_
   refine go ?_
   refine jB (i := 2) ?_
   refine jp 5 (mc x_9 m_10) ?_
   refine jB (i := 3) ?_
   refine jS 4 [iv n_13, iv n_11, str []] ?_
   refine go ?_
   exact jQ [0, 0, 0] ⟨x_9, m_10, (⟨n_13, n_11, []⟩ : AN), (by simp only [MS.doProc, h_6, e_7, h_15, SB]; (repeat (first | rw [if_pos (by omega)] | rw [if_neg (by omega)])); all_goals (first | rfl | simp only [SB, h_6, e_7, h_15])), (k_8.mono (by omega) (by omega)), (by (try dsimp only); (try simp only [List.length_nil]); omega), rfl, rfl⟩
 refine go ?_
 by_cases h_20 : c.kind = 13
 · refine go ?_
   refine jA [5, 5, 5] (M_end x m hk (by omega) (by omega) proc c.a (by omega) (by omega)) ?_
   rintro _ _ ⟨x_23, m_24, n_25, e_21, k_22, f_26, rfl, rfl⟩
   refine go ?_
   refine jD 7 (mc x_23 m_24) ?_
   refine go ?_
   refine jD 3 [iv n_25, iv 0, str []] ?_
   refine go ?_
   by_cases h_27 : n_25 = 0
   · refine go ?_
     refine jA [0, 0, 0] (M_dropPages x_23 m_24 k_22 (by omega) (by omega) proc (by omega)) ?_
     rintro _ _ ⟨x_30, m_31, e_28, k_29, rfl, rfl⟩
     refine jD 7 (mc x_30 m_31) ?_
     refine go ?_
     refine jH [3, 6] 3 ?_
     refine go ?_
     refine jB (i := 2) ?_
     refine jp 5 (mc x_30 m_31) ?_
     refine jB (i := 3) ?_
     refine jS 4 [iv n_25, iv 0, str []] ?_
     refine go ?_
     exact jQ [0, 0, 0] ⟨x_30, m_31, (⟨n_25, 0, []⟩ : AN), (by simp only [MS.doProc, h_6, h_20, e_21, h_27, e_28, SB]; (repeat (first | rw [if_pos (by omega)] | rw [if_neg (by omega)])); all_goals (first | rfl | simp only [SB, h_6, h_20, e_21, h_27, e_28])), (k_29.mono (by omega) (by omega)), (by (try dsimp only); (try simp only [List.length_nil]); omega), rfl, rfl⟩
   refine go ?_
   refine jH [3, 6] 3 ?_
   refine go ?_
   refine jB (i := 2) ?_
   refine jp 5 (mc x_23 m_24) ?_
   refine jB (i := 3) ?_
   refine jS 4 [iv n_25, iv 0, str []] ?_
   refine go ?_
   exact jQ [0, 0, 0] ⟨x_23, m_24, (⟨n_25, 0, []⟩ : AN), (by simp only [MS.doProc, h_6, h_20, e_21, h_27, SB]; (repeat (first | rw [if_pos (by omega)] | rw [if_neg (by omega)])); all_goals (first | rfl | simp only [SB, h_6, h_20, e_21, h_27])), (k_22.mono (by omega) (by omega)), (by (try dsimp only); (try simp only [List.length_nil]); omega), rfl, rfl⟩
 refine go ?_
 by_cases h_32 : c.kind = 14
 · refine go ?_
   refine jA [5, 5, 5] (M_reap x m hk (by omega) (by omega) proc c.a (by omega) (by omega)) ?_
   rintro _ _ ⟨x_35, m_36, n_37, n_39, e_33, k_34, f_38, f_40, rfl, rfl⟩
   refine go ?_
   refine jD 7 (mc x_35 m_36) ?_
   refine go ?_
   refine jD 3 [iv 0, iv n_37, str []] ?_
   refine go ?_
   refine jD 3 [iv n_39, iv n_37, str []] ?_
   refine go ?_
   refine jH [3, 6] 3 ?_
   refine go ?_
   refine jB (i := 2) ?_
   refine jp 5 (mc x_35 m_36) ?_
   refine jB (i := 3) ?_
   refine jS 4 [iv n_39, iv n_37, str []] ?_
   refine go ?_
   exact jQ [0, 0, 0] ⟨x_35, m_36, (⟨n_39, n_37, []⟩ : AN), (by simp only [MS.doProc, h_6, h_20, h_32, e_33, SB]; (repeat (first | rw [if_pos (by omega)] | rw [if_neg (by omega)])); all_goals (first | rfl | simp only [SB, h_6, h_20, h_32, e_33])), (k_34.mono (by omega) (by omega)), (by (try dsimp only); (try simp only [List.length_nil]); omega), rfl, rfl⟩
 refine go ?_
 refine jF rfl (jR (ps := []) (cur := #[]) kL kS kZ rfl (by kernel_rfl) (by decide) (by decide)) ?_
 rintro _ _ ⟨a_41, rfl, rfl⟩
 refine go ?_
 refine jA [6, 6, 6] (M_kids x m hk (by omega) (by omega) proc (by omega)) ?_
 rintro _ _ ⟨x_44, m_45, l_46a, l_46c, l_46, e_42, k_43, f_47, rfl, rfl⟩
 refine go ?_
 refine jD 9 (mc x_44 m_45) ?_
 refine go ?_
 have hno := kids_ok e_42
 refine jL (fun k_ e_ L_ => ∃ j_ : Nat, ∃ t_ : Str, (j_ ≤ l_46.length) ∧ (t_.length ≤ j_ * 1048577) ∧ (joinD (l_46.drop j_) t_ = joinD l_46 []) ∧ EL e_ [(3, .pointer (some ⟨b_1, 0, none⟩)), (6, .pointer (some ⟨b_3, 0, none⟩)), (7, .pointer (some ⟨b_4, 0, none⟩)), (8, .pointer (some ⟨b_5, 0, none⟩)), (9, .slice l_46a l_46.length l_46c), (10, nv j_)] ∧ L_ = [rC x_44.a0 x_44.c0 m_45.s, rS x_44.a1 x_44.c1 m_45.r, rS x_44.a2 x_44.c2 m_45.w, rI l_46a l_46c l_46, Res.row (.slice a_41 0 0) 3 1 0 (([] : List Int).map (Value.int .i64)), bk b_5 39 [iv 0, iv 0, str t_], bk b_4 39 [iv 0, iv 0, str []], bk b_3 60 zC, bk b_2 43 [iv c.kind, str c.name, str c.to_, iv c.a, iv c.b, str c.text], mb b_1 x_44 m_45] ∧ k_ = l_46.length + 1 - j_) _ ⟨0, [], (by omega), (by simp), rfl, EL.go, rfl, rfl⟩ ?_
 rintro _ _ _ ⟨j_, t_, hj, ht, hR, ⟨_, rfl⟩, rfl, rfl⟩
 refine go ?_
 by_cases h_48 : ((j_ : Nat) : Int) < ((l_46.length : Nat) : Int)
 · have hlt : j_ < l_46.length := by omega
   have hbj := hno _ (getD_mem (d := 0) hlt)
   refine go ?_
   refine jH [5] 9 ?_
   refine go ?_
   refine JA.facts fun hst => ?_
   obtain ⟨hr_49, hr_49b, -⟩ := row_some 3 rfl (by omega) hst
   refine go ?_
   refine jB (i := 5) ?_
   refine ja rfl rfl (jm (jr 3 (v := iv (l_46.getD j_ 0)) rfl rfl kR (atI (by omega)))) ?_
   rintro _ _ ⟨rfl, rfl⟩
   refine ⟨all_go, ?_⟩
   refine jB (i := 6) ?_
   refine jI [] (N_sDec (l_46.getD j_ 0) (by omega)) ?_
   rintro _ _ ⟨u_56, e_54, f_57, rfl, rfl⟩
   refine go ?_
   refine jB (i := 10) ?_
   refine jS 5 [iv 0, iv 0, str ((t_ ++ u_56) ++ [32])] ?_
   refine go ?_
   exact jP [0, 0, 0, 0, 0, 0, 0, 0, 0, 0] ⟨(j_ + 1), ((t_ ++ u_56) ++ [32]), (by omega), (by simp only [LE]; omega), (by rw [drop_at (getD_some (d := 0) hlt)] at hR; simp only [joinD, e_54] at hR; first | exact hR | (simp only [List.append_assoc] at hR ⊢; exact hR)), EL.go, rfl, rfl⟩
 rw [List.drop_of_length_le (by omega)] at hR
 simp only [joinD] at hR
 have hRE := hR.symm
 refine go ?_
 refine jH [5, 8] 3 ?_
 refine go ?_
 refine jB (i := 2) ?_
 refine jp 7 (mc x_44 m_45) ?_
 refine jB (i := 3) ?_
 refine jS 6 [iv 0, iv 0, str t_] ?_
 refine go ?_
 exact jQ [0, 0, 0] ⟨x_44, m_45, (⟨0, 0, t_⟩ : AN), (by simp only [MS.doProc, h_6, h_20, h_32, e_42, h_48, hRE, SB]; (repeat (first | rw [if_pos (by omega)] | rw [if_neg (by omega)])); all_goals (first | rfl | simp only [SB, h_6, h_20, h_32, e_42, h_48, hRE])), (k_43.mono (by omega) (by omega)), (by (try dsimp only); (try simp only [List.length_nil]); omega), rfl, rfl⟩

theorem M_doFile (x : MA) (m : MS) {S T : Nat} (hk : m.ok S T) (hS : S ≤ 28500000) (hT : T ≤ 1020000000) (c : CL) (hc : c.ok 1048576) :
   Ct Tryz.prog 236 [mv x m, .agg #[.int .i64 c.kind, str c.name, str c.to_, .int .i64 c.a, .int .i64 c.b, str c.text]] (mr x m) (fun _ => True) (fun v A' => ∃ x' m' r0, MS.doFile m c = (m', r0) ∧ m'.ok (S + 12) (T + 141) ∧ ((0 ≤ r0.code ∧ r0.code ≤ 9) ∧ (-1 ≤ r0.n ∧ r0.n ≤ 1000000000) ∧ r0.text.length ≤ 30000000000000) ∧ v = .tuple #[mv x' m', .agg #[.int .i64 r0.code, .int .i64 r0.n, str r0.text]] ∧ A' = mr x' m') := by
 refine Ct.intro Tryz.func236 rfl Tryz.ntmps236 (lb rfl) fun w0 hpre => ?_
 obtain ⟨hc1, hc2, hc3, hc4, hc5, hc6⟩ := id hc
 refine go ?_
 refine jM (mc x m) fun b_1 => ?_
 refine jM [iv c.kind, str c.name, str c.to_, iv c.a, iv c.b, str c.text] fun b_2 => ?_
 refine jG zC fun b_3 => ?_
 refine jG [iv 0, iv 0, str []] fun b_4 => ?_
 refine go ?_
 refine jA [4, 4, 4] (M_fileOf x m hk (by omega) (by omega) c.name (by omega)) ?_
 rintro _ _ ⟨x_7, m_8, n_9, e_5, k_6, f_10, rfl, rfl⟩
 refine go ?_
 refine jD 6 (mc x_7 m_8) ?_
 refine go ?_
 by_cases h_11 : n_9 = 0
 · refine go ?_
   refine jK (je (ps := [(0, iv 2)]) (cs := [iv 2, iv 0, str []]) rfl (by kernel_rfl)) ?_
   refine jD 4 (mc x_7 m_8) ?_
   refine jD 3 [iv 2, iv 0, str []] ?_
   refine go ?_
   exact jQ [0, 0, 0] ⟨x_7, m_8, (⟨2, 0, []⟩ : AN), (by simp only [MS.doFile, e_5, h_11, SB]; (repeat (first | rw [if_pos (by omega)] | rw [if_neg (by omega)])); all_goals (first | rfl | simp only [SB, e_5, h_11])), (k_6.mono (by omega) (by omega)), (by (try dsimp only); (try simp only [List.length_nil]); omega), rfl, rfl⟩
 refine go ?_
 refine jK (je (ps := []) (cs := [iv 0, iv 0, str []]) rfl (by kernel_rfl)) ?_
 refine jG [iv 0, iv 0, str []] fun b_12 => ?_
 refine jD 0 [iv 0, iv 0, str []] ?_
 refine go ?_
 by_cases h_13 : c.kind = 6
 · refine go ?_
   refine jA [1, 1, 1] (M_readFile x_7 m_8 k_6 (by omega) (by omega) n_9 c.a c.b (by omega) (by omega) (by omega)) ?_
   rintro _ _ ⟨x_16, m_17, u_18, e_14, k_15, f_19, rfl, rfl⟩
   refine go ?_
   refine jD 7 (mc x_16 m_17) ?_
   refine go ?_
   refine jD 3 [iv 0, iv 0, str u_18] ?_
   refine go ?_
   refine jH [3, 6] 3 ?_
   refine go ?_
   refine jB (i := 2) ?_
   refine jp 5 (mc x_16 m_17) ?_
   refine jB (i := 3) ?_
   refine jS 4 [iv 0, iv 0, str u_18] ?_
   refine go ?_
   exact jQ [0, 0, 0] ⟨x_16, m_17, (⟨0, 0, u_18⟩ : AN), (by simp only [MS.doFile, e_5, h_11, h_13, e_14, SB]; (repeat (first | rw [if_pos (by omega)] | rw [if_neg (by omega)])); all_goals (first | rfl | simp only [SB, e_5, h_11, h_13, e_14])), (k_15.mono (by omega) (by omega)), (by (try dsimp only); (try simp only [List.length_nil]); omega), rfl, rfl⟩
 refine go ?_
 by_cases h_20 : c.kind = 7
 · refine go ?_
   refine jA [1, 1, 1] (M_writeFile x_7 m_8 k_6 (by omega) (by omega) n_9 c.a c.text (by omega) (by omega) (by omega)) ?_
   rintro _ _ ⟨x_23, m_24, n_25, e_21, k_22, f_26, rfl, rfl⟩
   refine go ?_
   refine jD 7 (mc x_23 m_24) ?_
   refine go ?_
   refine jD 3 [iv n_25, iv 0, str []] ?_
   refine go ?_
   refine jH [3, 6] 3 ?_
   refine go ?_
   refine jB (i := 2) ?_
   refine jp 5 (mc x_23 m_24) ?_
   refine jB (i := 3) ?_
   refine jS 4 [iv n_25, iv 0, str []] ?_
   refine go ?_
   exact jQ [0, 0, 0] ⟨x_23, m_24, (⟨n_25, 0, []⟩ : AN), (by simp only [MS.doFile, e_5, h_11, h_13, h_20, e_21, SB]; (repeat (first | rw [if_pos (by omega)] | rw [if_neg (by omega)])); all_goals (first | rfl | simp only [SB, e_5, h_11, h_13, h_20, e_21])), (k_22.mono (by omega) (by omega)), (by (try dsimp only); (try simp only [List.length_nil]); omega), rfl, rfl⟩
 refine go ?_
 refine jA [1, 1, 1] (M_cutFile x_7 m_8 k_6 (by omega) (by omega) n_9 c.a (by omega) (by omega)) ?_
 rintro _ _ ⟨x_29, m_30, n_31, e_27, k_28, f_32, rfl, rfl⟩
 refine go ?_
 refine jD 7 (mc x_29 m_30) ?_
 refine go ?_
 refine jD 3 [iv n_31, iv 0, str []] ?_
 refine go ?_
 refine jH [3, 6] 3 ?_
 refine go ?_
 refine jB (i := 2) ?_
 refine jp 5 (mc x_29 m_30) ?_
 refine jB (i := 3) ?_
 refine jS 4 [iv n_31, iv 0, str []] ?_
 refine go ?_
 exact jQ [0, 0, 0] ⟨x_29, m_30, (⟨n_31, 0, []⟩ : AN), (by simp only [MS.doFile, e_5, h_11, h_13, h_20, e_27, SB]; (repeat (first | rw [if_pos (by omega)] | rw [if_neg (by omega)])); all_goals (first | rfl | simp only [SB, e_5, h_11, h_13, h_20, e_27])), (k_28.mono (by omega) (by omega)), (by (try dsimp only); (try simp only [List.length_nil]); omega), rfl, rfl⟩

theorem M_do (x : MA) (m : MS) {S T : Nat} (hk : m.ok S T) (hS : S ≤ 28000000) (hT : T ≤ 1010000000) (proc : Int) (c : CL) (hproc : -9223372036854775808 ≤ proc ∧ proc ≤ 9223372036854775807) (hc : c.ok 1048576) :
   Ct Tryz.prog 123 [mv x m, .int .i64 proc, .agg #[.int .i64 c.kind, str c.name, str c.to_, .int .i64 c.a, .int .i64 c.b, str c.text]] (mr x m) (fun _ => True) (fun v A' => ∃ x' m' r0, MS.doCall m proc c = (m', r0) ∧ m'.ok (3 * S + 20) (T + 7 * S + 200) ∧ ((0 ≤ r0.code ∧ r0.code ≤ 9) ∧ (-1 ≤ r0.n ∧ r0.n ≤ 1000000000) ∧ r0.text.length ≤ 30000000000000) ∧ v = .tuple #[mv x' m', .agg #[.int .i64 r0.code, .int .i64 r0.n, str r0.text]] ∧ A' = mr x' m') := by
 refine Ct.intro Tryz.func123 rfl Tryz.ntmps123 (lb rfl) fun w0 hpre => ?_
 obtain ⟨hc1, hc2, hc3, hc4, hc5, hc6⟩ := id hc
 refine go ?_
 refine jM (mc x m) fun b_1 => ?_
 refine jM [iv c.kind, str c.name, str c.to_, iv c.a, iv c.b, str c.text] fun b_2 => ?_
 refine jG zC fun b_3 => ?_
 refine jG [iv 0, iv 0, str []] fun b_4 => ?_
 refine go ?_
 refine jA [4, 4, 4] (M_state x m hk (by omega) (by omega) proc (by omega)) ?_
 rintro _ _ ⟨x_7, m_8, n_9, e_5, k_6, f_10, rfl, rfl⟩
 refine go ?_
 refine jD 6 (mc x_7 m_8) ?_
 refine go ?_
 by_cases h_11 : n_9 = 1
 · refine go ?_
   refine jA [] (N_scallOk c hc) ?_
   rintro _ _ ⟨b_14, e_12, rfl, rfl⟩
   refine go ?_
   rcases Bool.eq_false_or_eq_true (b_14) with h_15 | h_15
   · refine go ?_
     refine jK (je (ps := []) (cs := [iv 0, iv 0, str []]) rfl (by kernel_rfl)) ?_
     refine jG [iv 0, iv 0, str []] fun b_16 => ?_
     refine jD 0 [iv 0, iv 0, str []] ?_
     refine go ?_
     by_cases h_17 : c.kind = 1
     · refine go ?_
       refine jA [1, 1, 1] (M_makeName x_7 m_8 k_6 (by omega) (by omega) c.name (by omega)) ?_
       rintro _ _ ⟨x_20, m_21, n_22, n_24, e_18, k_19, f_23, f_25, rfl, rfl⟩
       refine go ?_
       refine jD 7 (mc x_20 m_21) ?_
       refine go ?_
       refine jD 3 [iv 0, iv n_22, str []] ?_
       refine go ?_
       refine jD 3 [iv n_24, iv n_22, str []] ?_
       refine go ?_
       refine jH [3, 6] 3 ?_
       refine go ?_
       refine jB (i := 2) ?_
       refine jp 5 (mc x_20 m_21) ?_
       refine jB (i := 3) ?_
       refine jS 4 [iv n_24, iv n_22, str []] ?_
       refine go ?_
       exact jQ [0, 0, 0] ⟨x_20, m_21, (⟨n_24, n_22, []⟩ : AN), (by simp only [MS.doCall, MS.doKind, e_5, h_11, e_12, h_15, h_17, e_18, SB]; (repeat (first | rw [if_pos (by omega)] | rw [if_neg (by omega)])); all_goals (first | rfl | simp only [SB, e_5, h_11, e_12, h_15, h_17, e_18])), (k_19.mono (by omega) (by omega)), (by (try dsimp only); (try simp only [List.length_nil]); omega), rfl, rfl⟩
     refine go ?_
     by_cases h_26 : c.kind = 2
     · refine go ?_
       refine jA [1, 1, 1] (M_linkName x_7 m_8 k_6 (by omega) (by omega) c.name c.to_ (by omega) (by omega)) ?_
       rintro _ _ ⟨x_29, m_30, n_31, e_27, k_28, f_32, rfl, rfl⟩
       refine go ?_
       refine jD 7 (mc x_29 m_30) ?_
       refine go ?_
       refine jD 3 [iv n_31, iv 0, str []] ?_
       refine go ?_
       refine jH [3, 6] 3 ?_
       refine go ?_
       refine jB (i := 2) ?_
       refine jp 5 (mc x_29 m_30) ?_
       refine jB (i := 3) ?_
       refine jS 4 [iv n_31, iv 0, str []] ?_
       refine go ?_
       exact jQ [0, 0, 0] ⟨x_29, m_30, (⟨n_31, 0, []⟩ : AN), (by simp only [MS.doCall, MS.doKind, e_5, h_11, e_12, h_15, h_17, h_26, e_27, SB]; (repeat (first | rw [if_pos (by omega)] | rw [if_neg (by omega)])); all_goals (first | rfl | simp only [SB, e_5, h_11, e_12, h_15, h_17, h_26, e_27])), (k_28.mono (by omega) (by omega)), (by (try dsimp only); (try simp only [List.length_nil]); omega), rfl, rfl⟩
     refine go ?_
     by_cases h_33 : c.kind = 3
     · refine go ?_
       refine jA [1, 1, 1] (M_unlinkName x_7 m_8 k_6 (by omega) (by omega) c.name (by omega)) ?_
       rintro _ _ ⟨x_36, m_37, n_38, e_34, k_35, f_39, rfl, rfl⟩
       refine go ?_
       refine jD 7 (mc x_36 m_37) ?_
       refine go ?_
       refine jD 3 [iv n_38, iv 0, str []] ?_
       refine go ?_
       refine jH [3, 6] 3 ?_
       refine go ?_
       refine jB (i := 2) ?_
       refine jp 5 (mc x_36 m_37) ?_
       refine jB (i := 3) ?_
       refine jS 4 [iv n_38, iv 0, str []] ?_
       refine go ?_
       exact jQ [0, 0, 0] ⟨x_36, m_37, (⟨n_38, 0, []⟩ : AN), (by simp only [MS.doCall, MS.doKind, e_5, h_11, e_12, h_15, h_17, h_26, h_33, e_34, SB]; (repeat (first | rw [if_pos (by omega)] | rw [if_neg (by omega)])); all_goals (first | rfl | simp only [SB, e_5, h_11, e_12, h_15, h_17, h_26, h_33, e_34])), (k_35.mono (by omega) (by omega)), (by (try dsimp only); (try simp only [List.length_nil]); omega), rfl, rfl⟩
     refine go ?_
     by_cases h_40 : c.kind = 4
     · refine go ?_
       refine jA [1, 1, 1] (M_renameName x_7 m_8 k_6 (by omega) (by omega) c.name c.to_ (by omega) (by omega)) ?_
       rintro _ _ ⟨x_43, m_44, n_45, e_41, k_42, f_46, rfl, rfl⟩
       refine go ?_
       refine jD 7 (mc x_43 m_44) ?_
       refine go ?_
       refine jD 3 [iv n_45, iv 0, str []] ?_
       refine go ?_
       refine jH [3, 6] 3 ?_
       refine go ?_
       refine jB (i := 2) ?_
       refine jp 5 (mc x_43 m_44) ?_
       refine jB (i := 3) ?_
       refine jS 4 [iv n_45, iv 0, str []] ?_
       refine go ?_
       exact jQ [0, 0, 0] ⟨x_43, m_44, (⟨n_45, 0, []⟩ : AN), (by simp only [MS.doCall, MS.doKind, *, SB]; (repeat (first | rw [if_pos (by omega)] | rw [if_neg (by omega)])); all_goals (first | rfl | simp only [SB, *])), (k_42.mono (by omega) (by omega)), (by (try dsimp only); (try simp only [List.length_nil]); omega), rfl, rfl⟩
     refine go ?_
     by_cases h_47 : c.kind = 5
     · refine go ?_
       refine jA [1, 1, 1] (M_doNames x_7 m_8 k_6 (by omega) (by omega)) ?_
       rintro _ _ ⟨x_50, m_51, A_52, e_48, k_49, f_53, rfl, rfl⟩
       refine go ?_
       refine jD 5 (mc x_50 m_51) ?_
       refine jD 4 [iv A_52.code, iv A_52.n, str A_52.text] ?_
       refine go ?_
       exact jQ [0, 0, 0] ⟨x_50, m_51, A_52, (by simp only [MS.doCall, MS.doKind, *, SB]; (repeat (first | rw [if_pos (by omega)] | rw [if_neg (by omega)])); all_goals (first | rfl | simp only [SB, *])), (k_49.mono (by omega) (by omega)), (by (try dsimp only); (try simp only [List.length_nil]); omega), rfl, rfl⟩
     refine go ?_
     by_cases h_54 : c.kind = 6
     · refine go ?_
       refine jA [1, 1, 1] (M_doFile x_7 m_8 k_6 (by omega) (by omega) c hc) ?_
       rintro _ _ ⟨x_57, m_58, A_59, e_55, k_56, f_60, rfl, rfl⟩
       refine go ?_
       refine jD 5 (mc x_57 m_58) ?_
       refine jD 4 [iv A_59.code, iv A_59.n, str A_59.text] ?_
       refine go ?_
       exact jQ [0, 0, 0] ⟨x_57, m_58, A_59, (by simp only [MS.doCall, MS.doKind, *, SB]; (repeat (first | rw [if_pos (by omega)] | rw [if_neg (by omega)])); all_goals (first | rfl | simp only [SB, *])), (k_56.mono (by omega) (by omega)), (by (try dsimp only); (try simp only [List.length_nil]); omega), rfl, rfl⟩
     refine go ?_
     by_cases h_61 : c.kind = 7
     · refine go ?_
       refine jA [1, 1, 1] (M_doFile x_7 m_8 k_6 (by omega) (by omega) c hc) ?_
       rintro _ _ ⟨x_64, m_65, A_66, e_62, k_63, f_67, rfl, rfl⟩
       refine go ?_
       refine jD 5 (mc x_64 m_65) ?_
       refine jD 4 [iv A_66.code, iv A_66.n, str A_66.text] ?_
       refine go ?_
       exact jQ [0, 0, 0] ⟨x_64, m_65, A_66, (by simp only [MS.doCall, MS.doKind, *, SB]; (repeat (first | rw [if_pos (by omega)] | rw [if_neg (by omega)])); all_goals (first | rfl | simp only [SB, *])), (k_63.mono (by omega) (by omega)), (by (try dsimp only); (try simp only [List.length_nil]); omega), rfl, rfl⟩
     refine go ?_
     by_cases h_68 : c.kind = 8
     · refine go ?_
       refine jA [1, 1, 1] (M_doFile x_7 m_8 k_6 (by omega) (by omega) c hc) ?_
       rintro _ _ ⟨x_71, m_72, A_73, e_69, k_70, f_74, rfl, rfl⟩
       refine go ?_
       refine jD 5 (mc x_71 m_72) ?_
       refine jD 4 [iv A_73.code, iv A_73.n, str A_73.text] ?_
       refine go ?_
       exact jQ [0, 0, 0] ⟨x_71, m_72, A_73, (by simp only [MS.doCall, MS.doKind, *, SB]; (repeat (first | rw [if_pos (by omega)] | rw [if_neg (by omega)])); all_goals (first | rfl | simp only [SB, *])), (k_70.mono (by omega) (by omega)), (by (try dsimp only); (try simp only [List.length_nil]); omega), rfl, rfl⟩
     refine go ?_
     by_cases h_75 : c.kind = 9
     · refine go ?_
       refine jA [1, 1, 1] (M_makePipe x_7 m_8 k_6 (by omega) (by omega)) ?_
       rintro _ _ ⟨x_78, m_79, n_80, n_82, e_76, k_77, f_81, f_83, rfl, rfl⟩
       refine go ?_
       refine jD 7 (mc x_78 m_79) ?_
       refine go ?_
       refine jD 3 [iv 0, iv n_80, str []] ?_
       refine go ?_
       refine jD 3 [iv n_82, iv n_80, str []] ?_
       refine go ?_
       refine jH [3, 6] 3 ?_
       refine go ?_
       refine jB (i := 2) ?_
       refine jp 5 (mc x_78 m_79) ?_
       refine jB (i := 3) ?_
       refine jS 4 [iv n_82, iv n_80, str []] ?_
       refine go ?_
       exact jQ [0, 0, 0] ⟨x_78, m_79, (⟨n_82, n_80, []⟩ : AN), (by simp only [MS.doCall, MS.doKind, *, SB]; (repeat (first | rw [if_pos (by omega)] | rw [if_neg (by omega)])); all_goals (first | rfl | simp only [SB, *])), (k_77.mono (by omega) (by omega)), (by (try dsimp only); (try simp only [List.length_nil]); omega), rfl, rfl⟩
     refine go ?_
     by_cases h_84 : c.kind = 10
     · refine go ?_
       refine jA [1, 1, 1] (M_putPipe x_7 m_8 k_6 (by omega) (by omega) c.a c.text (by omega) (by omega)) ?_
       rintro _ _ ⟨x_87, m_88, n_89, e_85, k_86, f_90, rfl, rfl⟩
       refine go ?_
       refine jD 7 (mc x_87 m_88) ?_
       refine go ?_
       refine jD 3 [iv n_89, iv 0, str []] ?_
       refine go ?_
       refine jH [3, 6] 3 ?_
       refine go ?_
       refine jB (i := 2) ?_
       refine jp 5 (mc x_87 m_88) ?_
       refine jB (i := 3) ?_
       refine jS 4 [iv n_89, iv 0, str []] ?_
       refine go ?_
       exact jQ [0, 0, 0] ⟨x_87, m_88, (⟨n_89, 0, []⟩ : AN), (by simp only [MS.doCall, MS.doKind, *, SB]; (repeat (first | rw [if_pos (by omega)] | rw [if_neg (by omega)])); all_goals (first | rfl | simp only [SB, *])), (k_86.mono (by omega) (by omega)), (by (try dsimp only); (try simp only [List.length_nil]); omega), rfl, rfl⟩
     refine go ?_
     by_cases h_91 : c.kind = 11
     · refine go ?_
       refine jA [1, 1, 1] (M_takePipe x_7 m_8 k_6 (by omega) (by omega) c.a (by omega)) ?_
       rintro _ _ ⟨x_94, m_95, u_96, n_98, e_92, k_93, f_97, f_99, rfl, rfl⟩
       refine go ?_
       refine jD 7 (mc x_94 m_95) ?_
       refine go ?_
       refine jD 3 [iv 0, iv 0, str u_96] ?_
       refine go ?_
       refine jD 3 [iv n_98, iv 0, str u_96] ?_
       refine go ?_
       refine jH [3, 6] 3 ?_
       refine go ?_
       refine jB (i := 2) ?_
       refine jp 5 (mc x_94 m_95) ?_
       refine jB (i := 3) ?_
       refine jS 4 [iv n_98, iv 0, str u_96] ?_
       refine go ?_
       exact jQ [0, 0, 0] ⟨x_94, m_95, (⟨n_98, 0, u_96⟩ : AN), (by simp only [MS.doCall, MS.doKind, *, SB]; (repeat (first | rw [if_pos (by omega)] | rw [if_neg (by omega)])); all_goals (first | rfl | simp only [SB, *])), (k_93.mono (by omega) (by omega)), (by (try dsimp only); (try simp only [List.length_nil]); omega), rfl, rfl⟩
     refine go ?_
     by_cases h_100 : c.kind = 16
     · refine go ?_
       refine jA [1, 1, 1] (M_send x_7 m_8 k_6 (by omega) (by omega) c.a c.b (by omega) (by omega)) ?_
       rintro _ _ ⟨x_103, m_104, n_105, e_101, k_102, f_106, rfl, rfl⟩
       refine go ?_
       refine jD 7 (mc x_103 m_104) ?_
       refine go ?_
       refine jD 3 [iv n_105, iv 0, str []] ?_
       refine go ?_
       refine jH [3, 6] 3 ?_
       refine go ?_
       refine jB (i := 2) ?_
       refine jp 5 (mc x_103 m_104) ?_
       refine jB (i := 3) ?_
       refine jS 4 [iv n_105, iv 0, str []] ?_
       refine go ?_
       exact jQ [0, 0, 0] ⟨x_103, m_104, (⟨n_105, 0, []⟩ : AN), (by simp only [MS.doCall, MS.doKind, *, SB]; (repeat (first | rw [if_pos (by omega)] | rw [if_neg (by omega)])); all_goals (first | rfl | simp only [SB, *])), (k_102.mono (by omega) (by omega)), (by (try dsimp only); (try simp only [List.length_nil]); omega), rfl, rfl⟩
     refine go ?_
     by_cases h_107 : c.kind = 17
     · refine go ?_
       refine jA [1, 1, 1] (M_takeSignal x_7 m_8 k_6 (by omega) (by omega) proc (by omega)) ?_
       rintro _ _ ⟨x_110, m_111, n_112, n_114, e_108, k_109, f_113, f_115, rfl, rfl⟩
       refine go ?_
       refine jD 7 (mc x_110 m_111) ?_
       refine go ?_
       refine jD 3 [iv 0, iv n_112, str []] ?_
       refine go ?_
       refine jD 3 [iv n_114, iv n_112, str []] ?_
       refine go ?_
       refine jH [3, 6] 3 ?_
       refine go ?_
       refine jB (i := 2) ?_
       refine jp 5 (mc x_110 m_111) ?_
       refine jB (i := 3) ?_
       refine jS 4 [iv n_114, iv n_112, str []] ?_
       refine go ?_
       exact jQ [0, 0, 0] ⟨x_110, m_111, (⟨n_114, n_112, []⟩ : AN), (by simp only [MS.doCall, MS.doKind, *, SB]; (repeat (first | rw [if_pos (by omega)] | rw [if_neg (by omega)])); all_goals (first | rfl | simp only [SB, *])), (k_109.mono (by omega) (by omega)), (by (try dsimp only); (try simp only [List.length_nil]); omega), rfl, rfl⟩
     refine go ?_
     by_cases h_116 : c.kind = 18
     · refine go ?_
       refine jA [1, 1, 1] (M_setTimer x_7 m_8 k_6 (by omega) (by omega) proc c.a (by omega) (by omega)) ?_
       rintro _ _ ⟨x_119, m_120, n_121, e_117, k_118, f_122, rfl, rfl⟩
       refine go ?_
       refine jD 7 (mc x_119 m_120) ?_
       refine go ?_
       refine jD 3 [iv n_121, iv 0, str []] ?_
       refine go ?_
       refine jH [3, 6] 3 ?_
       refine go ?_
       refine jB (i := 2) ?_
       refine jp 5 (mc x_119 m_120) ?_
       refine jB (i := 3) ?_
       refine jS 4 [iv n_121, iv 0, str []] ?_
       refine go ?_
       exact jQ [0, 0, 0] ⟨x_119, m_120, (⟨n_121, 0, []⟩ : AN), (by simp only [MS.doCall, MS.doKind, *, SB]; (repeat (first | rw [if_pos (by omega)] | rw [if_neg (by omega)])); all_goals (first | rfl | simp only [SB, *])), (k_118.mono (by omega) (by omega)), (by (try dsimp only); (try simp only [List.length_nil]); omega), rfl, rfl⟩
     refine go ?_
     by_cases h_123 : c.kind = 19
     · refine go ?_
       refine jA [1, 1, 1] (M_tick x_7 m_8 k_6 (by omega) (by omega) c.a (by omega)) ?_
       rintro _ _ ⟨x_126, m_127, n_128, n_130, e_124, k_125, f_129, f_131, rfl, rfl⟩
       refine go ?_
       refine jD 7 (mc x_126 m_127) ?_
       refine go ?_
       refine jD 3 [iv 0, iv n_128, str []] ?_
       refine go ?_
       refine jD 3 [iv n_130, iv n_128, str []] ?_
       refine go ?_
       refine jH [3, 6] 3 ?_
       refine go ?_
       refine jB (i := 2) ?_
       refine jp 5 (mc x_126 m_127) ?_
       refine jB (i := 3) ?_
       refine jS 4 [iv n_130, iv n_128, str []] ?_
       refine go ?_
       exact jQ [0, 0, 0] ⟨x_126, m_127, (⟨n_130, n_128, []⟩ : AN), (by simp only [MS.doCall, MS.doKind, *, SB]; (repeat (first | rw [if_pos (by omega)] | rw [if_neg (by omega)])); all_goals (first | rfl | simp only [SB, *])), (k_125.mono (by omega) (by omega)), (by (try dsimp only); (try simp only [List.length_nil]); omega), rfl, rfl⟩
     refine go ?_
     by_cases h_132 : c.kind = 20
     · refine go ?_
       refine jA [1, 1, 1] (M_storePage x_7 m_8 k_6 (by omega) (by omega) proc c.a c.text (by omega) (by omega) (by omega)) ?_
       rintro _ _ ⟨x_135, m_136, n_137, e_133, k_134, f_138, rfl, rfl⟩
       refine go ?_
       refine jD 7 (mc x_135 m_136) ?_
       refine go ?_
       refine jD 3 [iv n_137, iv 0, str []] ?_
       refine go ?_
       refine jH [3, 6] 3 ?_
       refine go ?_
       refine jB (i := 2) ?_
       refine jp 5 (mc x_135 m_136) ?_
       refine jB (i := 3) ?_
       refine jS 4 [iv n_137, iv 0, str []] ?_
       refine go ?_
       exact jQ [0, 0, 0] ⟨x_135, m_136, (⟨n_137, 0, []⟩ : AN), (by simp only [MS.doCall, MS.doKind, *, SB]; (repeat (first | rw [if_pos (by omega)] | rw [if_neg (by omega)])); all_goals (first | rfl | simp only [SB, *])), (k_134.mono (by omega) (by omega)), (by (try dsimp only); (try simp only [List.length_nil]); omega), rfl, rfl⟩
     refine go ?_
     by_cases h_139 : c.kind = 21
     · refine go ?_
       refine jA [1, 1, 1] (M_loadPage x_7 m_8 k_6 (by omega) (by omega) proc c.a (by omega) (by omega)) ?_
       rintro _ _ ⟨x_142, m_143, u_144, n_146, e_140, k_141, f_145, f_147, rfl, rfl⟩
       refine go ?_
       refine jD 7 (mc x_142 m_143) ?_
       refine go ?_
       refine jD 3 [iv 0, iv 0, str u_144] ?_
       refine go ?_
       refine jD 3 [iv n_146, iv 0, str u_144] ?_
       refine go ?_
       refine jH [3, 6] 3 ?_
       refine go ?_
       refine jB (i := 2) ?_
       refine jp 5 (mc x_142 m_143) ?_
       refine jB (i := 3) ?_
       refine jS 4 [iv n_146, iv 0, str u_144] ?_
       refine go ?_
       exact jQ [0, 0, 0] ⟨x_142, m_143, (⟨n_146, 0, u_144⟩ : AN), (by simp only [MS.doCall, MS.doKind, *, SB]; (repeat (first | rw [if_pos (by omega)] | rw [if_neg (by omega)])); all_goals (first | rfl | simp only [SB, *])), (k_141.mono (by omega) (by omega)), (by (try dsimp only); (try simp only [List.length_nil]); omega), rfl, rfl⟩
     refine go ?_
     by_cases h_148 : c.kind = 22
     · refine go ?_
       refine jA [1, 1, 1] (M_putOut x_7 m_8 k_6 (by omega) (by omega) c.text (by omega)) ?_
       rintro _ _ ⟨x_151, m_152, n_153, e_149, k_150, f_154, rfl, rfl⟩
       refine go ?_
       refine jD 7 (mc x_151 m_152) ?_
       refine go ?_
       refine jD 3 [iv n_153, iv 0, str []] ?_
       refine go ?_
       refine jH [3, 6] 3 ?_
       refine go ?_
       refine jB (i := 2) ?_
       refine jp 5 (mc x_151 m_152) ?_
       refine jB (i := 3) ?_
       refine jS 4 [iv n_153, iv 0, str []] ?_
       refine go ?_
       exact jQ [0, 0, 0] ⟨x_151, m_152, (⟨n_153, 0, []⟩ : AN), (by simp only [MS.doCall, MS.doKind, *, SB]; (repeat (first | rw [if_pos (by omega)] | rw [if_neg (by omega)])); all_goals (first | rfl | simp only [SB, *])), (k_150.mono (by omega) (by omega)), (by (try dsimp only); (try simp only [List.length_nil]); omega), rfl, rfl⟩
     refine go ?_
     refine jA [1, 1, 1] (M_doProc x_7 m_8 k_6 (by omega) (by omega) proc c (by omega) hc) ?_
     rintro _ _ ⟨x_157, m_158, A_159, e_155, k_156, f_160, rfl, rfl⟩
     refine go ?_
     refine jD 5 (mc x_157 m_158) ?_
     refine jD 4 [iv A_159.code, iv A_159.n, str A_159.text] ?_
     refine go ?_
     exact jQ [0, 0, 0] ⟨x_157, m_158, A_159, (by simp only [MS.doCall, MS.doKind, *, SB]; (repeat (first | rw [if_pos (by omega)] | rw [if_neg (by omega)])); all_goals (first | rfl | simp only [SB, *])), (k_156.mono (by omega) (by omega)), (by (try dsimp only); (try simp only [List.length_nil]); omega), rfl, rfl⟩
   refine go ?_
   refine jK (je (ps := [(0, iv 4)]) (cs := [iv 4, iv 0, str []]) rfl (by kernel_rfl)) ?_
   refine jD 4 (mc x_7 m_8) ?_
   refine jD 3 [iv 4, iv 0, str []] ?_
   refine go ?_
   exact jQ [0, 0, 0] ⟨x_7, m_8, (⟨4, 0, []⟩ : AN), (by simp only [MS.doCall, MS.doKind, e_5, h_11, e_12, h_15, SB]; (repeat (first | rw [if_pos (by omega)] | rw [if_neg (by omega)])); all_goals (first | rfl | simp only [SB, e_5, h_11, e_12, h_15])), (k_6.mono (by omega) (by omega)), (by (try dsimp only); (try simp only [List.length_nil]); omega), rfl, rfl⟩
 refine go ?_
 refine jK (je (ps := [(0, iv 2)]) (cs := [iv 2, iv 0, str []]) rfl (by kernel_rfl)) ?_
 refine jD 4 (mc x_7 m_8) ?_
 refine jD 3 [iv 2, iv 0, str []] ?_
 refine go ?_
 exact jQ [0, 0, 0] ⟨x_7, m_8, (⟨2, 0, []⟩ : AN), (by simp only [MS.doCall, MS.doKind, e_5, h_11, SB]; (repeat (first | rw [if_pos (by omega)] | rw [if_neg (by omega)])); all_goals (first | rfl | simp only [SB, e_5, h_11])), (k_6.mono (by omega) (by omega)), (by (try dsimp only); (try simp only [List.length_nil]); omega), rfl, rfl⟩
end Go.Proofs.YthlfmbbaomdciaaGreatDoor
