/-
  Texts of the walk, joined: what each one proves stands at its theorems.
-/
import Derived.Test.YtghfijncihbojaaGreatDoorDatL
import Derived.Test.YtghfijncihbojaaGreatDoorMo
import Derived.Test.YtghfijncihbojaaGreatDoorS22MACH
import Derived.Laws.StructEq
import Derived.Laws.Small
import Derived.Test.YtghfijncihbojaaGreatDoorS10SPEC
import Derived.Lib.MinMax
set_option linter.unusedSimpArgs false
set_option linter.unusedVariables false
set_option linter.unnecessarySimpa false
namespace Go.Proofs.YtghfijncihbojaaGreatDoor
open Go Go.RowKit
attribute [local irreducible] JL JC JQ JO LO PO JA JX Ct

theorem N_icallOk (c : CL) (hc : c.ok 1048576) :
    Ct Tryz.prog 98 [.agg #[.int .i64 c.kind, str c.name, str c.to_, .int .i64 c.a, .int .i64 c.b, str c.text]] ([]) (fun _ => True) (fun v A' => ∃ r0, callOk c = r0 ∧ v = .bool r0 ∧ A' = []) := by
  refine Ct.intro Tryz.func98 rfl Tryz.ntmps98 (lb rfl) fun w0 hpre => ?_
  obtain ⟨hc1, hc2, hc3, hc4, hc5, hc6⟩ := id hc
  refine jD <| jF ?_
  refine jH rfl (jv (cs := [iv c.kind, str c.name, str c.to_, iv c.a, iv c.b, str c.text]) rfl rfl) ?_
  rintro _ _ ⟨b_1, rfl, rfl⟩
  refine jA (jG (v := .bool false) rfl) <| jE <| jB <| jD <| jF <| jA (jY fo43_0 rfl) <| jT (jf 0 (v := iv c.kind) rfl rfl kl rfl) ?_
  refine jH rfl (jI [] Tryz.call35 rfl (C_within c.kind 1 22) rfl (fun _ _ => trivial)) ?_
  rintro _ _ ⟨_, ⟨rfl, rfl⟩, rfl⟩
  refine jA (jC (v := .bool (decide (1 ≤ c.kind) && decide (c.kind ≤ 22))) rfl) ?_
  rcases Bool.eq_false_or_eq_true (decide (1 ≤ c.kind) && decide (c.kind ≤ 22)) with h_2 | h_2
  · have h_2d := h_2
    simp only [Bool.and_eq_true, Bool.and_eq_false_iff, decide_eq_true_eq, decide_eq_false_iff_not] at h_2d
    refine jX rfl rfl rfl (cB h_2) (jZ (jd (jY fo43_1 rfl))) ?_
    rintro _ _ ⟨rfl, rfl⟩
    refine jX rfl rfl rfl (cB h_2) (jZ (jf 0 (v := str c.name) rfl rfl kg rfl)) ?_
    rintro _ _ ⟨rfl, rfl⟩
    refine jX rfl rfl rfl (cB h_2) (jZ (jd (kM kf rfl))) ?_
    rintro _ _ ⟨rfl, rfl⟩
    refine jX rfl rfl rfl (cB h_2) (jZ (jd (PO.leq rfl rfl))) ?_
    rintro _ _ ⟨rfl, rfl⟩
    refine jA (jw (v := .bool (decide ((c.name.length : Int) ≤ 20))) (cB h_2) rfl) <| jA (jC (v := .bool (decide ((c.name.length : Int) ≤ 20))) rfl) ?_
    by_cases h_3 : (c.name.length : Int) ≤ 20
    · refine jX rfl rfl rfl (cB (dT h_3)) (jZ (jd (jY fo43_2 rfl))) ?_
      rintro _ _ ⟨rfl, rfl⟩
      refine jX rfl rfl rfl (cB (dT h_3)) (jZ (jf 0 (v := str c.to_) rfl rfl kg rfl)) ?_
      rintro _ _ ⟨rfl, rfl⟩
      refine jX rfl rfl rfl (cB (dT h_3)) (jZ (jd (kM kf rfl))) ?_
      rintro _ _ ⟨rfl, rfl⟩
      refine jX rfl rfl rfl (cB (dT h_3)) (jZ (jd (PO.leq rfl rfl))) ?_
      rintro _ _ ⟨rfl, rfl⟩
      refine jA (jw (v := .bool (decide ((c.to_.length : Int) ≤ 20))) (cB (dT h_3)) rfl) <| jA (jC (v := .bool (decide ((c.to_.length : Int) ≤ 20))) rfl) ?_
      by_cases h_4 : (c.to_.length : Int) ≤ 20
      · refine jX rfl rfl rfl (cB (dT h_4)) (jZ (jd (jY fo43_5 rfl))) ?_
        rintro _ _ ⟨rfl, rfl⟩
        refine jX rfl rfl rfl (cB (dT h_4)) (jZ (jf 0 (v := str c.text) rfl rfl kg rfl)) ?_
        rintro _ _ ⟨rfl, rfl⟩
        refine jX rfl rfl rfl (cB (dT h_4)) (jZ (jd (kM kf rfl))) ?_
        rintro _ _ ⟨rfl, rfl⟩
        refine jX rfl rfl rfl (cB (dT h_4)) (jZ (jd (PO.leq rfl rfl))) ?_
        rintro _ _ ⟨rfl, rfl⟩
        refine jA (jw (v := .bool (decide ((c.text.length : Int) ≤ 64))) (cB (dT h_4)) rfl) <| jA (jG (v := .bool (decide ((c.text.length : Int) ≤ 64))) rfl) <| jE <| jB <| jM <| jU (.inl rfl) rfl (jN (v := .bool (decide ((c.text.length : Int) ≤ 64))) rfl) (List.nil_sublist _) ?_
        exact ⟨(decide ((c.text.length : Int) ≤ 64)), (decide_eq_decide.2 (by omega)), rfl, rfl⟩
      refine jO (b := false) rfl rfl rfl (cB (dF h_4)) <| jO (b := false) rfl rfl rfl (cB (dF h_4)) <| jO (b := false) rfl rfl rfl (cB (dF h_4)) <| jO (b := false) rfl rfl rfl (cB (dF h_4)) <| jA (js (v := .bool false) (cB (dF h_4)) rfl) <| jA (jG (v := .bool false) rfl) <| jE <| jB <| jM <| jU (.inl rfl) rfl (jN (v := .bool false) rfl) (List.nil_sublist _) ?_
      exact ⟨false, (dF (by omega)), rfl, rfl⟩
    refine jO (b := false) rfl rfl rfl (cB (dF h_3)) <| jO (b := false) rfl rfl rfl (cB (dF h_3)) <| jO (b := false) rfl rfl rfl (cB (dF h_3)) <| jO (b := false) rfl rfl rfl (cB (dF h_3)) <| jA (js (v := .bool false) (cB (dF h_3)) rfl) <| jA (jC (v := .bool false) rfl) <| jO (b := false) rfl rfl rfl (cB rfl) <| jO (b := false) rfl rfl rfl (cB rfl) <| jO (b := false) rfl rfl rfl (cB rfl) <| jO (b := false) rfl rfl rfl (cB rfl) ?_
    refine jA (js (v := .bool false) (cB rfl) rfl) <| jA (jG (v := .bool false) rfl) <| jE <| jB <| jM <| jU (.inl rfl) rfl (jN (v := .bool false) rfl) (List.nil_sublist _) ?_
    exact ⟨false, (dF (by omega)), rfl, rfl⟩
  have h_2d := h_2
  simp only [Bool.and_eq_true, Bool.and_eq_false_iff, decide_eq_true_eq, decide_eq_false_iff_not] at h_2d
  refine jO (b := false) rfl rfl rfl (cB h_2) <| jO (b := false) rfl rfl rfl (cB h_2) <| jO (b := false) rfl rfl rfl (cB h_2) <| jO (b := false) rfl rfl rfl (cB h_2) <| jA (js (v := .bool false) (cB h_2) rfl) <| jA (jC (v := .bool false) rfl) <| jO (b := false) rfl rfl rfl (cB rfl) <| jO (b := false) rfl rfl rfl (cB rfl) <| jO (b := false) rfl rfl rfl (cB rfl) <| jO (b := false) rfl rfl rfl (cB rfl) ?_
  refine jA (js (v := .bool false) (cB rfl) rfl) <| jA (jC (v := .bool false) rfl) <| jO (b := false) rfl rfl rfl (cB rfl) <| jO (b := false) rfl rfl rfl (cB rfl) <| jO (b := false) rfl rfl rfl (cB rfl) <| jO (b := false) rfl rfl rfl (cB rfl) <| jA (js (v := .bool false) (cB rfl) rfl) <| jA (jG (v := .bool false) rfl) <| jE <| jB ?_
  refine jM <| jU (.inl rfl) rfl (jN (v := .bool false) rfl) (List.nil_sublist _) ?_
  exact ⟨false, (dF (by omega)), rfl, rfl⟩

theorem N_doFile (p : Nat) (x : MA) (m : MS) {S T : Nat} (hk : m.ok S T) (hS : S ≤ 22000000) (hT : T ≤ 22000000) (c : CL) (hc : c.ok 1048576) :
    Ct Tryz.prog 104 [.pointer (some ⟨p, 0, none⟩), .agg #[.int .i64 c.kind, str c.name, str c.to_, .int .i64 c.a, .int .i64 c.b, str c.text]] (mb p x m :: mr x m) (fun w => HexOk w) (fun v A' => ∃ x' m' r0, MS.doFile m c = (m', r0) ∧ m'.ok (S + 12) (T + 141) ∧ ((0 ≤ r0.code ∧ r0.code ≤ 9) ∧ (-1 ≤ r0.n ∧ r0.n ≤ 1000000000) ∧ r0.text.length ≤ 30000000000000) ∧ v = .agg #[.int .i64 r0.code, .int .i64 r0.n, str r0.text] ∧ A' = mb p x' m' :: mr x' m') := by
  refine Ct.introL Tryz.func104 rfl Tryz.ntmps104 (lb rfl) fun w0 hpre hlow => ?_
  obtain ⟨hc1, hc2, hc3, hc4, hc5, hc6⟩ := id hc
  refine jD <| jF ?_
  refine jH rfl (jv (cs := [iv c.kind, str c.name, str c.to_, iv c.a, iv c.b, str c.text]) rfl rfl) ?_
  rintro _ _ ⟨b_1, rfl, rfl⟩
  refine jH rfl (jh (z := .agg #[iv 0, iv 0, str []]) (cs := [iv 0, iv 0, str []]) km rfl) ?_
  rintro _ _ ⟨b_2, rfl, rfl⟩
  refine jE <| jB <| jD <| jF <| jA (jC (v := pv p) rfl) <| jA (jY fo43_1 rfl) <| jT (jf 1 (v := str c.name) rfl rfl kg rfl) ?_
  refine jH rfl (jI [2, 2, 2, 2] Tryz.call163 rfl (N_fileOf p x m hk (by omega) (by omega) c.name (by omega)) rfl (fun _ _ => trivial)) ?_
  rintro _ _ ⟨_, ⟨x_5, m_6, n_7, e_3, k_4, f_8, rfl, rfl⟩, rfl⟩
  refine jA (jG (v := iv n_7) rfl) <| jE <| jB <| jD <| jD <| jF <| jA (jC (v := iv n_7) rfl) <| jA (jx rfl rfl) <| jE <| jB ?_
  by_cases h_9 : n_7 = 0
  · refine jQ (cB (dT h_9)) <| jD <| jF <| jA (kN (ps := [(0, iv 2)]) (cs := [iv 2, iv 0, str []]) rfl (by kernel_rfl)) ?_
    refine jH rfl (ja 4 (vs := [iv 2, iv 0, str []]) (cs' := [iv 2, iv 0, str []]) rfl rfl rfl rfl kc rfl rfl (lb rfl) rfl) ?_
    rintro _ _ rfl
    refine jE <| jB <| jM <| jb <| jU (.inl rfl) rfl (jg (je 4 (vs := [iv 2, iv 0, str []]) rfl rfl ke kc rfl rfl) ⟨_, rfl⟩) (tS 4 _) ?_
    exact ⟨x_5, m_6, (⟨2, 0, []⟩ : AN), (by simp only [MS.doFile, e_3, h_9, SB]; (repeat (first | rw [if_pos (by omega)] | rw [if_neg (by omega)])); all_goals (first | rfl | simp only [SB, e_3, h_9])), (k_4.mono (by omega) (by omega)), (by (try dsimp only); (try simp only [List.length_nil]); omega), rfl, rfl⟩
  refine jR (cB (dF h_9)) <| jW <| jB <| jD <| jD <| jF <| jA (jY fo43_0 rfl) <| jT (jf 5 (v := iv c.kind) rfl rfl kl rfl) <| jE <| jB ?_
  refine jl <| jD <| jF <| jA (jx rfl rfl) <| jA (jG (v := .bool (decide (c.kind = 6))) rfl) <| jE <| jB ?_
  by_cases h_10 : c.kind = 6
  · refine jQ (cB (dT h_10)) <| jD <| jF <| jA (jC (v := pv p) rfl) <| jA (jC (v := iv n_7) rfl) <| jA (jY fo43_3 rfl) <| jT (jf 5 (v := iv c.a) rfl rfl kl rfl) <| jA (jY fo43_4 rfl) <| jT (jf 5 (v := iv c.b) rfl rfl kl rfl) ?_
    refine jH rfl (jI [0, 0, 0, 0] Tryz.call172 rfl (N_readFile p x_5 m_6 k_4 (by omega) (by omega) n_7 c.a c.b (by omega) (by omega) (by omega)) rfl (fun w hw => hw.hex hlow hpre)) ?_
    rintro _ _ ⟨_, ⟨x_13, m_14, u_15, e_11, k_12, f_16, rfl, rfl⟩, rfl⟩
    refine jA (kN (ps := [(2, str u_15)]) (cs := [iv 0, iv 0, str u_15]) rfl (by kernel_rfl)) ?_
    refine jH rfl (ja 4 (vs := [iv 0, iv 0, str u_15]) (cs' := [iv 0, iv 0, str u_15]) rfl rfl rfl rfl kc rfl rfl (lb rfl) rfl) ?_
    rintro _ _ rfl
    refine jE <| jB <| jM <| kA <| jb <| jU (.inl rfl) rfl (jg (je 4 (vs := [iv 0, iv 0, str u_15]) rfl rfl ke kc rfl rfl) ⟨_, rfl⟩) (tS 4 _) ?_
    exact ⟨x_13, m_14, (⟨0, 0, u_15⟩ : AN), (by simp only [MS.doFile, e_3, h_9, h_10, e_11, SB]; (repeat (first | rw [if_pos (by omega)] | rw [if_neg (by omega)])); all_goals (first | rfl | simp only [SB, e_3, h_9, h_10, e_11])), (k_12.mono (by omega) (by omega)), (by (try dsimp only); (try simp only [List.length_nil]); omega), rfl, rfl⟩
  refine jR (cB (dF h_10)) <| jD <| jF <| jA (jx rfl rfl) <| jA (jG (v := .bool (decide (c.kind = 7))) rfl) <| jE <| jB ?_
  by_cases h_17 : c.kind = 7
  · refine jQ (cB (dT h_17)) <| jD <| jF <| jA (jC (v := pv p) rfl) <| jA (jC (v := iv n_7) rfl) <| jA (jY fo43_3 rfl) <| jT (jf 5 (v := iv c.a) rfl rfl kl rfl) <| jA (jY fo43_5 rfl) <| jT (jf 5 (v := str c.text) rfl rfl kg rfl) ?_
    refine jH rfl (jI [0, 0, 0, 0] Tryz.call173 rfl (N_writeFile p x_5 m_6 k_4 (by omega) (by omega) n_7 c.a c.text (by omega) (by omega) (by omega)) rfl (fun w hw => hw.hex hlow hpre)) ?_
    rintro _ _ ⟨_, ⟨x_20, m_21, n_22, e_18, k_19, f_23, rfl, rfl⟩, rfl⟩
    refine jA (kN (ps := [(0, iv n_22)]) (cs := [iv n_22, iv 0, str []]) rfl (by kernel_rfl)) ?_
    refine jH rfl (ja 4 (vs := [iv n_22, iv 0, str []]) (cs' := [iv n_22, iv 0, str []]) rfl rfl rfl rfl kc rfl rfl (lb rfl) rfl) ?_
    rintro _ _ rfl
    refine jE <| jB <| jM <| kA <| jb <| jU (.inl rfl) rfl (jg (je 4 (vs := [iv n_22, iv 0, str []]) rfl rfl ke kc rfl rfl) ⟨_, rfl⟩) (tS 4 _) ?_
    exact ⟨x_20, m_21, (⟨n_22, 0, []⟩ : AN), (by simp only [MS.doFile, e_3, h_9, h_10, h_17, e_18, SB]; (repeat (first | rw [if_pos (by omega)] | rw [if_neg (by omega)])); all_goals (first | rfl | simp only [SB, e_3, h_9, h_10, h_17, e_18])), (k_19.mono (by omega) (by omega)), (by (try dsimp only); (try simp only [List.length_nil]); omega), rfl, rfl⟩
  refine jR (cB (dF h_17)) <| jW <| jk <| jB <| jD <| jF <| jA (jC (v := pv p) rfl) <| jA (jC (v := iv n_7) rfl) <| jA (jY fo43_3 rfl) <| jT (jf 5 (v := iv c.a) rfl rfl kl rfl) ?_
  refine jH rfl (jI [0, 0, 0, 0] Tryz.call174 rfl (N_cutFile p x_5 m_6 k_4 (by omega) (by omega) n_7 c.a (by omega) (by omega)) rfl (fun w hw => hw.hex hlow hpre)) ?_
  rintro _ _ ⟨_, ⟨x_26, m_27, n_28, e_24, k_25, f_29, rfl, rfl⟩, rfl⟩
  refine jA (kN (ps := [(0, iv n_28)]) (cs := [iv n_28, iv 0, str []]) rfl (by kernel_rfl)) ?_
  refine jH rfl (ja 4 (vs := [iv n_28, iv 0, str []]) (cs' := [iv n_28, iv 0, str []]) rfl rfl rfl rfl kc rfl rfl (lb rfl) rfl) ?_
  rintro _ _ rfl
  refine jE <| jB <| jM <| jU (.inl rfl) rfl (jg (je 4 (vs := [iv n_28, iv 0, str []]) rfl rfl ke kc rfl rfl) ⟨_, rfl⟩) (tS 4 _) ?_
  exact ⟨x_26, m_27, (⟨n_28, 0, []⟩ : AN), (by simp only [MS.doFile, e_3, h_9, h_10, h_17, e_24, SB]; (repeat (first | rw [if_pos (by omega)] | rw [if_neg (by omega)])); all_goals (first | rfl | simp only [SB, e_3, h_9, h_10, h_17, e_24])), (k_25.mono (by omega) (by omega)), (by (try dsimp only); (try simp only [List.length_nil]); omega), rfl, rfl⟩

set_option maxHeartbeats 3000000 in
theorem N_do (p : Nat) (x : MA) (m : MS) {S T : Nat} (hk : m.ok S T) (hS : S ≤ 20000000) (hT : T ≤ 20000000) (proc : Int) (c : CL) (hproc : -9223372036854775808 ≤ proc ∧ proc ≤ 9223372036854775807) (hc : c.ok 1048576) :
    Ct Tryz.prog 52 [.pointer (some ⟨p, 0, none⟩), .int .i64 proc, .agg #[.int .i64 c.kind, str c.name, str c.to_, .int .i64 c.a, .int .i64 c.b, str c.text]] (mb p x m :: mr x m) (fun w => HexOk w) (fun v A' => ∃ x' m' r0, MS.doCall m proc c = (m', r0) ∧ m'.ok (3 * S + 20) (T + 7 * S + 200) ∧ ((0 ≤ r0.code ∧ r0.code ≤ 9) ∧ (-1 ≤ r0.n ∧ r0.n ≤ 1000000000) ∧ r0.text.length ≤ 30000000000000) ∧ v = .agg #[.int .i64 r0.code, .int .i64 r0.n, str r0.text] ∧ A' = mb p x' m' :: mr x' m') := by
  refine Ct.introL Tryz.func52 rfl Tryz.ntmps52 (lb rfl) fun w0 hpre hlow => ?_
  obtain ⟨hc1, hc2, hc3, hc4, hc5, hc6⟩ := id hc
  refine jD <| jF ?_
  refine jH rfl (jv (cs := [iv c.kind, str c.name, str c.to_, iv c.a, iv c.b, str c.text]) rfl rfl) ?_
  rintro _ _ ⟨b_1, rfl, rfl⟩
  refine jH rfl (jh (z := .agg #[iv 0, iv 0, str []]) (cs := [iv 0, iv 0, str []]) km rfl) ?_
  rintro _ _ ⟨b_2, rfl, rfl⟩
  refine jE <| jB <| jD <| jF ?_
  refine jH rfl (jh (z := .agg #[iv 0, iv 0, str []]) (cs := [iv 0, iv 0, str []]) km rfl) ?_
  rintro _ _ ⟨b_3, rfl, rfl⟩
  refine jE <| jB <| jD <| jl <| jD <| jF <| jA (jC (v := pv p) rfl) <| jA (jC (v := iv proc) rfl) ?_
  refine jH rfl (jI [3, 3, 3, 3] Tryz.call97 rfl (N_state p x m hk (by omega) (by omega) proc (by omega)) rfl (fun _ _ => trivial)) ?_
  rintro _ _ ⟨_, ⟨x_6, m_7, n_8, e_4, k_5, f_9, rfl, rfl⟩, rfl⟩
  refine jA (kO rfl rfl) <| jA (jG (v := .bool (!(decide (n_8 = 1)))) rfl) <| jE <| jB ?_
  by_cases h_10 : n_8 = 1
  · refine jR (cB (cN (dT h_10))) <| jD <| jF <| jT (je 6 (vs := [iv c.kind, str c.name, str c.to_, iv c.a, iv c.b, str c.text]) rfl rfl gE ky rfl rfl) ?_
    refine jH rfl (jI [] Tryz.call98 rfl (N_icallOk c hc) rfl (fun _ _ => trivial)) ?_
    rintro _ _ ⟨_, ⟨b_13, e_11, rfl, rfl⟩, rfl⟩
    refine jA (kF rfl) <| jA (jG (v := .bool (!b_13)) rfl) <| jE <| jB ?_
    rcases Bool.eq_false_or_eq_true (b_13) with h_14 | h_14
    · have hko := callOk_range (e_11.trans h_14)
      refine jR (cB (cN h_14)) <| jW <| jk <| jB <| jD <| jD <| jF <| jA (jY fo43_0 rfl) <| jT (jf 6 (v := iv c.kind) rfl rfl kl rfl) <| jE ?_
      refine jB <| jl <| jD <| jF <| jA (jx rfl rfl) <| jA (jG (v := .bool (decide (c.kind = 1))) rfl) <| jE <| jB ?_
      by_cases h_15 : c.kind = 1
      · refine jQ (cB (dT h_15)) <| jF <| jA (jC (v := pv p) rfl) <| jA (jY fo43_1 rfl) <| jT (jf 6 (v := str c.name) rfl rfl kg rfl) ?_
        refine jH rfl (jI [0, 0, 0, 0] Tryz.call99 rfl (N_makeName p x_6 m_7 k_5 (by omega) (by omega) c.name (by omega)) rfl (fun _ _ => trivial)) ?_
        rintro _ _ ⟨_, ⟨x_18, m_19, n_20, n_22, e_16, k_17, f_21, f_23, rfl, rfl⟩, rfl⟩
        refine jA (jC (v := .tuple #[iv n_20, iv n_22]) rfl) <| jA (jS (v := iv n_20) rfl rfl) <| jA (jS (v := iv n_22) rfl rfl) <| jA (jY fo37_1 rfl) ?_
        refine jH rfl (ja 4 (vs := [iv n_20]) (cs' := [iv 0, iv n_20, str []]) rfl rfl rfl rfl ko rfl rfl (lb rfl) rfl) ?_
        rintro _ _ rfl
        refine jA (jY fo37_0 rfl) ?_
        refine jH rfl (ja 4 (vs := [iv n_22]) (cs' := [iv n_22, iv n_20, str []]) rfl rfl rfl rfl ko rfl rfl (lb rfl) rfl) ?_
        rintro _ _ rfl
        refine jE <| jk <| jB <| jD <| jF <| jT (je 4 (vs := [iv n_22, iv n_20, str []]) rfl rfl ke kc rfl rfl) ?_
        refine jH rfl (ja 5 (vs := [iv n_22, iv n_20, str []]) (cs' := [iv n_22, iv n_20, str []]) rfl rfl rfl rfl kc rfl rfl (lb rfl) rfl) ?_
        rintro _ _ rfl
        refine jE <| jB <| jM <| jU (.inl rfl) rfl (jg (je 5 (vs := [iv n_22, iv n_20, str []]) rfl rfl ke kc rfl rfl) ⟨_, rfl⟩) (tS 4 _) ?_
        exact ⟨x_18, m_19, (⟨n_22, n_20, []⟩ : AN), (by simp only [MS.doCall, MS.doKind, MS.doNames, MS.doProc, e_4, h_10, e_11, h_14, h_15, e_16, SB]; (repeat (first | rw [if_pos (by omega)] | rw [if_neg (by omega)])); all_goals (first | rfl | simp only [SB, e_4, h_10, e_11, h_14, h_15, e_16])), (k_17.mono (by omega) (by omega)), (by (try dsimp only); (try simp only [List.length_nil]); omega), rfl, rfl⟩
      refine jR (cB (dF h_15)) <| jD <| jF <| jA (jx rfl rfl) <| jA (jG (v := .bool (decide (c.kind = 2))) rfl) <| jE <| jB ?_
      by_cases h_24 : c.kind = 2
      · refine jQ (cB (dT h_24)) <| jF <| jA (jC (v := pv p) rfl) <| jA (jY fo43_1 rfl) <| jT (jf 6 (v := str c.name) rfl rfl kg rfl) <| jA (jY fo43_2 rfl) <| jT (jf 6 (v := str c.to_) rfl rfl kg rfl) ?_
        refine jH rfl (jI [0, 0, 0, 0] Tryz.call100 rfl (N_linkName p x_6 m_7 k_5 (by omega) (by omega) c.name c.to_ (by omega) (by omega)) rfl (fun _ _ => trivial)) ?_
        rintro _ _ ⟨_, ⟨x_27, m_28, n_29, e_25, k_26, f_30, rfl, rfl⟩, rfl⟩
        refine jA (jY fo37_0 rfl) ?_
        refine jH rfl (ja 4 (vs := [iv n_29]) (cs' := [iv n_29, iv 0, str []]) rfl rfl rfl rfl ko rfl rfl (lb rfl) rfl) ?_
        rintro _ _ rfl
        refine jE <| jk <| jB <| jD <| jF <| jT (je 4 (vs := [iv n_29, iv 0, str []]) rfl rfl ke kc rfl rfl) ?_
        refine jH rfl (ja 5 (vs := [iv n_29, iv 0, str []]) (cs' := [iv n_29, iv 0, str []]) rfl rfl rfl rfl kc rfl rfl (lb rfl) rfl) ?_
        rintro _ _ rfl
        refine jE <| jB <| jM <| jU (.inl rfl) rfl (jg (je 5 (vs := [iv n_29, iv 0, str []]) rfl rfl ke kc rfl rfl) ⟨_, rfl⟩) (tS 4 _) ?_
        exact ⟨x_27, m_28, (⟨n_29, 0, []⟩ : AN), (by simp only [MS.doCall, MS.doKind, MS.doNames, MS.doProc, e_4, h_10, e_11, h_14, h_15, h_24, e_25, SB]; (repeat (first | rw [if_pos (by omega)] | rw [if_neg (by omega)])); all_goals (first | rfl | simp only [SB, e_4, h_10, e_11, h_14, h_15, h_24, e_25])), (k_26.mono (by omega) (by omega)), (by (try dsimp only); (try simp only [List.length_nil]); omega), rfl, rfl⟩
      refine jR (cB (dF h_24)) <| jD <| jF <| jA (jx rfl rfl) <| jA (jG (v := .bool (decide (c.kind = 3))) rfl) <| jE <| jB ?_
      by_cases h_31 : c.kind = 3
      · refine jQ (cB (dT h_31)) <| jF <| jA (jC (v := pv p) rfl) <| jA (jY fo43_1 rfl) <| jT (jf 6 (v := str c.name) rfl rfl kg rfl) ?_
        refine jH rfl (jI [0, 0, 0, 0] Tryz.call101 rfl (N_unlinkName p x_6 m_7 k_5 (by omega) (by omega) c.name (by omega)) rfl (fun _ _ => trivial)) ?_
        rintro _ _ ⟨_, ⟨x_34, m_35, n_36, e_32, k_33, f_37, rfl, rfl⟩, rfl⟩
        refine jA (jY fo37_0 rfl) ?_
        refine jH rfl (ja 4 (vs := [iv n_36]) (cs' := [iv n_36, iv 0, str []]) rfl rfl rfl rfl ko rfl rfl (lb rfl) rfl) ?_
        rintro _ _ rfl
        refine jE <| jk <| jB <| jD <| jF <| jT (je 4 (vs := [iv n_36, iv 0, str []]) rfl rfl ke kc rfl rfl) ?_
        refine jH rfl (ja 5 (vs := [iv n_36, iv 0, str []]) (cs' := [iv n_36, iv 0, str []]) rfl rfl rfl rfl kc rfl rfl (lb rfl) rfl) ?_
        rintro _ _ rfl
        refine jE <| jB <| jM <| jU (.inl rfl) rfl (jg (je 5 (vs := [iv n_36, iv 0, str []]) rfl rfl ke kc rfl rfl) ⟨_, rfl⟩) (tS 4 _) ?_
        exact ⟨x_34, m_35, (⟨n_36, 0, []⟩ : AN), (by simp only [MS.doCall, MS.doKind, MS.doNames, MS.doProc, e_4, h_10, e_11, h_14, h_15, h_24, h_31, e_32, SB]; (repeat (first | rw [if_pos (by omega)] | rw [if_neg (by omega)])); all_goals (first | rfl | simp only [SB, e_4, h_10, e_11, h_14, h_15, h_24, h_31, e_32])), (k_33.mono (by omega) (by omega)), (by (try dsimp only); (try simp only [List.length_nil]); omega), rfl, rfl⟩
      refine jR (cB (dF h_31)) <| jD <| jF <| jA (jx rfl rfl) <| jA (jG (v := .bool (decide (c.kind = 4))) rfl) <| jE <| jB ?_
      by_cases h_38 : c.kind = 4
      · refine jQ (cB (dT h_38)) <| jF <| jA (jC (v := pv p) rfl) <| jA (jY fo43_1 rfl) <| jT (jf 6 (v := str c.name) rfl rfl kg rfl) <| jA (jY fo43_2 rfl) <| jT (jf 6 (v := str c.to_) rfl rfl kg rfl) ?_
        refine jH rfl (jI [0, 0, 0, 0] Tryz.call102 rfl (N_renameName p x_6 m_7 k_5 (by omega) (by omega) c.name c.to_ (by omega) (by omega)) rfl (fun _ _ => trivial)) ?_
        rintro _ _ ⟨_, ⟨x_41, m_42, n_43, e_39, k_40, f_44, rfl, rfl⟩, rfl⟩
        refine jA (jY fo37_0 rfl) ?_
        refine jH rfl (ja 4 (vs := [iv n_43]) (cs' := [iv n_43, iv 0, str []]) rfl rfl rfl rfl ko rfl rfl (lb rfl) rfl) ?_
        rintro _ _ rfl
        refine jE <| jk <| jB <| jD <| jF <| jT (je 4 (vs := [iv n_43, iv 0, str []]) rfl rfl ke kc rfl rfl) ?_
        refine jH rfl (ja 5 (vs := [iv n_43, iv 0, str []]) (cs' := [iv n_43, iv 0, str []]) rfl rfl rfl rfl kc rfl rfl (lb rfl) rfl) ?_
        rintro _ _ rfl
        refine jE <| jB <| jM <| jU (.inl rfl) rfl (jg (je 5 (vs := [iv n_43, iv 0, str []]) rfl rfl ke kc rfl rfl) ⟨_, rfl⟩) (tS 4 _) ?_
        exact ⟨x_41, m_42, (⟨n_43, 0, []⟩ : AN), (by simp only [MS.doCall, MS.doKind, MS.doNames, MS.doProc, *, SB]; (repeat (first | rw [if_pos (by omega)] | rw [if_neg (by omega)])); all_goals (first | rfl | simp only [SB, *])), (k_40.mono (by omega) (by omega)), (by (try dsimp only); (try simp only [List.length_nil]); omega), rfl, rfl⟩
      refine jR (cB (dF h_38)) <| jD <| jF <| jA (jx rfl rfl) <| jA (jG (v := .bool (decide (c.kind = 5))) rfl) <| jE <| jB ?_
      by_cases h_45 : c.kind = 5
      · refine jQ (cB (dT h_45)) <| jD <| jF <| jA (jC (v := pv p) rfl) ?_
        refine jH rfl (jI [0, 0, 0, 0] Tryz.call103 rfl (N_names p x_6 m_7 k_5 (by omega) (by omega)) rfl (fun _ _ => trivial)) ?_
        rintro _ _ ⟨_, ⟨x_48, m_49, l_50a, l_50c, l_50, e_46, k_47, f_51, rfl, rfl⟩, rfl⟩
        refine jA (jy kd rfl) <| jA (jC (v := iv 0) rfl) <| jE <| jB <| jl ?_
        have hno := names_ok k_5 e_46
        refine kE (fun k_ e_ L_ => ∃ j_ : Nat, ∃ t_ : Str, (j_ ≤ l_50.length) ∧ (t_.length ≤ j_ * 1048577) ∧ (joinL (l_50.drop j_) t_ = joinL l_50 []) ∧ e_ 6 = .pointer (some ⟨b_2, 0, none⟩) ∧ e_ 7 = .pointer (some ⟨b_3, 0, none⟩) ∧ e_ 64 = .slice l_50a l_50.length l_50c ∧ e_ 65 = nv l_50.length ∧ e_ 66 = nv j_ ∧ L_ = [mb p x_48 m_49, rC x_48.a0 x_48.c0 m_49.s, rS x_48.a1 x_48.c1 m_49.r, rS x_48.a2 x_48.c2 m_49.w, rS l_50a l_50c l_50, bk b_3 37 [iv 0, iv 0, str t_], bk b_2 37 [iv 0, iv 0, str []], bk b_1 43 [iv c.kind, str c.name, str c.to_, iv c.a, iv c.b, str c.text]] ∧ k_ = l_50.length + 1 - j_) _ ⟨0, [], (by omega), (by simp), rfl, rfl, rfl, rfl, rfl, rfl, rfl, rfl⟩ ?_
        rintro _ e_52 _ ⟨j_, t_, hj, ht, hR, he_53, he_54, he_55, he_56, he_57, rfl, rfl⟩
        refine jD <| jF <| jA (jr he_57 he_56) <| jE <| jB <| jD ?_
        by_cases h_58 : ((j_ : Nat) : Int) < ((l_50.length : Nat) : Int)
        · have hlt : j_ < l_50.length := by omega
          have hbj := hno.2 j_ hlt
          refine jQ (cB (dT h_58)) <| jW <| jB <| jD <| jl <| jD <| jF ?_
          refine kW fun hst => ?_
          obtain ⟨hr_59, hr_59b, -⟩ := row_some 4 rfl (by omega) hst
          refine jA (kD (i := j_) kd kh hr_59 hr_59b he_55 he_57 (by omega)) <| jT (kX 4 (v := str (l_50.getD j_ [])) rfl rfl kg (atS (by omega))) <| jA (jG (v := str (l_50.getD j_ [])) rfl) <| jE <| jB <| jF <| jA (jY fo37_2 he_54) <| jT (jf 5 (v := str t_) rfl rfl kg rfl) <| jA (jC (v := str (l_50.getD j_ [])) rfl) <| jA (kS rfl rfl (by (try simp only [List.length_append, List.length_cons, List.length_nil, List.length_drop, List.length_take]); omega)) ?_
          refine jA (kS rfl rfl (by (try simp only [List.length_append, List.length_cons, List.length_nil, List.length_drop, List.length_take]); omega)) <| jA (jY fo37_2 he_54) ?_
          refine jH rfl (ja 5 (vs := [str (t_ ++ ((l_50.getD j_ []) ++ [32]))]) (cs' := [iv 0, iv 0, str (t_ ++ ((l_50.getD j_ []) ++ [32]))]) rfl rfl rfl rfl kh rfl rfl (lb rfl) rfl) ?_
          rintro _ _ rfl
          refine jE <| jk <| jB <| jF <| jA (ji (c := ((j_ + 1 : Nat) : Int)) he_57 rfl (wr (by omega))) <| jA (jC (v := iv ((j_ + 1 : Nat) : Int)) rfl) <| jE <| jt [0, 0, 0, 0, 0, 0, 0, 0] (A := [mb p x_48 m_49, rC x_48.a0 x_48.c0 m_49.s, rS x_48.a1 x_48.c1 m_49.r, rS x_48.a2 x_48.c2 m_49.w, rS l_50a l_50c l_50, bk b_3 37 [iv 0, iv 0, str (t_ ++ ((l_50.getD j_ []) ++ [32]))], bk b_2 37 [iv 0, iv 0, str []], bk b_1 43 [iv c.kind, str c.name, str c.to_, iv c.a, iv c.b, str c.text]]) rfl ?_
          refine ju (l_50.length + 1 - (j_ + 1)) (by omega) ⟨(j_ + 1), (t_ ++ ((l_50.getD j_ []) ++ [32])), (by omega), (by simp only [LE]; omega), (by rw [drop_at (getD_some (d := []) hlt)] at hR; simp only [joinL] at hR; first | exact hR | (simp only [List.append_assoc] at hR ⊢; exact hR)), he_53, he_54, he_55, he_56, rfl, rfl, rfl⟩
        rw [List.drop_of_length_le (by omega)] at hR
        simp only [joinL] at hR
        have hRE := hR.symm
        refine jR (cB (dF h_58)) <| kB <| jm <| jm <| kC <| jk <| jB <| jD <| jF <| jT (je 5 (vs := [iv 0, iv 0, str t_]) rfl he_54 ke kc rfl rfl) ?_
        refine jH rfl (ja 6 (vs := [iv 0, iv 0, str t_]) (cs' := [iv 0, iv 0, str t_]) rfl he_53 rfl rfl kc rfl rfl (lb rfl) rfl) ?_
        rintro _ _ rfl
        refine jE <| jB <| jM <| jU (.inl rfl) rfl (jg (je 6 (vs := [iv 0, iv 0, str t_]) rfl he_53 ke kc rfl rfl) ⟨_, he_53⟩) (tS 4 _) ?_
        exact ⟨x_48, m_49, (⟨0, 0, t_⟩ : AN), (by simp only [MS.doCall, MS.doKind, MS.doNames, MS.doProc, e_4, h_10, e_11, h_14, h_15, h_24, h_31, h_38, h_45, e_46, h_58, hRE, SB]; (repeat (first | rw [if_pos (by omega)] | rw [if_neg (by omega)])); all_goals (first | rfl | simp only [SB, e_4, h_10, e_11, h_14, h_15, h_24, h_31, h_38, h_45, e_46, h_58, hRE])), (k_47.mono (by omega) (by omega)), (by (try dsimp only); (try simp only [List.length_nil]); omega), rfl, rfl⟩
      refine jR (cB (dF h_45)) <| jD <| jD <| jF <| jA (jx rfl rfl) <| jA (jG (v := .bool (decide (c.kind = 6))) rfl) <| jE <| jB ?_
      by_cases h_60 : c.kind = 6
      · refine jQ (cB (dT h_60)) <| jW <| jB <| jQ (cB (dT h_60)) <| jD <| jF <| jA (jC (v := pv p) rfl) <| jT (je 6 (vs := [iv c.kind, str c.name, str c.to_, iv c.a, iv c.b, str c.text]) rfl rfl gE ky rfl rfl) ?_
        refine jH rfl (jI [0, 0, 0, 0] Tryz.call104 rfl (N_doFile p x_6 m_7 k_5 (by omega) (by omega) c hc) rfl (fun w hw => hw.hex hlow hpre)) ?_
        rintro _ _ ⟨_, ⟨x_63, m_64, A_65, e_61, k_62, f_66, rfl, rfl⟩, rfl⟩
        refine jH rfl (ja 5 (vs := [iv A_65.code, iv A_65.n, str A_65.text]) (cs' := [iv A_65.code, iv A_65.n, str A_65.text]) rfl rfl rfl rfl kc rfl rfl (lb rfl) rfl) ?_
        rintro _ _ rfl
        refine jE <| jB <| jM <| kA <| jb <| jU (.inl rfl) rfl (jg (je 5 (vs := [iv A_65.code, iv A_65.n, str A_65.text]) rfl rfl ke kc rfl rfl) ⟨_, rfl⟩) (tS 4 _) ?_
        exact ⟨x_63, m_64, A_65, (by simp only [MS.doCall, MS.doKind, MS.doNames, MS.doProc, *, SB]; (repeat (first | rw [if_pos (by omega)] | rw [if_neg (by omega)])); all_goals (first | rfl | simp only [SB, *])), (k_62.mono (by omega) (by omega)), (by (try dsimp only); (try simp only [List.length_nil]); omega), rfl, rfl⟩
      refine jR (cB (dF h_60)) <| jD <| jF <| jA (jx rfl rfl) <| jA (jG (v := .bool (decide (c.kind = 7))) rfl) <| jE <| jB ?_
      by_cases h_67 : c.kind = 7
      · refine jQ (cB (dT h_67)) <| jW <| jB <| jQ (cB (dT h_67)) <| jD <| jF <| jA (jC (v := pv p) rfl) <| jT (je 6 (vs := [iv c.kind, str c.name, str c.to_, iv c.a, iv c.b, str c.text]) rfl rfl gE ky rfl rfl) ?_
        refine jH rfl (jI [0, 0, 0, 0] Tryz.call104 rfl (N_doFile p x_6 m_7 k_5 (by omega) (by omega) c hc) rfl (fun w hw => hw.hex hlow hpre)) ?_
        rintro _ _ ⟨_, ⟨x_70, m_71, A_72, e_68, k_69, f_73, rfl, rfl⟩, rfl⟩
        refine jH rfl (ja 5 (vs := [iv A_72.code, iv A_72.n, str A_72.text]) (cs' := [iv A_72.code, iv A_72.n, str A_72.text]) rfl rfl rfl rfl kc rfl rfl (lb rfl) rfl) ?_
        rintro _ _ rfl
        refine jE <| jB <| jM <| kA <| jb <| jU (.inl rfl) rfl (jg (je 5 (vs := [iv A_72.code, iv A_72.n, str A_72.text]) rfl rfl ke kc rfl rfl) ⟨_, rfl⟩) (tS 4 _) ?_
        exact ⟨x_70, m_71, A_72, (by simp only [MS.doCall, MS.doKind, MS.doNames, MS.doProc, *, SB]; (repeat (first | rw [if_pos (by omega)] | rw [if_neg (by omega)])); all_goals (first | rfl | simp only [SB, *])), (k_69.mono (by omega) (by omega)), (by (try dsimp only); (try simp only [List.length_nil]); omega), rfl, rfl⟩
      refine jR (cB (dF h_67)) <| jF <| jA (jx rfl rfl) <| jA (jG (v := .bool (decide (c.kind = 8))) rfl) <| jE <| jB ?_
      by_cases h_74 : c.kind = 8
      · refine jQ (cB (dT h_74)) <| jD <| jF <| jA (jC (v := pv p) rfl) <| jT (je 6 (vs := [iv c.kind, str c.name, str c.to_, iv c.a, iv c.b, str c.text]) rfl rfl gE ky rfl rfl) ?_
        refine jH rfl (jI [0, 0, 0, 0] Tryz.call104 rfl (N_doFile p x_6 m_7 k_5 (by omega) (by omega) c hc) rfl (fun w hw => hw.hex hlow hpre)) ?_
        rintro _ _ ⟨_, ⟨x_77, m_78, A_79, e_75, k_76, f_80, rfl, rfl⟩, rfl⟩
        refine jH rfl (ja 5 (vs := [iv A_79.code, iv A_79.n, str A_79.text]) (cs' := [iv A_79.code, iv A_79.n, str A_79.text]) rfl rfl rfl rfl kc rfl rfl (lb rfl) rfl) ?_
        rintro _ _ rfl
        refine jE <| jB <| jM <| kA <| jb <| jU (.inl rfl) rfl (jg (je 5 (vs := [iv A_79.code, iv A_79.n, str A_79.text]) rfl rfl ke kc rfl rfl) ⟨_, rfl⟩) (tS 4 _) ?_
        exact ⟨x_77, m_78, A_79, (by simp only [MS.doCall, MS.doKind, MS.doNames, MS.doProc, *, SB]; (repeat (first | rw [if_pos (by omega)] | rw [if_neg (by omega)])); all_goals (first | rfl | simp only [SB, *])), (k_76.mono (by omega) (by omega)), (by (try dsimp only); (try simp only [List.length_nil]); omega), rfl, rfl⟩
      refine jR (cB (dF h_74)) <| jD <| jF <| jA (jx rfl rfl) <| jA (jG (v := .bool (decide (c.kind = 9))) rfl) <| jE <| jB ?_
      by_cases h_81 : c.kind = 9
      · refine jQ (cB (dT h_81)) <| jF <| jA (jC (v := pv p) rfl) ?_
        refine jH rfl (jI [0, 0, 0, 0] Tryz.call105 rfl (N_makePipe p x_6 m_7 k_5 (by omega) (by omega)) rfl (fun _ _ => trivial)) ?_
        rintro _ _ ⟨_, ⟨x_84, m_85, n_86, n_88, e_82, k_83, f_87, f_89, rfl, rfl⟩, rfl⟩
        refine jA (jC (v := .tuple #[iv n_86, iv n_88]) rfl) <| jA (jS (v := iv n_86) rfl rfl) <| jA (jS (v := iv n_88) rfl rfl) <| jA (jY fo37_1 rfl) ?_
        refine jH rfl (ja 4 (vs := [iv n_86]) (cs' := [iv 0, iv n_86, str []]) rfl rfl rfl rfl ko rfl rfl (lb rfl) rfl) ?_
        rintro _ _ rfl
        refine jA (jY fo37_0 rfl) ?_
        refine jH rfl (ja 4 (vs := [iv n_88]) (cs' := [iv n_88, iv n_86, str []]) rfl rfl rfl rfl ko rfl rfl (lb rfl) rfl) ?_
        rintro _ _ rfl
        refine jE <| jk <| jB <| jD <| jF <| jT (je 4 (vs := [iv n_88, iv n_86, str []]) rfl rfl ke kc rfl rfl) ?_
        refine jH rfl (ja 5 (vs := [iv n_88, iv n_86, str []]) (cs' := [iv n_88, iv n_86, str []]) rfl rfl rfl rfl kc rfl rfl (lb rfl) rfl) ?_
        rintro _ _ rfl
        refine jE <| jB <| jM <| jU (.inl rfl) rfl (jg (je 5 (vs := [iv n_88, iv n_86, str []]) rfl rfl ke kc rfl rfl) ⟨_, rfl⟩) (tS 4 _) ?_
        exact ⟨x_84, m_85, (⟨n_88, n_86, []⟩ : AN), (by simp only [MS.doCall, MS.doKind, MS.doNames, MS.doProc, *, SB]; (repeat (first | rw [if_pos (by omega)] | rw [if_neg (by omega)])); all_goals (first | rfl | simp only [SB, *])), (k_83.mono (by omega) (by omega)), (by (try dsimp only); (try simp only [List.length_nil]); omega), rfl, rfl⟩
      refine jR (cB (dF h_81)) <| jD <| jF <| jA (jx rfl rfl) <| jA (jG (v := .bool (decide (c.kind = 10))) rfl) <| jE <| jB ?_
      by_cases h_90 : c.kind = 10
      · refine jQ (cB (dT h_90)) <| jF <| jA (jC (v := pv p) rfl) <| jA (jY fo43_3 rfl) <| jT (jf 6 (v := iv c.a) rfl rfl kl rfl) <| jA (jY fo43_5 rfl) <| jT (jf 6 (v := str c.text) rfl rfl kg rfl) ?_
        refine jH rfl (jI [0, 0, 0, 0] Tryz.call106 rfl (N_putPipe p x_6 m_7 k_5 (by omega) (by omega) c.a c.text (by omega) (by omega)) rfl (fun _ _ => trivial)) ?_
        rintro _ _ ⟨_, ⟨x_93, m_94, n_95, e_91, k_92, f_96, rfl, rfl⟩, rfl⟩
        refine jA (jY fo37_0 rfl) ?_
        refine jH rfl (ja 4 (vs := [iv n_95]) (cs' := [iv n_95, iv 0, str []]) rfl rfl rfl rfl ko rfl rfl (lb rfl) rfl) ?_
        rintro _ _ rfl
        refine jE <| jk <| jB <| jD <| jF <| jT (je 4 (vs := [iv n_95, iv 0, str []]) rfl rfl ke kc rfl rfl) ?_
        refine jH rfl (ja 5 (vs := [iv n_95, iv 0, str []]) (cs' := [iv n_95, iv 0, str []]) rfl rfl rfl rfl kc rfl rfl (lb rfl) rfl) ?_
        rintro _ _ rfl
        refine jE <| jB <| jM <| jU (.inl rfl) rfl (jg (je 5 (vs := [iv n_95, iv 0, str []]) rfl rfl ke kc rfl rfl) ⟨_, rfl⟩) (tS 4 _) ?_
        exact ⟨x_93, m_94, (⟨n_95, 0, []⟩ : AN), (by simp only [MS.doCall, MS.doKind, MS.doNames, MS.doProc, *, SB]; (repeat (first | rw [if_pos (by omega)] | rw [if_neg (by omega)])); all_goals (first | rfl | simp only [SB, *])), (k_92.mono (by omega) (by omega)), (by (try dsimp only); (try simp only [List.length_nil]); omega), rfl, rfl⟩
      refine jR (cB (dF h_90)) <| jD <| jF <| jA (jx rfl rfl) <| jA (jG (v := .bool (decide (c.kind = 11))) rfl) <| jE <| jB ?_
      by_cases h_97 : c.kind = 11
      · refine jQ (cB (dT h_97)) <| jF <| jA (jC (v := pv p) rfl) <| jA (jY fo43_3 rfl) <| jT (jf 6 (v := iv c.a) rfl rfl kl rfl) ?_
        refine jH rfl (jI [0, 0, 0, 0] Tryz.call107 rfl (N_takePipe p x_6 m_7 k_5 (by omega) (by omega) c.a (by omega)) rfl (fun w hw => hw.hex hlow hpre)) ?_
        rintro _ _ ⟨_, ⟨x_100, m_101, u_102, n_104, e_98, k_99, f_103, f_105, rfl, rfl⟩, rfl⟩
        refine jA (jC (v := .tuple #[str u_102, iv n_104]) rfl) <| jA (jS (v := str u_102) rfl rfl) <| jA (jS (v := iv n_104) rfl rfl) <| jA (jY fo37_2 rfl) ?_
        refine jH rfl (ja 4 (vs := [str u_102]) (cs' := [iv 0, iv 0, str u_102]) rfl rfl rfl rfl kh rfl rfl (lb rfl) rfl) ?_
        rintro _ _ rfl
        refine jA (jY fo37_0 rfl) ?_
        refine jH rfl (ja 4 (vs := [iv n_104]) (cs' := [iv n_104, iv 0, str u_102]) rfl rfl rfl rfl ko rfl rfl (lb rfl) rfl) ?_
        rintro _ _ rfl
        refine jE <| jk <| jB <| jD <| jF <| jT (je 4 (vs := [iv n_104, iv 0, str u_102]) rfl rfl ke kc rfl rfl) ?_
        refine jH rfl (ja 5 (vs := [iv n_104, iv 0, str u_102]) (cs' := [iv n_104, iv 0, str u_102]) rfl rfl rfl rfl kc rfl rfl (lb rfl) rfl) ?_
        rintro _ _ rfl
        refine jE <| jB <| jM <| jU (.inl rfl) rfl (jg (je 5 (vs := [iv n_104, iv 0, str u_102]) rfl rfl ke kc rfl rfl) ⟨_, rfl⟩) (tS 4 _) ?_
        exact ⟨x_100, m_101, (⟨n_104, 0, u_102⟩ : AN), (by simp only [MS.doCall, MS.doKind, MS.doNames, MS.doProc, *, SB]; (repeat (first | rw [if_pos (by omega)] | rw [if_neg (by omega)])); all_goals (first | rfl | simp only [SB, *])), (k_99.mono (by omega) (by omega)), (by (try dsimp only); (try simp only [List.length_nil]); omega), rfl, rfl⟩
      refine jR (cB (dF h_97)) <| jD <| jF <| jA (jx rfl rfl) <| jA (jG (v := .bool (decide (c.kind = 12))) rfl) <| jE <| jB ?_
      by_cases h_106 : c.kind = 12
      · refine jQ (cB (dT h_106)) <| jD <| jF <| jA (jC (v := pv p) rfl) <| jA (jC (v := iv proc) rfl) ?_
        refine jH rfl (jI [0, 0, 0, 0] Tryz.call108 rfl (N_spawn p x_6 m_7 k_5 (by omega) (by omega) proc (by omega)) rfl (fun _ _ => trivial)) ?_
        rintro _ _ ⟨_, ⟨x_109, m_110, n_111, n_113, e_107, k_108, f_112, f_114, rfl, rfl⟩, rfl⟩
        refine jA (jC (v := .tuple #[iv n_111, iv n_113]) rfl) <| jA (jS (v := iv n_111) rfl rfl) <| jA (jS (v := iv n_113) rfl rfl) <| jA (jY fo37_1 rfl) ?_
        refine jH rfl (ja 4 (vs := [iv n_111]) (cs' := [iv 0, iv n_111, str []]) rfl rfl rfl rfl ko rfl rfl (lb rfl) rfl) ?_
        rintro _ _ rfl
        refine jA (jY fo37_0 rfl) ?_
        refine jH rfl (ja 4 (vs := [iv n_113]) (cs' := [iv n_113, iv n_111, str []]) rfl rfl rfl rfl ko rfl rfl (lb rfl) rfl) ?_
        rintro _ _ rfl
        refine jE <| jB <| jD <| jF <| jA (jY fo37_0 rfl) <| jT (jf 4 (v := iv n_113) rfl rfl kl rfl) <| jA (jx rfl rfl) <| jE <| jB ?_
        by_cases h_115 : n_113 = 0
        · refine jQ (cB (dT h_115)) <| jF <| jA (jC (v := pv p) rfl) <| jA (jC (v := iv proc) rfl) <| jA (jY fo37_1 rfl) <| jT (jf 4 (v := iv n_111) rfl rfl kl rfl) ?_
          refine jH rfl (jI [0, 0, 0, 0] Tryz.call109 rfl (N_forkPages p x_109 m_110 k_108 (by omega) (by omega) proc n_111 (by omega) (by omega)) rfl (fun _ _ => trivial)) ?_
          rintro _ _ ⟨_, ⟨x_118, m_119, e_116, k_117, rfl, rfl⟩, rfl⟩
          refine jE <| jk <| jB <| jD <| jF <| jT (je 4 (vs := [iv n_113, iv n_111, str []]) rfl rfl ke kc rfl rfl) ?_
          refine jH rfl (ja 5 (vs := [iv n_113, iv n_111, str []]) (cs' := [iv n_113, iv n_111, str []]) rfl rfl rfl rfl kc rfl rfl (lb rfl) rfl) ?_
          rintro _ _ rfl
          refine jE <| jB <| jM <| jU (.inl rfl) rfl (jg (je 5 (vs := [iv n_113, iv n_111, str []]) rfl rfl ke kc rfl rfl) ⟨_, rfl⟩) (tS 4 _) ?_
          exact ⟨x_118, m_119, (⟨n_113, n_111, []⟩ : AN), (by simp only [MS.doCall, MS.doKind, MS.doNames, MS.doProc, *, SB]; (repeat (first | rw [if_pos (by omega)] | rw [if_neg (by omega)])); all_goals (first | rfl | simp only [SB, *])), (k_117.mono (by omega) (by omega)), (by (try dsimp only); (try simp only [List.length_nil]); omega), rfl, rfl⟩
        refine jR (cB (dF h_115)) <| jW <| jk <| jB <| jD <| jF <| jT (je 4 (vs := [iv n_113, iv n_111, str []]) rfl rfl ke kc rfl rfl) ?_
        refine jH rfl (ja 5 (vs := [iv n_113, iv n_111, str []]) (cs' := [iv n_113, iv n_111, str []]) rfl rfl rfl rfl kc rfl rfl (lb rfl) rfl) ?_
        rintro _ _ rfl
        refine jE <| jB <| jM <| jU (.inl rfl) rfl (jg (je 5 (vs := [iv n_113, iv n_111, str []]) rfl rfl ke kc rfl rfl) ⟨_, rfl⟩) (tS 4 _) ?_
        exact ⟨x_109, m_110, (⟨n_113, n_111, []⟩ : AN), (by simp only [MS.doCall, MS.doKind, MS.doNames, MS.doProc, *, SB]; (repeat (first | rw [if_pos (by omega)] | rw [if_neg (by omega)])); all_goals (first | rfl | simp only [SB, *])), (k_108.mono (by omega) (by omega)), (by (try dsimp only); (try simp only [List.length_nil]); omega), rfl, rfl⟩
      refine jR (cB (dF h_106)) <| jD <| jF <| jA (jx rfl rfl) <| jA (jG (v := .bool (decide (c.kind = 13))) rfl) <| jE <| jB ?_
      by_cases h_120 : c.kind = 13
      · refine jQ (cB (dT h_120)) <| jD <| jF <| jA (jC (v := pv p) rfl) <| jA (jC (v := iv proc) rfl) <| jA (jY fo43_3 rfl) <| jT (jf 6 (v := iv c.a) rfl rfl kl rfl) ?_
        refine jH rfl (jI [0, 0, 0, 0] Tryz.call110 rfl (N_end p x_6 m_7 k_5 (by omega) (by omega) proc c.a (by omega) (by omega)) rfl (fun _ _ => trivial)) ?_
        rintro _ _ ⟨_, ⟨x_123, m_124, n_125, e_121, k_122, f_126, rfl, rfl⟩, rfl⟩
        refine jA (jY fo37_0 rfl) ?_
        refine jH rfl (ja 4 (vs := [iv n_125]) (cs' := [iv n_125, iv 0, str []]) rfl rfl rfl rfl ko rfl rfl (lb rfl) rfl) ?_
        rintro _ _ rfl
        refine jE <| jB <| jD <| jF <| jA (jY fo37_0 rfl) <| jT (jf 4 (v := iv n_125) rfl rfl kl rfl) <| jA (jx rfl rfl) <| jE <| jB ?_
        by_cases h_127 : n_125 = 0
        · refine jQ (cB (dT h_127)) <| jF <| jA (jC (v := pv p) rfl) <| jA (jC (v := iv proc) rfl) ?_
          refine jH rfl (jI [0, 0, 0, 0] Tryz.call111 rfl (N_dropPages p x_123 m_124 k_122 (by omega) (by omega) proc (by omega)) rfl (fun _ _ => trivial)) ?_
          rintro _ _ ⟨_, ⟨x_130, m_131, e_128, k_129, rfl, rfl⟩, rfl⟩
          refine jE <| jk <| jB <| jD <| jF <| jT (je 4 (vs := [iv n_125, iv 0, str []]) rfl rfl ke kc rfl rfl) ?_
          refine jH rfl (ja 5 (vs := [iv n_125, iv 0, str []]) (cs' := [iv n_125, iv 0, str []]) rfl rfl rfl rfl kc rfl rfl (lb rfl) rfl) ?_
          rintro _ _ rfl
          refine jE <| jB <| jM <| jU (.inl rfl) rfl (jg (je 5 (vs := [iv n_125, iv 0, str []]) rfl rfl ke kc rfl rfl) ⟨_, rfl⟩) (tS 4 _) ?_
          exact ⟨x_130, m_131, (⟨n_125, 0, []⟩ : AN), (by simp only [MS.doCall, MS.doKind, MS.doNames, MS.doProc, *, SB]; (repeat (first | rw [if_pos (by omega)] | rw [if_neg (by omega)])); all_goals (first | rfl | simp only [SB, *])), (k_129.mono (by omega) (by omega)), (by (try dsimp only); (try simp only [List.length_nil]); omega), rfl, rfl⟩
        refine jR (cB (dF h_127)) <| jW <| jk <| jB <| jD <| jF <| jT (je 4 (vs := [iv n_125, iv 0, str []]) rfl rfl ke kc rfl rfl) ?_
        refine jH rfl (ja 5 (vs := [iv n_125, iv 0, str []]) (cs' := [iv n_125, iv 0, str []]) rfl rfl rfl rfl kc rfl rfl (lb rfl) rfl) ?_
        rintro _ _ rfl
        refine jE <| jB <| jM <| jU (.inl rfl) rfl (jg (je 5 (vs := [iv n_125, iv 0, str []]) rfl rfl ke kc rfl rfl) ⟨_, rfl⟩) (tS 4 _) ?_
        exact ⟨x_123, m_124, (⟨n_125, 0, []⟩ : AN), (by simp only [MS.doCall, MS.doKind, MS.doNames, MS.doProc, *, SB]; (repeat (first | rw [if_pos (by omega)] | rw [if_neg (by omega)])); all_goals (first | rfl | simp only [SB, *])), (k_122.mono (by omega) (by omega)), (by (try dsimp only); (try simp only [List.length_nil]); omega), rfl, rfl⟩
      refine jR (cB (dF h_120)) <| jD <| jF <| jA (jx rfl rfl) <| jA (jG (v := .bool (decide (c.kind = 14))) rfl) <| jE <| jB ?_
      by_cases h_132 : c.kind = 14
      · refine jQ (cB (dT h_132)) <| jF <| jA (jC (v := pv p) rfl) <| jA (jC (v := iv proc) rfl) <| jA (jY fo43_3 rfl) <| jT (jf 6 (v := iv c.a) rfl rfl kl rfl) ?_
        refine jH rfl (jI [0, 0, 0, 0] Tryz.call112 rfl (N_reap p x_6 m_7 k_5 (by omega) (by omega) proc c.a (by omega) (by omega)) rfl (fun _ _ => trivial)) ?_
        rintro _ _ ⟨_, ⟨x_135, m_136, n_137, n_139, e_133, k_134, f_138, f_140, rfl, rfl⟩, rfl⟩
        refine jA (jC (v := .tuple #[iv n_137, iv n_139]) rfl) <| jA (jS (v := iv n_137) rfl rfl) <| jA (jS (v := iv n_139) rfl rfl) <| jA (jY fo37_1 rfl) ?_
        refine jH rfl (ja 4 (vs := [iv n_137]) (cs' := [iv 0, iv n_137, str []]) rfl rfl rfl rfl ko rfl rfl (lb rfl) rfl) ?_
        rintro _ _ rfl
        refine jA (jY fo37_0 rfl) ?_
        refine jH rfl (ja 4 (vs := [iv n_139]) (cs' := [iv n_139, iv n_137, str []]) rfl rfl rfl rfl ko rfl rfl (lb rfl) rfl) ?_
        rintro _ _ rfl
        refine jE <| jk <| jB <| jD <| jF <| jT (je 4 (vs := [iv n_139, iv n_137, str []]) rfl rfl ke kc rfl rfl) ?_
        refine jH rfl (ja 5 (vs := [iv n_139, iv n_137, str []]) (cs' := [iv n_139, iv n_137, str []]) rfl rfl rfl rfl kc rfl rfl (lb rfl) rfl) ?_
        rintro _ _ rfl
        refine jE <| jB <| jM <| jU (.inl rfl) rfl (jg (je 5 (vs := [iv n_139, iv n_137, str []]) rfl rfl ke kc rfl rfl) ⟨_, rfl⟩) (tS 4 _) ?_
        exact ⟨x_135, m_136, (⟨n_139, n_137, []⟩ : AN), (by simp only [MS.doCall, MS.doKind, MS.doNames, MS.doProc, *, SB]; (repeat (first | rw [if_pos (by omega)] | rw [if_neg (by omega)])); all_goals (first | rfl | simp only [SB, *])), (k_134.mono (by omega) (by omega)), (by (try dsimp only); (try simp only [List.length_nil]); omega), rfl, rfl⟩
      refine jR (cB (dF h_132)) <| jD <| jF <| jA (jx rfl rfl) <| jA (jG (v := .bool (decide (c.kind = 15))) rfl) <| jE <| jB ?_
      by_cases h_141 : c.kind = 15
      · refine jQ (cB (dT h_141)) <| jD <| jF <| jA (jC (v := pv p) rfl) <| jA (jC (v := iv proc) rfl) ?_
        refine jH rfl (jI [0, 0, 0, 0] Tryz.call113 rfl (N_kids p x_6 m_7 k_5 (by omega) (by omega) proc (by omega)) rfl (fun _ _ => trivial)) ?_
        rintro _ _ ⟨_, ⟨x_144, m_145, l_146a, l_146c, l_146, e_142, k_143, f_147, rfl, rfl⟩, rfl⟩
        refine jA (jy kv rfl) <| jA (jC (v := iv 0) rfl) <| jE <| jB <| jl ?_
        have hno := kids_ok e_142
        refine kE (fun k_ e_ L_ => ∃ j_ : Nat, ∃ t_ : Str, (j_ ≤ l_146.length) ∧ (t_.length ≤ j_ * 1048577) ∧ (joinD (l_146.drop j_) t_ = joinD l_146 []) ∧ e_ 6 = .pointer (some ⟨b_2, 0, none⟩) ∧ e_ 7 = .pointer (some ⟨b_3, 0, none⟩) ∧ e_ 161 = .slice l_146a l_146.length l_146c ∧ e_ 162 = nv l_146.length ∧ e_ 163 = nv j_ ∧ L_ = [mb p x_144 m_145, rC x_144.a0 x_144.c0 m_145.s, rS x_144.a1 x_144.c1 m_145.r, rS x_144.a2 x_144.c2 m_145.w, rI l_146a l_146c l_146, bk b_3 37 [iv 0, iv 0, str t_], bk b_2 37 [iv 0, iv 0, str []], bk b_1 43 [iv c.kind, str c.name, str c.to_, iv c.a, iv c.b, str c.text]] ∧ k_ = l_146.length + 1 - j_) _ ⟨0, [], (by omega), (by simp), rfl, rfl, rfl, rfl, rfl, rfl, rfl, rfl⟩ ?_
        rintro _ e_148 _ ⟨j_, t_, hj, ht, hR, he_149, he_150, he_151, he_152, he_153, rfl, rfl⟩
        refine jD <| jF <| jA (jr he_153 he_152) <| jE <| jB <| jD ?_
        by_cases h_154 : ((j_ : Nat) : Int) < ((l_146.length : Nat) : Int)
        · have hlt : j_ < l_146.length := by omega
          have hbj := hno _ (getD_mem (d := 0) hlt)
          refine jQ (cB (dT h_154)) <| jW <| jB <| jD <| jl <| jD <| jF ?_
          refine kW fun hst => ?_
          obtain ⟨hr_155, hr_155b, -⟩ := row_some 4 rfl (by omega) hst
          refine jA (kD (i := j_) kv ko hr_155 hr_155b he_151 he_153 (by omega)) <| jT (kX 4 (v := iv (l_146.getD j_ 0)) rfl rfl kl (atI (by omega))) <| jA (jG (v := iv (l_146.getD j_ 0)) rfl) <| jE <| jB <| jq [bk b_3 37 [iv 0, iv 0, str t_]] 6 mixed (by simp) <| jJ 0 rfl (jY fo37_2 he_150) <| jj 1 rfl (jf 0 (v := str t_) rfl rfl kg rfl) <| jJ 2 rfl (jC (v := iv (l_146.getD j_ 0)) rfl) <| jK (i := 3) ?_
          refine jP rfl rfl (jI [] Tryz.call114 rfl (N_dec (l_146.getD j_ 0) (by omega)) rfl (fun _ _ => trivial)) ?_
          rintro _ _ ⟨_, ⟨u_162, e_160, f_163, rfl, rfl⟩, rfl⟩
          refine ⟨(by simp), ?_⟩
          refine jJ 4 rfl (kS rfl rfl (by (try simp only [List.length_append, List.length_cons, List.length_nil, List.length_drop, List.length_take]); omega)) <| jJ 5 rfl (kS rfl rfl (by (try simp only [List.length_append, List.length_cons, List.length_nil, List.length_drop, List.length_take]); omega)) <| jJ 6 rfl (jY fo37_2 he_150) <| jK (i := 7) ?_
          refine jo rfl (ja 5 (vs := [str (t_ ++ (u_162 ++ [32]))]) (cs' := [iv 0, iv 0, str (t_ ++ (u_162 ++ [32]))]) rfl rfl rfl rfl kh rfl rfl (lb rfl) rfl) ?_
          rintro _ _ rfl
          refine jk <| jB <| jF <| jA (ji (c := ((j_ + 1 : Nat) : Int)) he_153 rfl (wr (by omega))) <| jA (jC (v := iv ((j_ + 1 : Nat) : Int)) rfl) <| jE <| jt [0, 0, 0, 0, 0, 0, 0, 0] (A := [mb p x_144 m_145, rC x_144.a0 x_144.c0 m_145.s, rS x_144.a1 x_144.c1 m_145.r, rS x_144.a2 x_144.c2 m_145.w, rI l_146a l_146c l_146, bk b_3 37 [iv 0, iv 0, str (t_ ++ (u_162 ++ [32]))], bk b_2 37 [iv 0, iv 0, str []], bk b_1 43 [iv c.kind, str c.name, str c.to_, iv c.a, iv c.b, str c.text]]) rfl ?_
          refine ju (l_146.length + 1 - (j_ + 1)) (by omega) ⟨(j_ + 1), (t_ ++ (u_162 ++ [32])), (by omega), (by simp only [LE]; omega), (by rw [drop_at (getD_some (d := 0) hlt)] at hR; simp only [joinD, e_160] at hR; first | exact hR | (simp only [List.append_assoc] at hR ⊢; exact hR)), he_149, he_150, he_151, he_152, rfl, rfl, rfl⟩
        rw [List.drop_of_length_le (by omega)] at hR
        simp only [joinD] at hR
        have hRE := hR.symm
        refine jR (cB (dF h_154)) <| kB <| jm <| jm <| kC <| jk <| jB <| jD <| jF <| jT (je 5 (vs := [iv 0, iv 0, str t_]) rfl he_150 ke kc rfl rfl) ?_
        refine jH rfl (ja 6 (vs := [iv 0, iv 0, str t_]) (cs' := [iv 0, iv 0, str t_]) rfl he_149 rfl rfl kc rfl rfl (lb rfl) rfl) ?_
        rintro _ _ rfl
        refine jE <| jB <| jM <| jU (.inl rfl) rfl (jg (je 6 (vs := [iv 0, iv 0, str t_]) rfl he_149 ke kc rfl rfl) ⟨_, he_149⟩) (tS 4 _) ?_
        exact ⟨x_144, m_145, (⟨0, 0, t_⟩ : AN), (by simp only [MS.doCall, MS.doKind, MS.doNames, MS.doProc, e_4, h_10, e_11, h_14, h_15, h_24, h_31, h_38, h_45, h_60, h_67, h_74, h_81, h_90, h_97, h_106, h_120, h_132, h_141, e_142, h_154, hRE, SB]; (repeat (first | rw [if_pos (by omega)] | rw [if_neg (by omega)])); all_goals (first | rfl | simp only [SB, e_4, h_10, e_11, h_14, h_15, h_24, h_31, h_38, h_45, h_60, h_67, h_74, h_81, h_90, h_97, h_106, h_120, h_132, h_141, e_142, h_154, hRE])), (k_143.mono (by omega) (by omega)), (by (try dsimp only); (try simp only [List.length_nil]); omega), rfl, rfl⟩
      refine jR (cB (dF h_141)) <| jD <| jF <| jA (jx rfl rfl) <| jA (jG (v := .bool (decide (c.kind = 16))) rfl) <| jE <| jB ?_
      by_cases h_164 : c.kind = 16
      · refine jQ (cB (dT h_164)) <| jF <| jA (jC (v := pv p) rfl) <| jA (jY fo43_3 rfl) <| jT (jf 6 (v := iv c.a) rfl rfl kl rfl) <| jA (jY fo43_4 rfl) <| jT (jf 6 (v := iv c.b) rfl rfl kl rfl) ?_
        refine jH rfl (jI [0, 0, 0, 0] Tryz.call115 rfl (N_send p x_6 m_7 k_5 (by omega) (by omega) c.a c.b (by omega) (by omega)) rfl (fun _ _ => trivial)) ?_
        rintro _ _ ⟨_, ⟨x_167, m_168, n_169, e_165, k_166, f_170, rfl, rfl⟩, rfl⟩
        refine jA (jY fo37_0 rfl) ?_
        refine jH rfl (ja 4 (vs := [iv n_169]) (cs' := [iv n_169, iv 0, str []]) rfl rfl rfl rfl ko rfl rfl (lb rfl) rfl) ?_
        rintro _ _ rfl
        refine jE <| jk <| jB <| jD <| jF <| jT (je 4 (vs := [iv n_169, iv 0, str []]) rfl rfl ke kc rfl rfl) ?_
        refine jH rfl (ja 5 (vs := [iv n_169, iv 0, str []]) (cs' := [iv n_169, iv 0, str []]) rfl rfl rfl rfl kc rfl rfl (lb rfl) rfl) ?_
        rintro _ _ rfl
        refine jE <| jB <| jM <| jU (.inl rfl) rfl (jg (je 5 (vs := [iv n_169, iv 0, str []]) rfl rfl ke kc rfl rfl) ⟨_, rfl⟩) (tS 4 _) ?_
        exact ⟨x_167, m_168, (⟨n_169, 0, []⟩ : AN), (by simp only [MS.doCall, MS.doKind, MS.doNames, MS.doProc, *, SB]; (repeat (first | rw [if_pos (by omega)] | rw [if_neg (by omega)])); all_goals (first | rfl | simp only [SB, *])), (k_166.mono (by omega) (by omega)), (by (try dsimp only); (try simp only [List.length_nil]); omega), rfl, rfl⟩
      refine jR (cB (dF h_164)) <| jD <| jF <| jA (jx rfl rfl) <| jA (jG (v := .bool (decide (c.kind = 17))) rfl) <| jE <| jB ?_
      by_cases h_171 : c.kind = 17
      · refine jQ (cB (dT h_171)) <| jF <| jA (jC (v := pv p) rfl) <| jA (jC (v := iv proc) rfl) ?_
        refine jH rfl (jI [0, 0, 0, 0] Tryz.call116 rfl (N_takeSignal p x_6 m_7 k_5 (by omega) (by omega) proc (by omega)) rfl (fun _ _ => trivial)) ?_
        rintro _ _ ⟨_, ⟨x_174, m_175, n_176, n_178, e_172, k_173, f_177, f_179, rfl, rfl⟩, rfl⟩
        refine jA (jC (v := .tuple #[iv n_176, iv n_178]) rfl) <| jA (jS (v := iv n_176) rfl rfl) <| jA (jS (v := iv n_178) rfl rfl) <| jA (jY fo37_1 rfl) ?_
        refine jH rfl (ja 4 (vs := [iv n_176]) (cs' := [iv 0, iv n_176, str []]) rfl rfl rfl rfl ko rfl rfl (lb rfl) rfl) ?_
        rintro _ _ rfl
        refine jA (jY fo37_0 rfl) ?_
        refine jH rfl (ja 4 (vs := [iv n_178]) (cs' := [iv n_178, iv n_176, str []]) rfl rfl rfl rfl ko rfl rfl (lb rfl) rfl) ?_
        rintro _ _ rfl
        refine jE <| jk <| jB <| jD <| jF <| jT (je 4 (vs := [iv n_178, iv n_176, str []]) rfl rfl ke kc rfl rfl) ?_
        refine jH rfl (ja 5 (vs := [iv n_178, iv n_176, str []]) (cs' := [iv n_178, iv n_176, str []]) rfl rfl rfl rfl kc rfl rfl (lb rfl) rfl) ?_
        rintro _ _ rfl
        refine jE <| jB <| jM <| jU (.inl rfl) rfl (jg (je 5 (vs := [iv n_178, iv n_176, str []]) rfl rfl ke kc rfl rfl) ⟨_, rfl⟩) (tS 4 _) ?_
        exact ⟨x_174, m_175, (⟨n_178, n_176, []⟩ : AN), (by simp only [MS.doCall, MS.doKind, MS.doNames, MS.doProc, *, SB]; (repeat (first | rw [if_pos (by omega)] | rw [if_neg (by omega)])); all_goals (first | rfl | simp only [SB, *])), (k_173.mono (by omega) (by omega)), (by (try dsimp only); (try simp only [List.length_nil]); omega), rfl, rfl⟩
      refine jR (cB (dF h_171)) <| jD <| jF <| jA (jx rfl rfl) <| jA (jG (v := .bool (decide (c.kind = 18))) rfl) <| jE <| jB ?_
      by_cases h_180 : c.kind = 18
      · refine jQ (cB (dT h_180)) <| jF <| jA (jC (v := pv p) rfl) <| jA (jC (v := iv proc) rfl) <| jA (jY fo43_3 rfl) <| jT (jf 6 (v := iv c.a) rfl rfl kl rfl) ?_
        refine jH rfl (jI [0, 0, 0, 0] Tryz.call117 rfl (N_setTimer p x_6 m_7 k_5 (by omega) (by omega) proc c.a (by omega) (by omega)) rfl (fun _ _ => trivial)) ?_
        rintro _ _ ⟨_, ⟨x_183, m_184, n_185, e_181, k_182, f_186, rfl, rfl⟩, rfl⟩
        refine jA (jY fo37_0 rfl) ?_
        refine jH rfl (ja 4 (vs := [iv n_185]) (cs' := [iv n_185, iv 0, str []]) rfl rfl rfl rfl ko rfl rfl (lb rfl) rfl) ?_
        rintro _ _ rfl
        refine jE <| jk <| jB <| jD <| jF <| jT (je 4 (vs := [iv n_185, iv 0, str []]) rfl rfl ke kc rfl rfl) ?_
        refine jH rfl (ja 5 (vs := [iv n_185, iv 0, str []]) (cs' := [iv n_185, iv 0, str []]) rfl rfl rfl rfl kc rfl rfl (lb rfl) rfl) ?_
        rintro _ _ rfl
        refine jE <| jB <| jM <| jU (.inl rfl) rfl (jg (je 5 (vs := [iv n_185, iv 0, str []]) rfl rfl ke kc rfl rfl) ⟨_, rfl⟩) (tS 4 _) ?_
        exact ⟨x_183, m_184, (⟨n_185, 0, []⟩ : AN), (by simp only [MS.doCall, MS.doKind, MS.doNames, MS.doProc, *, SB]; (repeat (first | rw [if_pos (by omega)] | rw [if_neg (by omega)])); all_goals (first | rfl | simp only [SB, *])), (k_182.mono (by omega) (by omega)), (by (try dsimp only); (try simp only [List.length_nil]); omega), rfl, rfl⟩
      refine jR (cB (dF h_180)) <| jD <| jF <| jA (jx rfl rfl) <| jA (jG (v := .bool (decide (c.kind = 19))) rfl) <| jE <| jB ?_
      by_cases h_187 : c.kind = 19
      · refine jQ (cB (dT h_187)) <| jF <| jA (jC (v := pv p) rfl) <| jA (jY fo43_3 rfl) <| jT (jf 6 (v := iv c.a) rfl rfl kl rfl) ?_
        refine jH rfl (jI [0, 0, 0, 0] Tryz.call118 rfl (N_tick p x_6 m_7 k_5 (by omega) (by omega) c.a (by omega)) rfl (fun _ _ => trivial)) ?_
        rintro _ _ ⟨_, ⟨x_190, m_191, n_192, n_194, e_188, k_189, f_193, f_195, rfl, rfl⟩, rfl⟩
        refine jA (jC (v := .tuple #[iv n_192, iv n_194]) rfl) <| jA (jS (v := iv n_192) rfl rfl) <| jA (jS (v := iv n_194) rfl rfl) <| jA (jY fo37_1 rfl) ?_
        refine jH rfl (ja 4 (vs := [iv n_192]) (cs' := [iv 0, iv n_192, str []]) rfl rfl rfl rfl ko rfl rfl (lb rfl) rfl) ?_
        rintro _ _ rfl
        refine jA (jY fo37_0 rfl) ?_
        refine jH rfl (ja 4 (vs := [iv n_194]) (cs' := [iv n_194, iv n_192, str []]) rfl rfl rfl rfl ko rfl rfl (lb rfl) rfl) ?_
        rintro _ _ rfl
        refine jE <| jk <| jB <| jD <| jF <| jT (je 4 (vs := [iv n_194, iv n_192, str []]) rfl rfl ke kc rfl rfl) ?_
        refine jH rfl (ja 5 (vs := [iv n_194, iv n_192, str []]) (cs' := [iv n_194, iv n_192, str []]) rfl rfl rfl rfl kc rfl rfl (lb rfl) rfl) ?_
        rintro _ _ rfl
        refine jE <| jB <| jM <| jU (.inl rfl) rfl (jg (je 5 (vs := [iv n_194, iv n_192, str []]) rfl rfl ke kc rfl rfl) ⟨_, rfl⟩) (tS 4 _) ?_
        exact ⟨x_190, m_191, (⟨n_194, n_192, []⟩ : AN), (by simp only [MS.doCall, MS.doKind, MS.doNames, MS.doProc, *, SB]; (repeat (first | rw [if_pos (by omega)] | rw [if_neg (by omega)])); all_goals (first | rfl | simp only [SB, *])), (k_189.mono (by omega) (by omega)), (by (try dsimp only); (try simp only [List.length_nil]); omega), rfl, rfl⟩
      refine jR (cB (dF h_187)) <| jD <| jF <| jA (jx rfl rfl) <| jA (jG (v := .bool (decide (c.kind = 20))) rfl) <| jE <| jB ?_
      by_cases h_196 : c.kind = 20
      · refine jQ (cB (dT h_196)) <| jF <| jA (jC (v := pv p) rfl) <| jA (jC (v := iv proc) rfl) <| jA (jY fo43_3 rfl) <| jT (jf 6 (v := iv c.a) rfl rfl kl rfl) <| jA (jY fo43_5 rfl) <| jT (jf 6 (v := str c.text) rfl rfl kg rfl) ?_
        refine jH rfl (jI [0, 0, 0, 0] Tryz.call119 rfl (N_storePage p x_6 m_7 k_5 (by omega) (by omega) proc c.a c.text (by omega) (by omega) (by omega)) rfl (fun _ _ => trivial)) ?_
        rintro _ _ ⟨_, ⟨x_199, m_200, n_201, e_197, k_198, f_202, rfl, rfl⟩, rfl⟩
        refine jA (jY fo37_0 rfl) ?_
        refine jH rfl (ja 4 (vs := [iv n_201]) (cs' := [iv n_201, iv 0, str []]) rfl rfl rfl rfl ko rfl rfl (lb rfl) rfl) ?_
        rintro _ _ rfl
        refine jE <| jk <| jB <| jD <| jF <| jT (je 4 (vs := [iv n_201, iv 0, str []]) rfl rfl ke kc rfl rfl) ?_
        refine jH rfl (ja 5 (vs := [iv n_201, iv 0, str []]) (cs' := [iv n_201, iv 0, str []]) rfl rfl rfl rfl kc rfl rfl (lb rfl) rfl) ?_
        rintro _ _ rfl
        refine jE <| jB <| jM <| jU (.inl rfl) rfl (jg (je 5 (vs := [iv n_201, iv 0, str []]) rfl rfl ke kc rfl rfl) ⟨_, rfl⟩) (tS 4 _) ?_
        exact ⟨x_199, m_200, (⟨n_201, 0, []⟩ : AN), (by simp only [MS.doCall, MS.doKind, MS.doNames, MS.doProc, *, SB]; (repeat (first | rw [if_pos (by omega)] | rw [if_neg (by omega)])); all_goals (first | rfl | simp only [SB, *])), (k_198.mono (by omega) (by omega)), (by (try dsimp only); (try simp only [List.length_nil]); omega), rfl, rfl⟩
      refine jR (cB (dF h_196)) <| jD <| jF <| jA (jx rfl rfl) <| jA (jG (v := .bool (decide (c.kind = 21))) rfl) <| jE <| jB ?_
      by_cases h_203 : c.kind = 21
      · refine jQ (cB (dT h_203)) <| jF <| jA (jC (v := pv p) rfl) <| jA (jC (v := iv proc) rfl) <| jA (jY fo43_3 rfl) <| jT (jf 6 (v := iv c.a) rfl rfl kl rfl) ?_
        refine jH rfl (jI [0, 0, 0, 0] Tryz.call120 rfl (N_loadPage p x_6 m_7 k_5 (by omega) (by omega) proc c.a (by omega) (by omega)) rfl (fun w hw => hw.hex hlow hpre)) ?_
        rintro _ _ ⟨_, ⟨x_206, m_207, u_208, n_210, e_204, k_205, f_209, f_211, rfl, rfl⟩, rfl⟩
        refine jA (jC (v := .tuple #[str u_208, iv n_210]) rfl) <| jA (jS (v := str u_208) rfl rfl) <| jA (jS (v := iv n_210) rfl rfl) <| jA (jY fo37_2 rfl) ?_
        refine jH rfl (ja 4 (vs := [str u_208]) (cs' := [iv 0, iv 0, str u_208]) rfl rfl rfl rfl kh rfl rfl (lb rfl) rfl) ?_
        rintro _ _ rfl
        refine jA (jY fo37_0 rfl) ?_
        refine jH rfl (ja 4 (vs := [iv n_210]) (cs' := [iv n_210, iv 0, str u_208]) rfl rfl rfl rfl ko rfl rfl (lb rfl) rfl) ?_
        rintro _ _ rfl
        refine jE <| jk <| jB <| jD <| jF <| jT (je 4 (vs := [iv n_210, iv 0, str u_208]) rfl rfl ke kc rfl rfl) ?_
        refine jH rfl (ja 5 (vs := [iv n_210, iv 0, str u_208]) (cs' := [iv n_210, iv 0, str u_208]) rfl rfl rfl rfl kc rfl rfl (lb rfl) rfl) ?_
        rintro _ _ rfl
        refine jE <| jB <| jM <| jU (.inl rfl) rfl (jg (je 5 (vs := [iv n_210, iv 0, str u_208]) rfl rfl ke kc rfl rfl) ⟨_, rfl⟩) (tS 4 _) ?_
        exact ⟨x_206, m_207, (⟨n_210, 0, u_208⟩ : AN), (by simp only [MS.doCall, MS.doKind, MS.doNames, MS.doProc, *, SB]; (repeat (first | rw [if_pos (by omega)] | rw [if_neg (by omega)])); all_goals (first | rfl | simp only [SB, *])), (k_205.mono (by omega) (by omega)), (by (try dsimp only); (try simp only [List.length_nil]); omega), rfl, rfl⟩
      refine jR (cB (dF h_203)) <| jD <| jF <| jA (jx rfl rfl) <| jA (jG (v := .bool (decide (c.kind = 22))) rfl) <| jE <| jB ?_
      by_cases h_212 : c.kind = 22
      · refine jQ (cB (dT h_212)) <| jF <| jA (jC (v := pv p) rfl) <| jA (jY fo43_5 rfl) <| jT (jf 6 (v := str c.text) rfl rfl kg rfl) ?_
        refine jH rfl (jI [0, 0, 0, 0] Tryz.call121 rfl (N_putOut p x_6 m_7 k_5 (by omega) (by omega) c.text (by omega)) rfl (fun _ _ => trivial)) ?_
        rintro _ _ ⟨_, ⟨x_215, m_216, n_217, e_213, k_214, f_218, rfl, rfl⟩, rfl⟩
        refine jA (jY fo37_0 rfl) ?_
        refine jH rfl (ja 4 (vs := [iv n_217]) (cs' := [iv n_217, iv 0, str []]) rfl rfl rfl rfl ko rfl rfl (lb rfl) rfl) ?_
        rintro _ _ rfl
        refine jE <| jk <| jB <| jD <| jF <| jT (je 4 (vs := [iv n_217, iv 0, str []]) rfl rfl ke kc rfl rfl) ?_
        refine jH rfl (ja 5 (vs := [iv n_217, iv 0, str []]) (cs' := [iv n_217, iv 0, str []]) rfl rfl rfl rfl kc rfl rfl (lb rfl) rfl) ?_
        rintro _ _ rfl
        refine jE <| jB <| jM <| jU (.inl rfl) rfl (jg (je 5 (vs := [iv n_217, iv 0, str []]) rfl rfl ke kc rfl rfl) ⟨_, rfl⟩) (tS 4 _) ?_
        exact ⟨x_215, m_216, (⟨n_217, 0, []⟩ : AN), (by simp only [MS.doCall, MS.doKind, MS.doNames, MS.doProc, *, SB]; (repeat (first | rw [if_pos (by omega)] | rw [if_neg (by omega)])); all_goals (first | rfl | simp only [SB, *])), (k_214.mono (by omega) (by omega)), (by (try dsimp only); (try simp only [List.length_nil]); omega), rfl, rfl⟩
      refine jR (cB (dF h_212)) <| jW <| jk <| jB <| jD <| jF <| jT (je 4 (vs := [iv 0, iv 0, str []]) rfl rfl ke kc rfl rfl) ?_
      refine jH rfl (ja 5 (vs := [iv 0, iv 0, str []]) (cs' := [iv 0, iv 0, str []]) rfl rfl rfl rfl kc rfl rfl (lb rfl) rfl) ?_
      rintro _ _ rfl
      refine jE <| jB <| jM <| jU (.inl rfl) rfl (jg (je 5 (vs := [iv 0, iv 0, str []]) rfl rfl ke kc rfl rfl) ⟨_, rfl⟩) (tS 4 _) ?_
      exact ⟨x_6, m_7, (⟨0, 0, []⟩ : AN), (by exfalso; omega), (k_5.mono (by omega) (by omega)), (by (try dsimp only); (try simp only [List.length_nil]); omega), rfl, rfl⟩
    refine jQ (cB (cN h_14)) <| jD <| jF <| jA (kN (ps := [(0, iv 4)]) (cs := [iv 4, iv 0, str []]) rfl (by kernel_rfl)) ?_
    refine jH rfl (ja 5 (vs := [iv 4, iv 0, str []]) (cs' := [iv 4, iv 0, str []]) rfl rfl rfl rfl kc rfl rfl (lb rfl) rfl) ?_
    rintro _ _ rfl
    refine jE <| jB <| jM <| kA <| jb <| jU (.inl rfl) rfl (jg (je 5 (vs := [iv 4, iv 0, str []]) rfl rfl ke kc rfl rfl) ⟨_, rfl⟩) (tS 4 _) ?_
    exact ⟨x_6, m_7, (⟨4, 0, []⟩ : AN), (by simp only [MS.doCall, MS.doKind, MS.doNames, MS.doProc, e_4, h_10, e_11, h_14, SB]; (repeat (first | rw [if_pos (by omega)] | rw [if_neg (by omega)])); all_goals (first | rfl | simp only [SB, e_4, h_10, e_11, h_14])), (k_5.mono (by omega) (by omega)), (by (try dsimp only); (try simp only [List.length_nil]); omega), rfl, rfl⟩
  refine jQ (cB (cN (dF h_10))) <| jD <| jF <| jA (kN (ps := [(0, iv 2)]) (cs := [iv 2, iv 0, str []]) rfl (by kernel_rfl)) ?_
  refine jH rfl (ja 5 (vs := [iv 2, iv 0, str []]) (cs' := [iv 2, iv 0, str []]) rfl rfl rfl rfl kc rfl rfl (lb rfl) rfl) ?_
  rintro _ _ rfl
  refine jE <| jB <| jM <| kA <| jb <| jU (.inl rfl) rfl (jg (je 5 (vs := [iv 2, iv 0, str []]) rfl rfl ke kc rfl rfl) ⟨_, rfl⟩) (tS 4 _) ?_
  exact ⟨x_6, m_7, (⟨2, 0, []⟩ : AN), (by simp only [MS.doCall, MS.doKind, MS.doNames, MS.doProc, e_4, h_10, SB]; (repeat (first | rw [if_pos (by omega)] | rw [if_neg (by omega)])); all_goals (first | rfl | simp only [SB, e_4, h_10])), (k_5.mono (by omega) (by omega)), (by (try dsimp only); (try simp only [List.length_nil]); omega), rfl, rfl⟩

end Go.Proofs.YtghfijncihbojaaGreatDoor

set_option linter.unusedSimpArgs false
set_option linter.unusedVariables false
set_option linter.unnecessarySimpa false
namespace Go.Proofs.YtghfijncihbojaaGreatDoor
open Go Go.RowKit
/-- A step: who, which call. -/
structure SP where
  proc : Int
  call : CL
def k0 : CL := ⟨0, [], [], 0, 0, []⟩
def p0_ : SP := ⟨0, k0⟩
def encK (c : CL) : List Value := [.int .i64 c.kind, str c.name, str c.to_, .int .i64 c.a, .int .i64 c.b, str c.text]
def encA (a : AN) : List Value := [.int .i64 a.code, .int .i64 a.n, str a.text]
def encP (p : SP) : List Value := [.int .i64 p.proc, .int .i64 p.call.kind, str p.call.name, str p.call.to_, .int .i64 p.call.a, .int .i64 p.call.b, str p.call.text]
theorem encK_len (c : CL) : (encK c).length = 6 := rfl
theorem encA_len (a : AN) : (encA a).length = 3 := rfl
theorem encP_len (p : SP) : (encP p).length = 7 := rfl
section
variable {α : Type} {enc : α → List Value} {k : Nat}
theorem flat_one (h : ∀ x, ∀ u ∈ enc x, u.oneCell' = true) (l : List α) : ∀ u ∈ l.flatMap enc, u.oneCell' = true := fun u hu => by
  obtain ⟨c, _, hc⟩ := List.mem_flatMap.1 hu
  exact h c u hc
theorem flat_sub (hk : ∀ x, (enc x).length = k) {w : World} {a : Option Addr} {c : Nat} {s : List α} (h : Sees w (.slice a s.length c) k s.length (s.flatMap enc)) (lo hi : Nat) (h1 : lo ≤ hi) (h2 : hi ≤ s.length) :
    Sees w (.slice (subA k a c lo) (hi - lo) (c - lo)) k (hi - lo) (((s.drop lo).take (hi - lo)).flatMap enc) := by
  have := h.sub lo hi h1 h2
  rw [flat_dropN hk, flat_takeN hk] at this
  exact this
end
theorem oneK (l : List CL) : ∀ u ∈ l.flatMap encK, u.oneCell' = true := flat_one (fun c u hu => by
  simp only [encK, List.mem_cons, List.not_mem_nil, or_false] at hu
  rcases hu with rfl | rfl | rfl | rfl | rfl | rfl <;> rfl) l
theorem oneA (l : List AN) : ∀ u ∈ l.flatMap encA, u.oneCell' = true := flat_one (fun c u hu => by
  simp only [encA, List.mem_cons, List.not_mem_nil, or_false] at hu
  rcases hu with rfl | rfl | rfl <;> rfl) l
theorem oneP (l : List SP) : ∀ u ∈ l.flatMap encP, u.oneCell' = true := flat_one (fun c u hu => by
  simp only [encP, List.mem_cons, List.not_mem_nil, or_false] at hu
  rcases hu with rfl | rfl | rfl | rfl | rfl | rfl | rfl <;> rfl) l
theorem subK {w : World} {a : Option Addr} {c : Nat} {s : List CL} (h : Sees w (.slice a s.length c) 6 s.length (s.flatMap encK)) (lo hi : Nat) (h1 : lo ≤ hi) (h2 : hi ≤ s.length) : Sees w (.slice (subA 6 a c lo) (hi - lo) (c - lo)) 6 (hi - lo) (((s.drop lo).take (hi - lo)).flatMap encK) := flat_sub encK_len h lo hi h1 h2
/- measures, marks, equality -/
instance decCL : DecidableEq CL := fun a b => decidable_of_iff (a.kind = b.kind ∧ a.name = b.name ∧ a.to_ = b.to_ ∧ a.a = b.a ∧ a.b = b.b ∧ a.text = b.text) (by cases a; cases b; simp)
instance decAN : DecidableEq AN := fun a b => decidable_of_iff (a.code = b.code ∧ a.n = b.n ∧ a.text = b.text) (by cases a; cases b; simp)
instance decSP : DecidableEq SP := fun a b => decidable_of_iff (a.proc = b.proc ∧ a.call = b.call) (by cases a; cases b; simp)
end Go.Proofs.YtghfijncihbojaaGreatDoor

set_option linter.unusedSimpArgs false
set_option linter.unusedVariables false
set_option linter.unnecessarySimpa false
namespace Go.Proofs.YtghfijncihbojaaGreatDoor
open Go Go.RowKit
/-- A transaction; where its five rows lie. -/
structure TD where
  id : Int
  age : Int
  proc : Int
  began : Int
  calls : List CL
  ans : List AN
  rd : List Str
  wr : List Str
  marks : List Int
  state : Int
structure TA where
  a0 : Option Addr
  c0 : Nat
  a1 : Option Addr
  c1 : Nat
  a2 : Option Addr
  c2 : Nat
  a3 : Option Addr
  c3 : Nat
  a4 : Option Addr
  c4 : Nat
def TD.new (a b c : Int) : TD := ⟨a, b, c, 0, [], [], [], [], [], 1⟩
def TD.mark (t : TD) : TD × Int :=
  if t.state = 1 ∧ (t.marks.length : Int) < 4 then ({ t with marks := t.marks ++ [(t.calls.length : Int)] }, ((t.marks.length + 1 : Nat) : Int)) else (t, 0)
def TD.back (t : TD) (k : Int) : TD × Bool :=
  if t.state = 1 ∧ 1 ≤ k ∧ k ≤ (t.marks.length : Int) then
    ({ t with calls := t.calls.take (bro (t.marks.getD (k - 1).toNat 0) t.calls.length), ans := t.ans.take (bro (t.marks.getD (k - 1).toNat 0) t.ans.length), marks := t.marks.take (k - 1).toNat }, true)
  else (t, false)
def TD.since (t : TD) (k : Int) : List CL :=
  if 1 ≤ k ∧ k ≤ (t.marks.length : Int) then t.calls.drop (bro (t.marks.getD (k - 1).toNat 0) t.calls.length) else []
structure TD.ok (t : TD) (n : Nat) : Prop where
  h1 : -9223372036854775808 ≤ t.id ∧ t.id ≤ 9223372036854775807
  h2 : -9223372036854775808 ≤ t.age ∧ t.age ≤ 9223372036854775807
  h3 : -9223372036854775808 ≤ t.proc ∧ t.proc ≤ 9223372036854775807
  h4 : -9223372036854775808 ≤ t.began ∧ t.began ≤ 9223372036854775807
  h5 : -9223372036854775808 ≤ t.state ∧ t.state ≤ 9223372036854775807
  hc : t.calls.length ≤ n
  ha : t.ans.length ≤ n
  hr : t.rd.length ≤ n
  hw : t.wr.length ≤ n
  hm : t.marks.length ≤ n
end Go.Proofs.YtghfijncihbojaaGreatDoor

set_option linter.unusedSimpArgs false
set_option linter.unusedVariables false
set_option linter.unnecessarySimpa false
namespace Go.Proofs.YtghfijncihbojaaGreatDoor
open Go Go.RowKit
/-- A told row can be read; each of some. -/
def RD.sees (w : World) (r : RD) : Prop := Sees w r.v r.k r.n r.cs
def SeesA (w : World) (rs : List RD) : Prop := ∀ r ∈ rs, r.sees w
section
variable {w0 w : World} {D : List Nat} {L F : List Res} {rs A B C : List RD} {r : RD}
theorem SeesA.nil : SeesA w [] := fun _ h => by cases h
theorem SeesA.cons (h : r.sees w) (h' : SeesA w rs) : SeesA w (r :: rs) := fun q hq => by
  rcases List.mem_cons.1 hq with rfl | hq
  · exact h
  · exact h' q hq
theorem SeesA.head (h : SeesA w (r :: rs)) : r.sees w := h r (List.mem_cons_self ..)
theorem SeesA.tail (h : SeesA w (r :: rs)) : SeesA w rs := fun q hq => h q (List.mem_cons_of_mem _ hq)
theorem ownsR_sees {t k n : Nat} {v : Value} {cs : List Value} (h : World.ownsR w 0 t k v n cs) : Sees w v k n cs := by
  refine ⟨h.1, ?_⟩
  rcases h.2 with ⟨hv, rfl⟩ | ⟨g, cap, cur, hv, _, hg, h1, h2, h3, h4⟩
  · exact .inl ⟨hv, rfl⟩
  · subst hv
    refine .inr ⟨g, 0, cap, rfl, h1, h2, hg.lt, fun j u hj => ?_⟩
    obtain ⟨g', hg', hcell⟩ := row_cell h hj
    simp only [Option.some.injEq, Addr.mk.injEq, and_true] at hg'
    rw [Nat.zero_add, hg']
    exact hcell
theorem St.seeRows (hw : St w0 D L w) (i : Nat) (hL : L[i]? = some (.rows rs)) : SeesA w rs := fun r hr => ownsR_sees (hw.get hL r hr)
theorem St.seeOutA (hw : St w0 D L w) (hs : SeesA w0 rs) (hD : ∀ r ∈ rs, ∀ b, r.v.ownBlock = some b → b ∉ D) : SeesA w rs := fun r hr => hw.seeOut_ (hs r hr) (hD r hr)
theorem nMA : ∀ r ∈ rs, ∀ b, r.v.ownBlock = some b → b ∉ ([] : List Nat) := fun _ _ _ _ => List.not_mem_nil
/-- It can be read, or it is empty, wherever it points. -/
def SeesE (w : World) (v : Value) (k m : Nat) (cs : List Value) : Prop := Sees w v k m cs ∨ ((∃ a, v = .slice a 0 0) ∧ m = 0 ∧ cs = [])
def SeesAE (w : World) (rs : List RD) : Prop := ∀ r ∈ rs, SeesE w r.v r.k r.n r.cs
theorem SeesAE.nil : SeesAE w [] := fun _ h => by cases h
theorem SeesAE.cons (h : SeesE w r.v r.k r.n r.cs) (h' : SeesAE w rs) : SeesAE w (r :: rs) := fun q hq => by
  rcases List.mem_cons.1 hq with rfl | hq
  · exact h
  · exact h' q hq
theorem SeesAE.head (h : SeesAE w (r :: rs)) : SeesE w r.v r.k r.n r.cs := h r (List.mem_cons_self ..)
theorem SeesAE.tail (h : SeesAE w (r :: rs)) : SeesAE w rs := fun q hq => h q (List.mem_cons_of_mem _ hq)
/- the owned rows, parted and joined -/
theorem St.openR (i : Nat) (hp : pick [i] L = some ([.rows A], F)) (hw : St w0 D L w) : St w0 D (A.map RD.res ++ F) w := St.openRows (hw.perm (pick_perm [i] hp).symm)
theorem St.closeR (is : List Nat) (hp : pick is L = some (A.map RD.res, F)) (hw : St w0 D L w) : St w0 D (.rows A :: F) w := St.closeRows (hw.perm (pick_perm is hp).symm)
end
section
variable {P : Program} {ops : Array Oper} {Q : Exit → Act → World → Prop} {n : Nat} {w0 : World} {D : List Nat} {L L' : List Res} {e : Env}
theorem JL.ghost {l : List Oper} (g : ∀ w, St w0 D L w → St w0 D L' w) (h : JL P ops Q n w0 D L' l e) : JL P ops Q n w0 D L l e := fun w hw => h w (g w hw)
theorem JC.ghost {c : Code} (g : ∀ w, St w0 D L w → St w0 D L' w) (h : JC P Q n w0 D L' c e) : JC P Q n w0 D L c e := fun w hw => h w (g w hw)
theorem JQ.ghost {x : Exit} (g : ∀ w, St w0 D L w → St w0 D L' w) (h : JQ Q x n w0 D L' e) : JQ Q x n w0 D L e := fun w hw => h w (g w hw)
section
variable {d : Option Tmp} {ty : TypeId} {pos : String} {aft : Array Edge} {gd : Option (Nat × Bool)}
end
end
/- a row one of whose elements is told cell by cell -/
section
variable {α : Type} {enc : α → List Value} {k : Nat} {Q R : List α} {j : Nat} {cs : List Value}
/- marks of elements that take as many as they are great -/
variable {mk : α → Nat → α} {ct : α → Nat}
end
/- ghosts on rows told cell by cell -/
section
variable {α : Type} {enc : α → List Value} {k : Nat} {Q R l : List α} {j : Nat} {cs : List Value} {w0 w : World} {D : List Nat} {L F : List Res} {A : List RD} {r : RD} {v : Value} {t n : Nat}
end
end Go.Proofs.YtghfijncihbojaaGreatDoor

set_option linter.unusedSimpArgs false
set_option linter.unusedVariables false
set_option linter.unnecessarySimpa false
namespace Go.Proofs.YtghfijncihbojaaGreatDoor
open Go Go.RowKit
section
variable {P : Program} {ops : Array Oper} {Q : Exit → Act → World → Prop} {n : Nat} {w0 : World} {D : List Nat} {L M : List Res} {e : Env} {z fuel : Nat} {listed : Array Bool}
end
attribute [local irreducible] JL JC JQ JO LO PO JA JX Ct

theorem N_big (pa : Option Addr) (pc : Nat) (p : Str) :
    Ct Tryz.prog 6 [.slice pa p.length pc] [] (fun _ => True) (fun v A' => v = .bool (decide (1048576 < ((p.length : Nat) : Int))) ∧ A' = []) := by
  refine Ct.intro Tryz.func6 rfl Tryz.ntmps6 (lb rfl) fun w0 hpre => ?_
  refine jD <| jF <| jA (jG (v := .bool false) rfl) <| jE <| jB <| jD <| jF <| jA (jC (v := .slice pa p.length pc) rfl) <| jA (jy ks rfl) <| jA (kU rfl rfl) ?_
  refine jA (jG (v := .bool (decide (1048576 < ((p.length : Nat) : Int)))) rfl) <| jE <| jB <| jM <| jU (.inl rfl) rfl (jN (v := .bool (decide (1048576 < ((p.length : Nat) : Int)))) rfl) (List.nil_sublist _) ?_
  exact ⟨rfl, rfl⟩

end Go.Proofs.YtghfijncihbojaaGreatDoor

set_option linter.unusedSimpArgs false
set_option linter.unusedVariables false
set_option linter.unnecessarySimpa false
namespace Go.Proofs.YtghfijncihbojaaGreatDoor
open Go Go.RowKit
theorem Ct.toMachB {P : Program} {f : FuncId} {args : List Value} {A : List Res} {Pre : World → Prop} {s : List Cell} {n : Nat} (h : Ct P f args A Pre (fun v A' => ∃ a c, v = .agg #[.slice a s.length c, .slice none 0 0, .slice none 0 0] ∧ A' = [rC a c s])) (hO : okC' n 1048576 s) :
    Ct P f args A Pre (fun v A' => ∃ r0x r0, (fun s => (⟨s, [], []⟩ : MS)) s = r0 ∧ r0.ok n 0 ∧ v = mv r0x r0 ∧ A' = mr r0x r0) := fun w hA hp => by
  refine (h w hA hp).mono fun e w' h => ?_
  obtain ⟨v, A', rfl, ⟨a, c, rfl, rfl⟩, hst⟩ := h
  refine ⟨_, mr ⟨a, c, none, 0, none, 0⟩ ⟨s, [], []⟩, rfl, ⟨⟨a, c, none, 0, none, 0⟩, _, rfl, ⟨hO.1, Nat.le_refl _, Nat.le_refl _, fun c hc => hO.2 c hc⟩, rfl, rfl⟩, ?_⟩
  exact ((hst.nilRow 9 1).nilRow 9 1).perm (List.perm_append_comm (l₁ := [rS none 0 [], rS none 0 []]) (l₂ := [rC a c s])).symm
def bootS : List Cell := ((⟨[], [], []⟩ : MS).spawn 0).1.s
theorem MS.ok.okC' {m : MS} {S T : Nat} (h : m.ok S T) : okC' S 1048576 m.s := ⟨h.1, fun c hc => h.2.2.2 c hc⟩
attribute [local irreducible] JL JC JQ JO LO PO JA JX Ct

theorem I_machOf0 (sa : Option Addr) (sc : Nat) (s : List Cell) (hs : s.length ≤ 1000000000) :
    Ct Tryz.prog 63 [.slice sa s.length sc] [] (fun w => Sees w (.slice sa s.length sc) 2 s.length (s.flatMap encC)) (fun v A' => ∃ a c, v = .agg #[.slice a s.length c, .slice none 0 0, .slice none 0 0] ∧ A' = [rC a c s]) := by
  refine Ct.intro Tryz.func63 rfl Tryz.ntmps63 (lb rfl) fun w0 hpre => ?_
  have hs_sa : Sees w0 _ _ _ _ := hpre
  refine jD <| jF ?_
  refine jH rfl (jh (z := zM) (cs := zC) kj rfl) ?_
  rintro _ _ ⟨b_1, rfl, rfl⟩
  refine jE <| jB <| jD <| jF <| jA (jC (v := .slice sa s.length sc) rfl) ?_
  refine jH rfl (jI [] Tryz.call96 rfl (C_cloneC sa sc s (by omega)) rfl (fun w hw => hw.seeOut_ hs_sa nM)) ?_
  rintro _ _ ⟨_, ⟨a_2, c_3, rfl, rfl⟩, rfl⟩
  refine jA (kN (ps := [(0, .slice a_2 s.length c_3)]) (cs := [.slice a_2 s.length c_3, .slice none 0 0, .slice none 0 0]) rfl (by kernel_rfl)) ?_
  refine jH rfl (ja 1 (vs := [.slice a_2 s.length c_3, .slice none 0 0, .slice none 0 0]) (cs' := [.slice a_2 s.length c_3, .slice none 0 0, .slice none 0 0]) rfl rfl rfl rfl gB rfl rfl (lb rfl) rfl) ?_
  rintro _ _ rfl
  refine jE <| jB <| jM <| jU (.inl rfl) rfl (jg (je 1 (vs := [.slice a_2 s.length c_3, .slice none 0 0, .slice none 0 0]) rfl rfl gK gB rfl rfl) ⟨_, rfl⟩) (tS 1 _) ?_
  exact ⟨a_2, c_3, rfl, rfl⟩

theorem I_machOfB (sa : Option Addr) (sc : Nat) (s : List Cell) (hs : s.length ≤ 1000000000) {n : Nat} (hO : okC' n 1048576 s) :
    Ct Tryz.prog 63 [.slice sa s.length sc] [] (fun w => Sees w (.slice sa s.length sc) 2 s.length (s.flatMap encC)) (fun v A' => ∃ r0x r0, (fun s => (⟨s, [], []⟩ : MS)) s = r0 ∧ r0.ok n 0 ∧ v = mv r0x r0 ∧ A' = mr r0x r0) := (I_machOf0 sa sc s hs).toMachB hO

theorem I_callOn (sa : Option Addr) (sc : Nat) (s : List Cell) (proc : Int) (c : CL) (hs : s.length ≤ 18000000) (hproc : -9223372036854775808 ≤ proc ∧ proc ≤ 9223372036854775807) (hc : c.ok 1048576) {n : Nat} (hO : okC' n 1048576 s) (hn : n ≤ 18000000) :
    Ct Tryz.prog 30 [.slice sa s.length sc, .int .i64 proc, .agg #[.int .i64 c.kind, str c.name, str c.to_, .int .i64 c.a, .int .i64 c.b, str c.text]] ([]) (fun w => Sees w (.slice sa s.length sc) 2 s.length (s.flatMap encC) ∧ HexOk w) (fun v A' => ∃ (x' : MA) (m' : MS) (r0 : AN), (⟨s, [], []⟩ : MS).doCall proc c = (m', r0) ∧ m'.ok (3 * n + 20) (7 * n + 200) ∧ ((0 ≤ r0.code ∧ r0.code ≤ 9) ∧ (-1 ≤ r0.n ∧ r0.n ≤ 1000000000) ∧ r0.text.length ≤ 30000000000000) ∧ v = .tuple #[.slice x'.a0 m'.s.length x'.c0, .agg #[.int .i64 r0.code, .int .i64 r0.n, str r0.text], .agg #[.slice x'.a1 m'.r.length x'.c1, .slice x'.a2 m'.w.length x'.c2]] ∧ A' = mr x' m') := by
  refine Ct.introL Tryz.func30 rfl Tryz.ntmps30 (lb rfl) fun w0 hpre hlow => ?_
  have hs_sa : Sees w0 _ _ _ _ := hpre.1
  obtain ⟨hc1, hc2, hc3, hc4, hc5, hc6⟩ := id hc
  refine jD <| jF ?_
  refine jH rfl (jv (cs := [iv c.kind, str c.name, str c.to_, iv c.a, iv c.b, str c.text]) rfl rfl) ?_
  rintro _ _ ⟨b_1, rfl, rfl⟩
  refine jA (jG (v := .slice none 0 0) rfl) ?_
  refine jH rfl (jh (z := .agg #[iv 0, iv 0, str []]) (cs := [iv 0, iv 0, str []]) km rfl) ?_
  rintro _ _ ⟨b_2, rfl, rfl⟩
  refine jH rfl (jh (z := .agg #[.slice none 0 0, .slice none 0 0]) (cs := [.slice none 0 0, .slice none 0 0]) kz rfl) ?_
  rintro _ _ ⟨b_3, rfl, rfl⟩
  refine jE <| jB <| jD <| jF <| jA (jC (v := .slice sa s.length sc) rfl) ?_
  refine jH rfl (jI [] Tryz.call63 rfl (I_machOfB sa sc s (by first | omega | simp) hO) rfl (fun w hw => hw.seeOut_ hs_sa nM)) ?_
  rintro _ _ ⟨_, ⟨x_4, m_5, e_7, k_6, rfl, rfl⟩, rfl⟩
  refine jH rfl (jh (z := zM) (cs := zC) kj rfl) ?_
  rintro _ _ ⟨b_8, rfl, rfl⟩
  refine jH rfl (jc 0 x_4 m_5 rfl rfl rfl rfl) ?_
  rintro _ _ rfl
  refine jE <| jB <| jD <| jF <| jA (jC (v := iv proc) rfl) <| jT (je 6 (vs := [iv c.kind, str c.name, str c.to_, iv c.a, iv c.b, str c.text]) rfl rfl gE ky rfl rfl) ?_
  refine jH rfl (jI [0, 0, 0, 0] Tryz.call52 rfl (N_do b_8 x_4 m_5 k_6 (by omega) (by omega) proc c (by omega) hc) rfl (fun w hw => hw.hex hlow hpre.2)) ?_
  rintro _ _ ⟨_, ⟨x_11, m_12, A_13, e_9, k_10, f_14, rfl, rfl⟩, rfl⟩
  refine jH rfl (jh (z := .agg #[iv 0, iv 0, str []]) (cs := [iv 0, iv 0, str []]) km rfl) ?_
  rintro _ _ ⟨b_15, rfl, rfl⟩
  refine jH rfl (ja 0 (vs := [iv A_13.code, iv A_13.n, str A_13.text]) (cs' := [iv A_13.code, iv A_13.n, str A_13.text]) rfl rfl rfl rfl kc rfl rfl (lb rfl) rfl) ?_
  rintro _ _ rfl
  refine jE <| jB <| jD <| jq [bk b_15 37 [iv A_13.code, iv A_13.n, str A_13.text], mb b_8 x_11 m_12] 7 mixed (by simp) <| jJ 0 rfl (jY fo58_0 rfl) <| jj 1 rfl (jf 1 (v := .slice x_11.a0 m_12.s.length x_11.c0) rfl rfl gL rfl) <| jj 2 rfl (je 0 (vs := [iv A_13.code, iv A_13.n, str A_13.text]) rfl rfl ke kc rfl rfl) <| jJ 3 rfl (jY fo58_1 rfl) <| jj 4 rfl (je 1 (vs := [.slice x_11.a1 m_12.r.length x_11.c1, .slice x_11.a2 m_12.w.length x_11.c2]) rfl rfl gG kr rfl rfl) <| jJ 5 rfl (jG (v := .slice x_11.a0 m_12.s.length x_11.c0) rfl) ?_
  refine jK (i := 6) ?_
  refine jP rfl rfl (ja 6 (vs := [iv A_13.code, iv A_13.n, str A_13.text]) (cs' := [iv A_13.code, iv A_13.n, str A_13.text]) rfl rfl rfl rfl kc rfl rfl (lb rfl) rfl) ?_
  rintro _ _ rfl
  refine ⟨(by simp), ?_⟩
  refine jK (i := 7) ?_
  refine jo rfl (ja 5 (vs := [.slice x_11.a1 m_12.r.length x_11.c1, .slice x_11.a2 m_12.w.length x_11.c2]) (cs' := [.slice x_11.a1 m_12.r.length x_11.c1, .slice x_11.a2 m_12.w.length x_11.c2]) rfl rfl rfl rfl kr rfl rfl (lb rfl) rfl) ?_
  rintro _ _ rfl
  refine jB <| jM <| kK (pick_perm [2, 2, 2] (A := [rC x_11.a0 x_11.c0 m_12.s, rS x_11.a1 x_11.c1 m_12.r, rS x_11.a2 x_11.c2 m_12.w]) (F := [bk b_15 37 [iv A_13.code, iv A_13.n, str A_13.text], mb b_8 x_11 m_12, bk b_3 30 [.slice x_11.a1 m_12.r.length x_11.c1, .slice x_11.a2 m_12.w.length x_11.c2], bk b_2 37 [iv A_13.code, iv A_13.n, str A_13.text], bk b_1 43 [iv c.kind, str c.name, str c.to_, iv c.a, iv c.b, str c.text]]) rfl).symm <| kZ (.inl rfl) rfl (jN (v := .slice x_11.a0 m_12.s.length x_11.c0) rfl) (jg (je 6 (vs := [iv A_13.code, iv A_13.n, str A_13.text]) rfl rfl ke kc rfl rfl) ⟨_, rfl⟩) (jg (je 5 (vs := [.slice x_11.a1 m_12.r.length x_11.c1, .slice x_11.a2 m_12.w.length x_11.c2]) rfl rfl gG kr rfl rfl) ⟨_, rfl⟩) (tS 3 _) ?_
  subst e_7
  exact ⟨x_11, m_12, A_13, e_9, (k_10.mono (by omega) (by omega)), (by (try dsimp only); omega), rfl, rfl⟩

theorem D_boot  :
    Ct Tryz.prog 11 [] [] (fun _ => True) (fun v A' => ∃ r0a r0c r0, bootS = r0 ∧ (okC' 3 1048576 r0) ∧ v = .slice r0a r0.length r0c ∧ A' = [rC r0a r0c r0]) := by
  refine Ct.intro Tryz.func11 rfl Tryz.ntmps11 (lb rfl) fun w0 hpre => ?_
  refine jD <| jF <| jA (jG (v := .slice none 0 0) rfl) <| jE <| jB <| jD <| jF ?_
  refine jH rfl (kH (ps := []) (cur := #[]) ki kp gJ rfl (by kernel_rfl) (by decide) (by decide)) ?_
  rintro _ _ ⟨a_1, rfl, rfl⟩
  refine jH rfl (jI [] Tryz.call34 rfl (D_machOf a_1 0 ([] : List Cell) (by first | omega | simp) 0 ⟨by simp, fun c hc => by cases hc⟩) rfl (fun w hw => hw.see (i := 0) rfl)) ?_
  rintro _ _ ⟨_, ⟨x_2, m_3, e_5, k_4, rfl, rfl⟩, rfl⟩
  refine jH rfl (jI [0, 0, 0] Tryz.call33 rfl (M_spawn x_2 m_3 k_4 (by omega) (by omega) 0 (by omega)) rfl (fun _ _ => trivial)) ?_
  rintro _ _ ⟨_, ⟨x_8, m_9, n_10, n_12, e_6, k_7, f_11, f_13, rfl, rfl⟩, rfl⟩
  refine jA (jC (v := .tuple #[mv x_8 m_9, iv n_10, iv n_12]) rfl) <| jA (jS (v := mv x_8 m_9) rfl rfl) <| jA (jS (v := iv n_10) rfl rfl) <| jA (jS (v := iv n_12) rfl rfl) ?_
  refine jH rfl (jh (z := zM) (cs := zC) kj rfl) ?_
  rintro _ _ ⟨b_14, rfl, rfl⟩
  refine jH rfl (jc 0 x_8 m_9 rfl rfl rfl rfl) ?_
  rintro _ _ rfl
  refine jA (jG (v := iv n_10) rfl) <| jA (jG (v := iv n_12) rfl) <| jE <| jB <| jD <| jF <| jA (jY fo58_0 rfl) <| jT (jf 0 (v := .slice x_8.a0 m_9.s.length x_8.c0) rfl rfl gL rfl) <| jA (jG (v := .slice x_8.a0 m_9.s.length x_8.c0) rfl) <| jE ?_
  refine jB <| jM <| kK (pick_perm [1] (A := [rC x_8.a0 x_8.c0 m_9.s]) (F := [mb b_14 x_8 m_9, rS x_8.a1 x_8.c1 m_9.r, rS x_8.a2 x_8.c2 m_9.w, Res.row (.slice a_1 0 0) 130 2 0 (([] : List Cell).flatMap encC)]) rfl).symm <| jU (.inl rfl) rfl (jN (v := .slice x_8.a0 m_9.s.length x_8.c0) rfl) (tS 1 _) ?_
  exact ⟨x_8.a0, x_8.c0, m_9.s, (by subst e_5; unfold bootS; rw [show ((⟨[], [], []⟩ : MS).spawn 0) = _ from e_6]), (k_7.okC'.mono (by omega)), rfl, rfl⟩

end Go.Proofs.YtghfijncihbojaaGreatDoor

set_option linter.unusedSimpArgs false
set_option linter.unusedVariables false
set_option linter.unnecessarySimpa false
namespace Go.Proofs.YtghfijncihbojaaGreatDoor
open Go Go.RowKit
/-- How great a store is at most behind so many calls; how many keys they touch. -/
def grow (S : Nat) : Nat → Nat
  | 0 => S
  | j + 1 => 3 * grow S j + 20
def growT (S T : Nat) : Nat → Nat
  | 0 => T
  | j + 1 => growT S T j + 7 * grow S j + 200
theorem grow_step (S j : Nat) : grow S (j + 1) = 3 * grow S j + 20 := rfl
theorem growT_step (S T j : Nat) : growT S T (j + 1) = growT S T j + 7 * grow S j + 200 := rfl
theorem grow_le (S : Nat) {i j : Nat} (h : i ≤ j) : grow S i ≤ grow S j := by
  induction h with
  | refl => exact Nat.le_refl _
  | step _ ih => rw [grow_step]; omega
theorem growT_le (S T : Nat) {i j : Nat} (h : i ≤ j) : growT S T i ≤ growT S T j := by
  induction h with
  | refl => exact Nat.le_refl _
  | step _ ih => rw [growT_step]; omega
/-- The steps done by a machine, and what they told, behind what was told already. -/
def MS.runA : MS → List SP → List AN → MS × List AN
  | m, [], o => (m, o)
  | m, p :: l, o => MS.runA (m.doCall p.proc p.call).1 l (o ++ [(m.doCall p.proc p.call).2])
theorem runA_step {m m1 : MS} {a : AN} {l : List SP} {o : List AN} {j : Nat} (hj : j < l.length) (e : m.doCall (l.getD j p0_).proc (l.getD j p0_).call = (m1, a)) : MS.runA m (l.drop j) o = MS.runA m1 (l.drop (j + 1)) (o ++ [a]) := by
  rw [drop_at (getD_some (d := p0_) hj), MS.runA, e]
theorem foldSpan_len : ∀ (l r : List Str), (l.foldl addSpan r).length ≤ r.length + l.length
  | [], r => Nat.le_refl _
  | x :: l, r => by
    have h1 := foldSpan_len l (addSpan r x)
    have h2 := addSpan_len r x
    simp only [List.foldl_cons, List.length_cons] at *
    omega
/-- Calls in range. -/
def okSteps (l : List SP) : Prop := ∀ j, j < l.length → (l.getD j p0_).call.ok 1048576 ∧ -9223372036854775808 ≤ (l.getD j p0_).proc ∧ (l.getD j p0_).proc ≤ 9223372036854775807
def stepsOf (t : TD) : List SP := t.calls.map fun c => ⟨t.proc, c⟩
/-- What a transaction sees. -/
def viewA (s : List Cell) (t : TD) : List Cell := (MS.runA ⟨s, [], []⟩ (stepsOf t) []).1.s
/-- A call asked within a transaction that sees this store. -/
def TD.askV (v : List Cell) (t : TD) (c : CL) : TD × AN :=
  if ¬ t.state = 1 then (t, ⟨2, 0, []⟩) else if 12 ≤ t.calls.length then (t, ⟨3, 0, []⟩) else
    ({ t with calls := t.calls ++ [c], ans := t.ans ++ [((⟨v, [], []⟩ : MS).doCall t.proc c).2], rd := ((⟨v, [], []⟩ : MS).doCall t.proc c).1.r.foldl addSpan t.rd, wr := ((⟨v, [], []⟩ : MS).doCall t.proc c).1.w.foldl addSpan t.wr }, ((⟨v, [], []⟩ : MS).doCall t.proc c).2)
end Go.Proofs.YtghfijncihbojaaGreatDoor

set_option linter.unusedSimpArgs false
set_option linter.unusedVariables false
set_option linter.unnecessarySimpa false
namespace Go.Proofs.YtghfijncihbojaaGreatDoor
open Go Go.RowKit
attribute [local irreducible] JL JC JQ JO LO PO JA JX Ct

theorem N_run (p : Nat) (x : MA) (m : MS) {S T : Nat} (hk : m.ok S T) (hS : S ≤ 20000000) (hT : T ≤ 20000000) (stepsa : Option Addr) (stepsc : Nat) (steps : List SP) (hsteps : steps.length ≤ 20000000) (hP : okSteps steps) (hg : grow S steps.length ≤ 20000000) (hgT : growT S T steps.length ≤ 20000000) :
    Ct Tryz.prog 128 [.pointer (some ⟨p, 0, none⟩), .slice stepsa steps.length stepsc] (mb p x m :: mr x m) (fun w => (Sees w (.slice stepsa steps.length stepsc) 7 steps.length (steps.flatMap encP) ∧ ∀ i_, (Value.slice stepsa steps.length stepsc).ownBlock = some i_ → i_ ∉ idsOf (mb p x m :: mr x m)) ∧ HexOk w) (fun v A' => ∃ (x' : MA) (m' : MS) (oa : Option Addr) (oc : Nat) (o : List AN), m.runA steps [] = (m', o) ∧ m'.ok (grow S steps.length) (growT S T steps.length) ∧ o.length = steps.length ∧ v = .slice oa o.length oc ∧ A' = mb p x' m' :: mr x' m' ++ [Res.row (.slice oa o.length oc) 37 3 o.length (o.flatMap encA)]) := by
  have hg0 : grow S 0 = S := rfl
  have hgT0 : growT S T 0 = T := rfl
  refine Ct.introL Tryz.func128 rfl Tryz.ntmps128 (lb rfl) fun w0 hpre hlow => ?_
  have hs_stepsa : Sees w0 _ _ _ _ := hpre.1.1
  refine jD <| jF <| jA (jG (v := .slice none 0 0) rfl) <| jE <| jB <| jD <| jF <| jA (jG (v := .slice none 0 0) rfl) <| jE <| jB ?_
  refine jD <| jD <| JC.nilRow 37 3 <| jF <| jA (jC (v := .slice stepsa steps.length stepsc) rfl) <| jA (jy Tryz.underlying103 rfl) <| jA (jC (v := iv 0) rfl) <| jE <| jB <| jl ?_
  refine kE (fun k_ e_ L_ => ∃ j_ : Nat, ∃ x1 : MA, ∃ mm : MS, ∃ o_a : Option Addr, ∃ o_c : Nat, ∃ o_ : List AN, (mm.ok (grow S j_) (growT S T j_)) ∧ (j_ ≤ steps.length) ∧ (o_.length = j_) ∧ (MS.runA mm (steps.drop j_) o_ = m.runA steps []) ∧ e_ 0 = pv p ∧ e_ 4 = .slice none 0 0 ∧ e_ 5 = .slice o_a o_.length o_c ∧ e_ 8 = .slice stepsa steps.length stepsc ∧ e_ 9 = nv steps.length ∧ e_ 10 = nv j_ ∧ L_ = [Res.row (.slice o_a o_.length o_c) 37 3 o_.length (o_.flatMap encA), mb p x1 mm, rC x1.a0 x1.c0 mm.s, rS x1.a1 x1.c1 mm.r, rS x1.a2 x1.c2 mm.w] ∧ k_ = steps.length + 1 - j_) _ ⟨0, x, m, none, 0, ([] : List AN), (hk.mono (by omega) (by omega)), (by omega), (by rfl), rfl, rfl, rfl, rfl, rfl, rfl, rfl, rfl, rfl⟩ ?_
  rintro _ e_1 _ ⟨j_, x1, mm, o_a, o_c, o_, hkmm, hj, hol, hR, he_2, he_3, he_4, he_5, he_6, he_7, rfl, rfl⟩
  refine jD <| jF <| jA (jr he_7 he_6) <| jE <| jB <| jD ?_
  by_cases h_8 : ((j_ : Nat) : Int) < ((steps.length : Nat) : Int)
  · have hlt : j_ < steps.length := by omega
    have hpj := hP j_ hlt
    have hpq := hpj.2
    have hgj := grow_le S (show j_ + 1 ≤ steps.length by omega)
    have hgT := growT_le S T (show j_ + 1 ≤ steps.length by omega)
    have hg1 := grow_step S j_
    have hg2 := growT_step S T j_
    refine jQ (cB (dT h_8)) <| jW <| jB <| jD <| jl <| jD <| jF ?_
    obtain ⟨hr_9, hr_9b, -⟩ := sees_some hs_stepsa (by omega)
    refine jA (kD (i := j_) Tryz.underlying103 Tryz.sizeOf159 hr_9 hr_9b he_5 he_7 (by omega)) <| jT (LO.loadSK (vs := [iv ((steps.getD j_ p0_).proc), iv ((steps.getD j_ p0_).call.kind), str ((steps.getD j_ p0_).call.name), str ((steps.getD j_ p0_).call.to_), iv ((steps.getD j_ p0_).call.a), iv ((steps.getD j_ p0_).call.b), str ((steps.getD j_ p0_).call.text)]) hs_stepsa (hpre.1.2) rfl Tryz.isAgg159 Tryz.sizeOf159 (flat_take encP_len p0_ steps j_ (by omega)) rfl (by decide)) ?_
    refine jH rfl (jh (z := .agg #[iv 0, iv 0, str [], str [], iv 0, iv 0, str []]) (cs := [iv 0, iv 0, str [], str [], iv 0, iv 0, str []]) Tryz.zeroValue159 rfl) ?_
    rintro _ _ ⟨b_10, rfl, rfl⟩
    refine jH rfl (ja 0 (vs := [iv ((steps.getD j_ p0_).proc), iv ((steps.getD j_ p0_).call.kind), str ((steps.getD j_ p0_).call.name), str ((steps.getD j_ p0_).call.to_), iv ((steps.getD j_ p0_).call.a), iv ((steps.getD j_ p0_).call.b), str ((steps.getD j_ p0_).call.text)]) (cs' := [iv ((steps.getD j_ p0_).proc), iv ((steps.getD j_ p0_).call.kind), str ((steps.getD j_ p0_).call.name), str ((steps.getD j_ p0_).call.to_), iv ((steps.getD j_ p0_).call.a), iv ((steps.getD j_ p0_).call.b), str ((steps.getD j_ p0_).call.text)]) rfl rfl rfl rfl Tryz.sizeOf159 rfl rfl (lb rfl) rfl) ?_
    rintro _ _ rfl
    refine jE <| jB <| jF <| jA (jC (v := .slice o_a o_.length o_c) he_4) <| jA (jC (v := pv p) he_2) <| jA (jY fo159_0 rfl) <| jT (jf 0 (v := iv ((steps.getD j_ p0_).proc)) rfl rfl kl rfl) <| jA (jY fo159_1 rfl) <| jT (je 0 (vs := [iv ((steps.getD j_ p0_).call.kind), str ((steps.getD j_ p0_).call.name), str ((steps.getD j_ p0_).call.to_), iv ((steps.getD j_ p0_).call.a), iv ((steps.getD j_ p0_).call.b), str ((steps.getD j_ p0_).call.text)]) rfl rfl gE ky rfl rfl) ?_
    refine jH rfl (jI [2, 2, 2, 2] Tryz.call52 rfl (N_do p x1 mm hkmm (by omega) (by omega) ((steps.getD j_ p0_).proc) ((steps.getD j_ p0_).call) (by omega) hpj.1) rfl (fun w hw => hw.hex hlow hpre.2)) ?_
    rintro _ _ ⟨_, ⟨x_13, m_14, A_15, e_11, k_12, f_16, rfl, rfl⟩, rfl⟩
    refine jH rfl (kH (ps := [(0, .agg #[iv A_15.code, iv A_15.n, str A_15.text])]) (cur := #[iv A_15.code, iv A_15.n, str A_15.text]) gH kc km rfl (by kernel_rfl) (by decide) (by decide)) ?_
    rintro _ _ ⟨a_17, rfl, rfl⟩
    refine jH rfl (kG 6 (q := 1) (news := ([A_15] : List AN).flatMap encA) (n' := (o_ ++ ([A_15] : List AN)).length) (cs' := (o_ ++ ([A_15] : List AN)).flatMap encA) rfl gH gH Tryz.typeInfo37 rfl (by' := 32) rfl rfl rfl rfl rfl (fun w hw => Src.sees (hw.see (i := 0) rfl) (oneA _)) (by (try simp only [LE]); omega) (by (try simp only [LE]); omega) (by simp only [List.length_append, List.length_take, List.length_drop, List.length_cons, List.length_nil] <;> first | rfl | omega) (by simp only [List.flatMap_append])) ?_
    rintro _ _ ⟨a_18, c_19, rfl, rfl⟩
    refine jA (jG (v := .slice a_18 ((o_ ++ ([A_15] : List AN)).length) c_19) rfl) <| jE <| jk <| jB <| jF <| jA (ji (c := ((j_ + 1 : Nat) : Int)) he_7 rfl (wr (by omega))) <| jA (jC (v := iv ((j_ + 1 : Nat) : Int)) rfl) <| jE <| jt [6, 1, 1, 1, 1] (A := [Res.row (.slice a_18 ((o_ ++ ([A_15] : List AN)).length) c_19) 37 3 ((o_ ++ ([A_15] : List AN)).length) ((o_ ++ ([A_15] : List AN)).flatMap encA), mb p x_13 m_14, rC x_13.a0 x_13.c0 m_14.s, rS x_13.a1 x_13.c1 m_14.r, rS x_13.a2 x_13.c2 m_14.w]) rfl ?_
    refine ju (steps.length + 1 - (j_ + 1)) (by omega) ⟨(j_ + 1), x_13, m_14, a_18, c_19, (o_ ++ ([A_15] : List AN)), (k_12.mono (by omega) (by omega)), (by omega), (by simp only [List.length_append, List.length_cons, List.length_nil]; omega), (by rw [runA_step hlt e_11] at hR; exact hR), he_2, he_3, rfl, he_5, he_6, rfl, rfl, rfl⟩
  refine jR (cB (dF h_8)) <| kB <| jm <| jm <| kC <| jB <| jD <| jF <| jA (jC (v := .slice o_a o_.length o_c) he_4) <| jA (jG (v := .slice o_a o_.length o_c) rfl) ?_
  refine jE <| jB <| jM <| kK (pick_perm [1, 1, 1, 1, 0] (A := [mb p x1 mm, rC x1.a0 x1.c0 mm.s, rS x1.a1 x1.c1 mm.r, rS x1.a2 x1.c2 mm.w, Res.row (.slice o_a o_.length o_c) 37 3 o_.length (o_.flatMap encA)]) (F := []) rfl).symm <| jU (.inl rfl) rfl (jN (v := .slice o_a o_.length o_c) rfl) (tS 5 _) ?_
  obtain rfl : j_ = steps.length := by omega
  rw [List.drop_length, MS.runA] at hR
  exact ⟨x1, mm, o_a, o_c, o_, hR.symm, hkmm, hol, rfl, rfl⟩

theorem I_serialRun (sa : Option Addr) (sc : Nat) (s : List Cell) (stepsa : Option Addr) (stepsc : Nat) (steps : List SP) (hs : s.length ≤ 20000000) (hsteps : steps.length ≤ 20000000) {n : Nat} (hO : okC' n 1048576 s) (hn : n ≤ 20000000) (hP : okSteps steps) (hg : grow n steps.length ≤ 20000000) (hgT : growT n 0 steps.length ≤ 20000000) :
    Ct Tryz.prog 64 [.slice sa s.length sc, .slice stepsa steps.length stepsc] ([]) (fun w => Sees w (.slice sa s.length sc) 2 s.length (s.flatMap encC) ∧ Sees w (.slice stepsa steps.length stepsc) 7 steps.length (steps.flatMap encP) ∧ HexOk w) (fun v A' => ∃ (x' : MA) (m' : MS) (oa : Option Addr) (oc : Nat) (o : List AN), (⟨s, [], []⟩ : MS).runA steps [] = (m', o) ∧ m'.ok (grow n steps.length) (growT n 0 steps.length) ∧ o.length = steps.length ∧ v = .tuple #[.slice x'.a0 m'.s.length x'.c0, .slice oa o.length oc] ∧ A' = [rC x'.a0 x'.c0 m'.s, Res.row (.slice oa o.length oc) 37 3 o.length (o.flatMap encA)]) := by
  refine Ct.introL Tryz.func64 rfl Tryz.ntmps64 (lb rfl) fun w0 hpre hlow => ?_
  have hs_sa : Sees w0 _ _ _ _ := hpre.1
  have hs_stepsa : Sees w0 _ _ _ _ := hpre.2.1
  refine jD <| jF <| jA (jG (v := .slice none 0 0) rfl) <| jA (jG (v := .slice none 0 0) rfl) <| jE <| jB <| jD <| jF <| jA (jC (v := .slice sa s.length sc) rfl) ?_
  refine jH rfl (jI [] Tryz.call63 rfl (I_machOfB sa sc s (by first | omega | simp) hO) rfl (fun w hw => hw.seeOut_ hs_sa nM)) ?_
  rintro _ _ ⟨_, ⟨x_1, m_2, e_4, k_3, rfl, rfl⟩, rfl⟩
  refine jH rfl (jh (z := zM) (cs := zC) kj rfl) ?_
  rintro _ _ ⟨b_5, rfl, rfl⟩
  refine jH rfl (jc 0 x_1 m_2 rfl rfl rfl rfl) ?_
  rintro _ _ rfl
  refine jE <| jB <| jD <| jF <| jA (jC (v := .slice stepsa steps.length stepsc) rfl) ?_
  refine jH rfl (jI [0, 0, 0, 0] Tryz.call128 rfl (N_run b_5 x_1 m_2 k_3 (by omega) (by omega) stepsa stepsc steps (by omega) hP hg hgT) rfl (fun w hw => ⟨⟨hw.seeOut_ hs_stepsa nM, hw.apart hs_stepsa nM (by simp)⟩, hw.hex hlow hpre.2.2⟩)) ?_
  rintro _ _ ⟨_, ⟨x_6, m_7, a_8, c_9, o_10, e_11, k_12, hl_13, rfl, rfl⟩, rfl⟩
  refine jA (jG (v := .slice a_8 o_10.length c_9) rfl) <| jE <| jB <| jD <| jF <| jA (jY fo58_0 rfl) <| jT (jf 0 (v := .slice x_6.a0 m_7.s.length x_6.c0) rfl rfl gL rfl) <| jA (jC (v := .slice a_8 o_10.length c_9) rfl) <| jA (jG (v := .slice x_6.a0 m_7.s.length x_6.c0) rfl) <| jA (jG (v := .slice a_8 o_10.length c_9) rfl) ?_
  refine jE <| jB <| jM <| kK (pick_perm [1, 3] (A := [rC x_6.a0 x_6.c0 m_7.s, Res.row (.slice a_8 o_10.length c_9) 37 3 o_10.length (o_10.flatMap encA)]) (F := [mb b_5 x_6 m_7, rS x_6.a1 x_6.c1 m_7.r, rS x_6.a2 x_6.c2 m_7.w]) rfl).symm <| jn (.inl rfl) rfl (jN (v := .slice x_6.a0 m_7.s.length x_6.c0) rfl) (jN (v := .slice a_8 o_10.length c_9) rfl) (tS 2 _) ?_
  subst e_4
  exact ⟨x_6, m_7, a_8, c_9, o_10, e_11, k_12, hl_13, rfl, rfl⟩

end Go.Proofs.YtghfijncihbojaaGreatDoor

set_option linter.unusedSimpArgs false
set_option linter.unusedVariables false
set_option linter.unnecessarySimpa false
namespace Go.Proofs.YtghfijncihbojaaGreatDoor
open Go Go.RowKit
structure TX where
  x : TA
  t : TD
def rdsX (p : TX) : List RD := [⟨.slice p.x.a0 p.t.calls.length p.x.c0, 43, 6, p.t.calls.length, p.t.calls.flatMap encK⟩, ⟨.slice p.x.a1 p.t.ans.length p.x.c1, 37, 3, p.t.ans.length, p.t.ans.flatMap encA⟩, ⟨.slice p.x.a2 p.t.rd.length p.x.c2, 9, 1, p.t.rd.length, p.t.rd.map str⟩, ⟨.slice p.x.a3 p.t.wr.length p.x.c3, 9, 1, p.t.wr.length, p.t.wr.map str⟩, ⟨.slice p.x.a4 p.t.marks.length p.x.c4, 3, 1, p.t.marks.length, p.t.marks.map (Value.int .i64)⟩]
theorem seesX {w : World} {p : TX} (h : SeesA w (rdsX p)) : Sees w (.slice p.x.a0 p.t.calls.length p.x.c0) 6 p.t.calls.length (p.t.calls.flatMap encK) ∧ Sees w (.slice p.x.a1 p.t.ans.length p.x.c1) 3 p.t.ans.length (p.t.ans.flatMap encA) ∧ Sees w (.slice p.x.a2 p.t.rd.length p.x.c2) 1 p.t.rd.length (p.t.rd.map str) ∧ Sees w (.slice p.x.a3 p.t.wr.length p.x.c3) 1 p.t.wr.length (p.t.wr.map str) ∧ Sees w (.slice p.x.a4 p.t.marks.length p.x.c4) 1 p.t.marks.length (p.t.marks.map (Value.int .i64)) := ⟨h.head, h.tail.head, h.tail.tail.head, h.tail.tail.tail.head, h.tail.tail.tail.tail.head⟩
theorem TD.same {a b : TD} : a = b ↔ a.id = b.id ∧ a.age = b.age ∧ a.proc = b.proc ∧ a.began = b.began ∧ a.calls = b.calls ∧ a.ans = b.ans ∧ a.rd = b.rd ∧ a.wr = b.wr ∧ a.marks = b.marks ∧ a.state = b.state := by cases a; cases b; simp
instance decTD : DecidableEq TD := fun a b => decidable_of_iff _ TD.same.symm
structure TD.lim (t : TD) (n : Nat) : Prop where
  l0 : t.calls.length ≤ n
  l1 : t.ans.length ≤ n
  l2 : t.rd.length ≤ n
  l3 : t.wr.length ≤ n
  l4 : t.marks.length ≤ n
theorem TD.lim.mono {t : TD} {n m : Nat} (h : t.lim n) (hm : n ≤ m) : t.lim m := ⟨Nat.le_trans h.l0 hm, Nat.le_trans h.l1 hm, Nat.le_trans h.l2 hm, Nat.le_trans h.l3 hm, Nat.le_trans h.l4 hm⟩
end Go.Proofs.YtghfijncihbojaaGreatDoor

set_option linter.unusedSimpArgs false
set_option linter.unusedVariables false
set_option linter.unnecessarySimpa false
namespace Go.Proofs.YtghfijncihbojaaGreatDoor
open Go Go.RowKit
attribute [local irreducible] JL JC JQ JO LO PO JA JX Ct

theorem Z_cloneK (a : Option Addr) (c : Nat) (s : List CL) (hn : s.length ≤ 1000000000000) :
    Ct Tryz.prog 40 [.slice a s.length c] [] (fun w_ => Sees w_ (.slice a s.length c) 6 s.length (s.flatMap encK)) (fun v A' => ∃ a' c', v = .slice a' s.length c' ∧ A' = [.row (.slice a' s.length c') 43 6 s.length (s.flatMap encK)]) := by
  refine Ct.intro Tryz.func40 rfl Tryz.ntmps40 (lb rfl) fun w0 hpre => ?_
  have hs_a : Sees w0 _ _ _ _ := hpre
  refine jD <| jF <| jA (jG (v := .slice none 0 0) rfl) <| jE <| jB <| jD <| jD <| jF <| jA (jC (v := .slice a s.length c) rfl) <| jA (PO.eqNil gC rfl rfl) ?_
  refine jE <| jB ?_
  rcases Bool.eq_false_or_eq_true (a.isNone) with h_1 | h_1
  · refine jQ (cB h_1) <| jD <| jF <| jA (jG (v := .slice none 0 0) rfl) <| jE <| jB <| jM <| jb <| JQ.nilrow 43 6 <| jU (.inl rfl) rfl (jN (v := .slice none 0 0) rfl) (List.Sublist.refl _) ?_
    have ha : a = none := by simpa using h_1
    have hz : s.length = 0 := sees_none (ha ▸ hpre)
    have hs0 : s = [] := List.length_eq_zero_iff.1 hz
    subst hs0
    exact ⟨none, 0, rfl, rfl⟩
  refine jR (cB h_1) <| jW <| jB <| jD <| jF ?_
  refine jH rfl (kH (ps := []) (cur := #[]) gC ky Tryz.zeroValue43 rfl (by kernel_rfl) (by decide) (by decide)) ?_
  rintro _ _ ⟨a_2, rfl, rfl⟩
  refine jA (jC (v := .slice a s.length c) rfl) ?_
  refine jH rfl (kG 0 (q := s.length) (news := s.flatMap encK) (n' := s.length) (cs' := s.flatMap encK) rfl gC gC Tryz.typeInfo43 rfl (by' := 72) rfl rfl rfl rfl rfl (fun w hw => Src.sees (hw.seeOut_ hs_a nM) (oneK _)) (by (try simp only [LE]); omega) (by (try simp only [LE]); omega) (by (try simp only [List.length_take, List.length_drop]); first | rfl | omega) rfl) ?_
  rintro _ _ ⟨a_3, c_4, rfl, rfl⟩
  refine jA (jG (v := .slice a_3 s.length c_4) rfl) <| jE <| jB <| jM <| jU (.inl rfl) rfl (jN (v := .slice a_3 s.length c_4) rfl) (List.Sublist.refl _) ?_
  exact ⟨_, _, rfl, rfl⟩

theorem Z_cloneA (a : Option Addr) (c : Nat) (s : List AN) (hn : s.length ≤ 1000000000000) :
    Ct Tryz.prog 60 [.slice a s.length c] [] (fun w_ => Sees w_ (.slice a s.length c) 3 s.length (s.flatMap encA)) (fun v A' => ∃ a' c', v = .slice a' s.length c' ∧ A' = [.row (.slice a' s.length c') 37 3 s.length (s.flatMap encA)]) := by
  refine Ct.intro Tryz.func60 rfl Tryz.ntmps60 (lb rfl) fun w0 hpre => ?_
  have hs_a : Sees w0 _ _ _ _ := hpre
  refine jD <| jF <| jA (jG (v := .slice none 0 0) rfl) <| jE <| jB <| jD <| jD <| jF <| jA (jC (v := .slice a s.length c) rfl) <| jA (PO.eqNil gH rfl rfl) ?_
  refine jE <| jB ?_
  rcases Bool.eq_false_or_eq_true (a.isNone) with h_1 | h_1
  · refine jQ (cB h_1) <| jD <| jF <| jA (jG (v := .slice none 0 0) rfl) <| jE <| jB <| jM <| jb <| JQ.nilrow 37 3 <| jU (.inl rfl) rfl (jN (v := .slice none 0 0) rfl) (List.Sublist.refl _) ?_
    have ha : a = none := by simpa using h_1
    have hz : s.length = 0 := sees_none (ha ▸ hpre)
    have hs0 : s = [] := List.length_eq_zero_iff.1 hz
    subst hs0
    exact ⟨none, 0, rfl, rfl⟩
  refine jR (cB h_1) <| jW <| jB <| jD <| jF ?_
  refine jH rfl (kH (ps := []) (cur := #[]) gH kc km rfl (by kernel_rfl) (by decide) (by decide)) ?_
  rintro _ _ ⟨a_2, rfl, rfl⟩
  refine jA (jC (v := .slice a s.length c) rfl) ?_
  refine jH rfl (kG 0 (q := s.length) (news := s.flatMap encA) (n' := s.length) (cs' := s.flatMap encA) rfl gH gH Tryz.typeInfo37 rfl (by' := 32) rfl rfl rfl rfl rfl (fun w hw => Src.sees (hw.seeOut_ hs_a nM) (oneA _)) (by (try simp only [LE]); omega) (by (try simp only [LE]); omega) (by (try simp only [List.length_take, List.length_drop]); first | rfl | omega) rfl) ?_
  rintro _ _ ⟨a_3, c_4, rfl, rfl⟩
  refine jA (jG (v := .slice a_3 s.length c_4) rfl) <| jE <| jB <| jM <| jU (.inl rfl) rfl (jN (v := .slice a_3 s.length c_4) rfl) (List.Sublist.refl _) ?_
  exact ⟨_, _, rfl, rfl⟩

theorem Z_cloneI (a : Option Addr) (c : Nat) (s : List Int) (hn : s.length ≤ 1000000000000) :
    Ct Tryz.prog 61 [.slice a s.length c] [] (fun w_ => Sees w_ (.slice a s.length c) 1 s.length (s.map (Value.int .i64))) (fun v A' => ∃ a' c', v = .slice a' s.length c' ∧ A' = [.row (.slice a' s.length c') 3 1 s.length (s.map (Value.int .i64))]) := by
  refine Ct.intro Tryz.func61 rfl Tryz.ntmps61 (lb rfl) fun w0 hpre => ?_
  have hs_a : Sees w0 _ _ _ _ := hpre
  refine jD <| jF <| jA (jG (v := .slice none 0 0) rfl) <| jE <| jB <| jD <| jD <| jF <| jA (jC (v := .slice a s.length c) rfl) <| jA (PO.eqNil kv rfl rfl) ?_
  refine jE <| jB ?_
  rcases Bool.eq_false_or_eq_true (a.isNone) with h_1 | h_1
  · refine jQ (cB h_1) <| jD <| jF <| jA (jG (v := .slice none 0 0) rfl) <| jE <| jB <| jM <| jb <| JQ.nilrow 3 1 <| jU (.inl rfl) rfl (jN (v := .slice none 0 0) rfl) (List.Sublist.refl _) ?_
    have ha : a = none := by simpa using h_1
    have hz : s.length = 0 := sees_none (ha ▸ hpre)
    have hs0 : s = [] := List.length_eq_zero_iff.1 hz
    subst hs0
    exact ⟨none, 0, rfl, rfl⟩
  refine jR (cB h_1) <| jW <| jB <| jD <| jF ?_
  refine jH rfl (kH (ps := []) (cur := #[]) kv ko Tryz.zeroValue3 rfl (by kernel_rfl) (by decide) (by decide)) ?_
  rintro _ _ ⟨a_2, rfl, rfl⟩
  refine jA (jC (v := .slice a s.length c) rfl) ?_
  refine jH rfl (kG 0 (q := s.length) (news := s.map (Value.int .i64)) (n' := s.length) (cs' := s.map (Value.int .i64)) rfl kv kv Tryz.typeInfo3 rfl (by' := 8) rfl rfl rfl rfl rfl (fun w hw => Src.sees (hw.seeOut_ hs_a nM) (oneI _)) (by (try simp only [LE]); omega) (by (try simp only [LE]); omega) (by (try simp only [List.length_take, List.length_drop]); first | rfl | omega) rfl) ?_
  rintro _ _ ⟨a_3, c_4, rfl, rfl⟩
  refine jA (jG (v := .slice a_3 s.length c_4) rfl) <| jE <| jB <| jM <| jU (.inl rfl) rfl (jN (v := .slice a_3 s.length c_4) rfl) (List.Sublist.refl _) ?_
  exact ⟨_, _, rfl, rfl⟩

theorem Z_cloneTouch (a1 a2 : Option Addr) (ac1 ac2 : Nat) (r w : List Str) (hr : r.length ≤ 1000000000) (hw_ : w.length ≤ 1000000000) :
    Ct Tryz.prog 62 [.agg #[.slice a1 r.length ac1, .slice a2 w.length ac2]] [] (fun w_ => Sees w_ (.slice a1 r.length ac1) 1 r.length (r.map str) ∧ Sees w_ (.slice a2 w.length ac2) 1 w.length (w.map str)) (fun v A' => ∃ b1 d1 b2 d2, v = .agg #[.slice b1 r.length d1, .slice b2 w.length d2] ∧ A' = [.row (.slice b1 r.length d1) 9 1 r.length (r.map str), .row (.slice b2 w.length d2) 9 1 w.length (w.map str)]) := by
  refine Ct.intro Tryz.func62 rfl Tryz.ntmps62 (lb rfl) fun w0 hpre => ?_
  refine jD <| jF ?_
  refine jH rfl (jv (cs := [.slice a1 r.length ac1, .slice a2 w.length ac2]) rfl rfl) ?_
  rintro _ _ ⟨b_1, rfl, rfl⟩
  refine jH rfl (jh (z := .agg #[.slice none 0 0, .slice none 0 0]) (cs := [.slice none 0 0, .slice none 0 0]) kz rfl) ?_
  rintro _ _ ⟨b_2, rfl, rfl⟩
  refine jE <| jB <| jD <| jq [bk b_2 30 [.slice none 0 0, .slice none 0 0], bk b_1 30 [.slice a1 r.length ac1, .slice a2 w.length ac2]] 7 mixed (by simp) <| jJ 0 rfl (jY fo30_0 rfl) <| jj 1 rfl (jf 1 (v := .slice a1 r.length ac1) rfl rfl ku rfl) <| jJ 3 rfl (jY fo30_1 rfl) <| jj 4 rfl (jf 1 (v := .slice a2 w.length ac2) rfl rfl ku rfl) <| jK (i := 2) ?_
  refine jP rfl rfl (jI [] Tryz.call127 rfl (C_cloneS a1 ac1 r (by omega)) rfl (fun w hw => hw.seeOut_ hpre.1 nM)) ?_
  rintro _ _ ⟨_, ⟨a_9, c_10, rfl, rfl⟩, rfl⟩
  refine ⟨by simp, ?_⟩
  refine jK (i := 5) ?_
  refine jP rfl rfl (jI [] Tryz.call127 rfl (C_cloneS a2 ac2 w (by omega)) rfl (fun w hw => hw.seeOut_ hpre.2 nM)) ?_
  rintro _ _ ⟨_, ⟨a_13, c_14, rfl, rfl⟩, rfl⟩
  refine ⟨by simp, ?_⟩
  refine jJ 6 rfl (kN (ps := [(0, .slice a_9 r.length c_10), (1, .slice a_13 w.length c_14)]) (cs := [.slice a_9 r.length c_10, .slice a_13 w.length c_14]) rfl (by kernel_rfl)) <| jK (i := 7) ?_
  refine jo rfl (ja 2 (vs := [.slice a_9 r.length c_10, .slice a_13 w.length c_14]) (cs' := [.slice a_9 r.length c_10, .slice a_13 w.length c_14]) rfl rfl rfl rfl kr rfl rfl (lb rfl) rfl) ?_
  rintro _ _ rfl
  refine jB <| jM <| kK (pick_perm [1, 0] (A := [rS a_9 c_10 r, rS a_13 c_14 w]) (F := [bk b_2 30 [.slice a_9 r.length c_10, .slice a_13 w.length c_14], bk b_1 30 [.slice a1 r.length ac1, .slice a2 w.length ac2]]) rfl).symm <| jU (.inl rfl) rfl (jg (je 2 (vs := [.slice a_9 r.length c_10, .slice a_13 w.length c_14]) rfl rfl gG kr rfl rfl) ⟨_, rfl⟩) (tS 2 _) ?_
  exact ⟨_, _, _, _, rfl, rfl⟩

theorem Z_implTxclone (p : TX) (hl : p.t.lim 1000000000) :
    Ct Tryz.prog 29 [.agg #[.int .i64 p.t.id, .int .i64 p.t.age, .int .i64 p.t.proc, .int .i64 p.t.began, .slice p.x.a0 p.t.calls.length p.x.c0, .slice p.x.a1 p.t.ans.length p.x.c1, .slice p.x.a2 p.t.rd.length p.x.c2, .slice p.x.a3 p.t.wr.length p.x.c3, .slice p.x.a4 p.t.marks.length p.x.c4, .int .i64 p.t.state]] [] (fun w => SeesA w (rdsX p)) (fun v A' => ∃ y : TX, y.t = p.t ∧ v = .agg #[.int .i64 y.t.id, .int .i64 y.t.age, .int .i64 y.t.proc, .int .i64 y.t.began, .slice y.x.a0 y.t.calls.length y.x.c0, .slice y.x.a1 y.t.ans.length y.x.c1, .slice y.x.a2 y.t.rd.length y.x.c2, .slice y.x.a3 y.t.wr.length y.x.c3, .slice y.x.a4 y.t.marks.length y.x.c4, .int .i64 y.t.state] ∧ A' = [.rows (rdsX y)]) := by
  obtain ⟨hb0, hb1, hb2, hb3, hb4⟩ := hl
  refine Ct.intro Tryz.func29 rfl Tryz.ntmps29 (lb rfl) fun w0 hpre => ?_
  obtain ⟨hs_1, hs_2, hs_3, hs_4, hs_5⟩ := seesX hpre
  refine jD <| jF ?_
  refine jH rfl (jv (cs := [iv p.t.id, iv p.t.age, iv p.t.proc, iv p.t.began, .slice p.x.a0 p.t.calls.length p.x.c0, .slice p.x.a1 p.t.ans.length p.x.c1, .slice p.x.a2 p.t.rd.length p.x.c2, .slice p.x.a3 p.t.wr.length p.x.c3, .slice p.x.a4 p.t.marks.length p.x.c4, iv p.t.state]) rfl rfl) ?_
  rintro _ _ ⟨b_6, rfl, rfl⟩
  refine jH rfl (jh (z := .agg #[iv 0, iv 0, iv 0, iv 0, .slice none 0 0, .slice none 0 0, .slice none 0 0, .slice none 0 0, .slice none 0 0, iv 0]) (cs := [iv 0, iv 0, iv 0, iv 0, .slice none 0 0, .slice none 0 0, .slice none 0 0, .slice none 0 0, .slice none 0 0, iv 0]) gF rfl) ?_
  rintro _ _ ⟨b_7, rfl, rfl⟩
  refine jE <| jB <| jD <| jq [bk b_7 32 [iv 0, iv 0, iv 0, iv 0, .slice none 0 0, .slice none 0 0, .slice none 0 0, .slice none 0 0, .slice none 0 0, iv 0], bk b_6 32 [iv p.t.id, iv p.t.age, iv p.t.proc, iv p.t.began, .slice p.x.a0 p.t.calls.length p.x.c0, .slice p.x.a1 p.t.ans.length p.x.c1, .slice p.x.a2 p.t.rd.length p.x.c2, .slice p.x.a3 p.t.wr.length p.x.c3, .slice p.x.a4 p.t.marks.length p.x.c4, iv p.t.state]] 12 mixed (by simp) <| jJ 0 rfl (jY fo32_4 rfl) <| jj 1 rfl (jf 1 (v := .slice p.x.a0 p.t.calls.length p.x.c0) rfl rfl gP rfl) <| jJ 3 rfl (jY fo32_5 rfl) <| jj 4 rfl (jf 1 (v := .slice p.x.a1 p.t.ans.length p.x.c1) rfl rfl Tryz.isAgg27 rfl) <| jJ 6 rfl (jY fo32_7 rfl) <| jj 7 rfl (jf 1 (v := .slice p.x.a4 p.t.marks.length p.x.c4) rfl rfl gS rfl) ?_
  refine jJ 9 rfl (jY fo32_6 rfl) <| jj 10 rfl (je 1 (vs := [.slice p.x.a2 p.t.rd.length p.x.c2, .slice p.x.a3 p.t.wr.length p.x.c3]) rfl rfl gG kr rfl rfl) <| jK (i := 2) ?_
  refine jP rfl rfl (jI [] Tryz.call40 rfl (Z_cloneK p.x.a0 p.x.c0 p.t.calls (by omega)) rfl (fun w hw => hw.seeOut_ hs_1 nM)) ?_
  rintro _ _ ⟨_, ⟨a_22, c_23, rfl, rfl⟩, rfl⟩
  refine ⟨by simp, ?_⟩
  refine jJ 12 rfl (jY fo32_4 rfl) <| jK (i := 5) ?_
  refine jP rfl rfl (jI [] Tryz.call60 rfl (Z_cloneA p.x.a1 p.x.c1 p.t.ans (by omega)) rfl (fun w hw => hw.seeOut_ hs_2 nM)) ?_
  rintro _ _ ⟨_, ⟨a_28, c_29, rfl, rfl⟩, rfl⟩
  refine ⟨by simp, ?_⟩
  refine jK (i := 8) ?_
  refine jP rfl rfl (jI [] Tryz.call61 rfl (Z_cloneI p.x.a4 p.x.c4 p.t.marks (by omega)) rfl (fun w hw => hw.seeOut_ hs_5 nM)) ?_
  rintro _ _ ⟨_, ⟨a_32, c_33, rfl, rfl⟩, rfl⟩
  refine ⟨by simp, ?_⟩
  refine jK (i := 11) ?_
  refine jP rfl rfl (jI [] Tryz.call62 rfl (Z_cloneTouch p.x.a2 p.x.a3 p.x.c2 p.x.c3 p.t.rd p.t.wr (by omega) (by omega)) rfl (fun w hw => ⟨hw.seeOut_ hs_3 nM, hw.seeOut_ hs_4 nM⟩)) ?_
  rintro _ _ ⟨_, ⟨a_38, c_39, a_40, c_41, rfl, rfl⟩, rfl⟩
  refine ⟨by simp, ?_⟩
  refine jK (i := 13) ?_
  refine jp rfl (ja 6 (vs := [.slice a_22 p.t.calls.length c_23]) (cs' := [iv p.t.id, iv p.t.age, iv p.t.proc, iv p.t.began, .slice a_22 p.t.calls.length c_23, .slice p.x.a1 p.t.ans.length p.x.c1, .slice p.x.a2 p.t.rd.length p.x.c2, .slice p.x.a3 p.t.wr.length p.x.c3, .slice p.x.a4 p.t.marks.length p.x.c4, iv p.t.state]) rfl rfl rfl rfl Tryz.sizeOf26 rfl rfl (lb rfl) rfl) ?_
  rintro _ _ rfl
  refine jJ 14 rfl (jY fo32_5 rfl) <| jK (i := 15) ?_
  refine jp rfl (ja 6 (vs := [.slice a_28 p.t.ans.length c_29]) (cs' := [iv p.t.id, iv p.t.age, iv p.t.proc, iv p.t.began, .slice a_22 p.t.calls.length c_23, .slice a_28 p.t.ans.length c_29, .slice p.x.a2 p.t.rd.length p.x.c2, .slice p.x.a3 p.t.wr.length p.x.c3, .slice p.x.a4 p.t.marks.length p.x.c4, iv p.t.state]) rfl rfl rfl rfl Tryz.sizeOf27 rfl rfl (lb rfl) rfl) ?_
  rintro _ _ rfl
  refine jJ 16 rfl (jY fo32_7 rfl) <| jK (i := 17) ?_
  refine jp rfl (ja 6 (vs := [.slice a_32 p.t.marks.length c_33]) (cs' := [iv p.t.id, iv p.t.age, iv p.t.proc, iv p.t.began, .slice a_22 p.t.calls.length c_23, .slice a_28 p.t.ans.length c_29, .slice p.x.a2 p.t.rd.length p.x.c2, .slice p.x.a3 p.t.wr.length p.x.c3, .slice a_32 p.t.marks.length c_33, iv p.t.state]) rfl rfl rfl rfl Tryz.sizeOf24 rfl rfl (lb rfl) rfl) ?_
  rintro _ _ rfl
  refine jJ 18 rfl (jY fo32_6 rfl) <| jK (i := 19) ?_
  refine jo rfl (ja 6 (vs := [.slice a_38 p.t.rd.length c_39, .slice a_40 p.t.wr.length c_41]) (cs' := [iv p.t.id, iv p.t.age, iv p.t.proc, iv p.t.began, .slice a_22 p.t.calls.length c_23, .slice a_28 p.t.ans.length c_29, .slice a_38 p.t.rd.length c_39, .slice a_40 p.t.wr.length c_41, .slice a_32 p.t.marks.length c_33, iv p.t.state]) rfl rfl rfl rfl kr rfl rfl (lb rfl) rfl) ?_
  rintro _ _ rfl
  refine jB <| jD <| jF <| jT (je 6 (vs := [iv p.t.id, iv p.t.age, iv p.t.proc, iv p.t.began, .slice a_22 p.t.calls.length c_23, .slice a_28 p.t.ans.length c_29, .slice a_38 p.t.rd.length c_39, .slice a_40 p.t.wr.length c_41, .slice a_32 p.t.marks.length c_33, iv p.t.state]) rfl rfl kw kq rfl rfl) ?_
  refine jH rfl (ja 5 (vs := [iv p.t.id, iv p.t.age, iv p.t.proc, iv p.t.began, .slice a_22 p.t.calls.length c_23, .slice a_28 p.t.ans.length c_29, .slice a_38 p.t.rd.length c_39, .slice a_40 p.t.wr.length c_41, .slice a_32 p.t.marks.length c_33, iv p.t.state]) (cs' := [iv p.t.id, iv p.t.age, iv p.t.proc, iv p.t.began, .slice a_22 p.t.calls.length c_23, .slice a_28 p.t.ans.length c_29, .slice a_38 p.t.rd.length c_39, .slice a_40 p.t.wr.length c_41, .slice a_32 p.t.marks.length c_33, iv p.t.state]) rfl rfl rfl rfl kq rfl rfl (lb rfl) rfl) ?_
  rintro _ _ rfl
  refine jE <| jB <| jM <| JQ.ghost (L' := [Res.rows (rdsX (⟨⟨a_22, c_23, a_28, c_29, a_38, c_39, a_40, c_41, a_32, c_33⟩, p.t⟩ : TX)), bk b_7 32 [iv p.t.id, iv p.t.age, iv p.t.proc, iv p.t.began, .slice a_22 p.t.calls.length c_23, .slice a_28 p.t.ans.length c_29, .slice a_38 p.t.rd.length c_39, .slice a_40 p.t.wr.length c_41, .slice a_32 p.t.marks.length c_33, iv p.t.state], bk b_6 32 [iv p.t.id, iv p.t.age, iv p.t.proc, iv p.t.began, .slice a_22 p.t.calls.length c_23, .slice a_28 p.t.ans.length c_29, .slice a_38 p.t.rd.length c_39, .slice a_40 p.t.wr.length c_41, .slice a_32 p.t.marks.length c_33, iv p.t.state]]) (fun w hw => hw.closeR (A := rdsX (⟨⟨a_22, c_23, a_28, c_29, a_38, c_39, a_40, c_41, a_32, c_33⟩, p.t⟩ : TX)) [4, 3, 0, 0, 0] rfl) <| jU (.inl rfl) rfl (jg (je 1 (vs := [iv p.t.id, iv p.t.age, iv p.t.proc, iv p.t.began, .slice a_22 p.t.calls.length c_23, .slice a_28 p.t.ans.length c_29, .slice a_38 p.t.rd.length c_39, .slice a_40 p.t.wr.length c_41, .slice a_32 p.t.marks.length c_33, iv p.t.state]) rfl rfl kw kq rfl rfl) ⟨_, rfl⟩) (tS 1 _) ?_
  exact ⟨(⟨⟨a_22, c_23, a_28, c_29, a_38, c_39, a_40, c_41, a_32, c_33⟩, p.t⟩ : TX), rfl, rfl, rfl⟩

end Go.Proofs.YtghfijncihbojaaGreatDoor

set_option linter.unusedSimpArgs false
set_option linter.unusedVariables false
set_option linter.unnecessarySimpa false
namespace Go.Proofs.YtghfijncihbojaaGreatDoor
open Go Go.RowKit
/-- A transaction's calls and process in range. -/
structure okT (t : TD) : Prop where
  cs : ∀ c ∈ t.calls, c.ok 1048576
  n : t.calls.length ≤ 1000000
  pr : -9223372036854775808 ≤ t.proc ∧ t.proc ≤ 9223372036854775807
theorem okSteps_of {t : TD} (h : okT t) : okSteps (stepsOf t) := fun j hj => by
  have hm := getD_mem (d := p0_) hj
  unfold stepsOf at hm ⊢
  obtain ⟨c, hc, he⟩ := List.mem_map.1 hm
  rw [← he]
  exact ⟨h.cs c hc, h.pr.1, h.pr.2⟩
theorem askV_off {v : List Cell} {t : TD} {c : CL} (h : ¬ t.state = 1) : TD.askV v t c = (t, ⟨2, 0, []⟩) := by rw [TD.askV, if_pos h]
theorem askV_full {v : List Cell} {t : TD} {c : CL} (h : t.state = 1) (h2 : 12 ≤ t.calls.length) : TD.askV v t c = (t, ⟨3, 0, []⟩) := by rw [TD.askV, if_neg (fun hn => hn h), if_pos h2]
theorem askV_on {v : List Cell} {t : TD} {c : CL} (h : t.state = 1) (h2 : ¬ 12 ≤ t.calls.length) : TD.askV v t c = ({ t with calls := t.calls ++ [c], ans := t.ans ++ [((⟨v, [], []⟩ : MS).doCall t.proc c).2], rd := ((⟨v, [], []⟩ : MS).doCall t.proc c).1.r.foldl addSpan t.rd, wr := ((⟨v, [], []⟩ : MS).doCall t.proc c).1.w.foldl addSpan t.wr }, ((⟨v, [], []⟩ : MS).doCall t.proc c).2) := by rw [TD.askV, if_neg (fun hn => hn h), if_neg h2]
theorem since_le {t : TD} {q : Int} {n : Nat} (h : t.lim n) : (t.since q).length ≤ n := by
  have h0 := h.l0
  unfold TD.since
  split
  · rw [List.length_drop]; omega
  · exact Nat.zero_le _
end Go.Proofs.YtghfijncihbojaaGreatDoor

set_option linter.unusedSimpArgs false
set_option linter.unusedVariables false
set_option linter.unnecessarySimpa false
namespace Go.Proofs.YtghfijncihbojaaGreatDoor
open Go Go.RowKit
def within (lo n hi : Int) : Bool := decide (lo ≤ n) && decide (n ≤ hi)
end Go.Proofs.YtghfijncihbojaaGreatDoor

set_option linter.unusedSimpArgs false
set_option linter.unusedVariables false
set_option linter.unnecessarySimpa false
namespace Go.Proofs.YtghfijncihbojaaGreatDoor
open Go Go.RowKit
section
variable {P : Program} {n : Nat} {e : Env} {d : Option Tmp} {ty : TypeId} {pos : String} {aft : Array Edge} {gd : Option (Nat × Bool)}
theorem PO.sliceVmD {x hi mx : Operand} {a : Option Addr} {m c j z k : Nat} {q q' : IntKind} {t el : TypeId} (ht : P.underlying t = some (.slice el)) (hs : ∀ w, (sizeOf el).run P w = .ok k w) (ha : a.bind (·.spot) = none)
    (hx : rd n e x = .slice a m c) (hh : rd n e hi = .int q j) (hm : rd n e mx = .int q' z) (h1 : j ≤ z) (h2 : z ≤ c) : PO P n e ⟨d, .slice t x none (some hi) (some mx), ty, pos, aft, gd⟩ (.slice a j z) := fun w => by
  have hsub := sub_add (k := k) (c := z) (lo := 0) ha
  rw [sub_zero ha] at hsub
  have hsub' : (if z = 0 then a else a.map (·.add 0)) = a := by rw [Nat.zero_mul] at hsub; exact hsub
  simp [execOp, run_sliceAt_slice _ _ _ _ _ _ (elem_of ht), Instr.slice, run_underlying ht, hx, hh, hm, Instr.sliceBounds, Instr.sliceBound, asIntOf, hs, h1, h2, hsub']
theorem PO.min2D {x y : Operand} {a b c : Int} {ts : Array TypeId} (hx : rd n e x = .int .i64 a) (hy : rd n e y = .int .i64 b) (hc : min a b = c) : PO P n e ⟨d, .call ⟨.builtin .min, #[x, y], ts⟩, ty, pos, aft, gd⟩ (.int .i64 c) := fun w => by
  subst hc
  simp [execOp, resolve, invoke, builtin, hx, hy, Lib.run_min_ints]
theorem PO.max2D {x y : Operand} {a b c : Int} {ts : Array TypeId} (hx : rd n e x = .int .i64 a) (hy : rd n e y = .int .i64 b) (hc : max a b = c) : PO P n e ⟨d, .call ⟨.builtin .max, #[x, y], ts⟩, ty, pos, aft, gd⟩ (.int .i64 c) := fun w => by
  subst hc
  simp [execOp, resolve, invoke, builtin, hx, hy, Lib.run_max_ints]
theorem PO.castSl {o : Oper} {a : Option Addr} {m k c : Nat} (h : PO P n e o (.slice a m c)) (hm : m = k) : PO P n e o (.slice a k c) := hm ▸ h
theorem castSees {w : World} {a : Option Addr} {m q c k : Nat} {vs : List Value} (h : Sees w (.slice a m c) k m vs) (hm : m = q) : Sees w (.slice a q c) k q vs := hm ▸ h
theorem PO.castVD {o : Oper} {v v' : Value} (h : PO P n e o v) (hv : v = v') : PO P n e o v' := hv ▸ h
end
end Go.Proofs.YtghfijncihbojaaGreatDoor

set_option linter.unusedSimpArgs false
set_option linter.unusedVariables false
set_option linter.unnecessarySimpa false
namespace Go.Proofs.YtghfijncihbojaaGreatDoor
open Go Go.RowKit
attribute [local irreducible] JL JC JQ JO LO PO JA JX Ct

theorem Y_within (n lo hi : Int) :
    Ct Tryz.prog 35 [.int .i64 n, .int .i64 lo, .int .i64 hi] [] (fun _ => True) (fun v A' => v = .bool (within lo n hi) ∧ A' = []) := by
  refine Ct.intro Tryz.func35 rfl Tryz.ntmps35 (lb rfl) fun w0 hpre => ?_
  refine jD <| jF <| jA (jG (v := .bool false) rfl) <| jE <| jB <| jD <| jF <| jA (jC (v := iv n) rfl) <| jA (jC (v := iv lo) rfl) <| jA (kT rfl rfl) ?_
  refine jA (jC (v := .bool (decide (lo ≤ n))) rfl) ?_
  by_cases h_1 : lo ≤ n
  · refine jX rfl rfl rfl (cB (dT h_1)) (jZ (jd (jC (v := iv n) rfl))) ?_
    rintro _ _ ⟨rfl, rfl⟩
    refine jX rfl rfl rfl (cB (dT h_1)) (jZ (jd (jC (v := iv hi) rfl))) ?_
    rintro _ _ ⟨rfl, rfl⟩
    refine jX rfl rfl rfl (cB (dT h_1)) (jZ (jd (PO.leq rfl rfl))) ?_
    rintro _ _ ⟨rfl, rfl⟩
    refine jA (jw (v := .bool (decide (n ≤ hi))) (cB (dT h_1)) rfl) <| jA (jG (v := .bool (decide (n ≤ hi))) rfl) <| jE <| jB <| jM <| jU (.inl rfl) rfl (jN (v := .bool (decide (n ≤ hi))) rfl) (List.nil_sublist _) ?_
    refine ⟨?_, rfl⟩
    unfold within
    simp_all <;> omega
  refine jO (b := false) rfl rfl rfl (cB (dF h_1)) <| jO (b := false) rfl rfl rfl (cB (dF h_1)) <| jO (b := false) rfl rfl rfl (cB (dF h_1)) <| jA (js (v := .bool false) (cB (dF h_1)) rfl) <| jA (jG (v := .bool false) rfl) <| jE <| jB <| jM <| jU (.inl rfl) rfl (jN (v := .bool false) rfl) (List.nil_sublist _) ?_
  refine ⟨?_, rfl⟩
  unfold within
  simp_all <;> omega

theorem Y_implbro (x : Int) (y : Nat) :
    Ct Tryz.prog 37 [.int .i64 x, .int .i64 0, .int .i64 ((y : Nat) : Int)] [] (fun _ => True) (fun v A' => v = .int .i64 ((bro x y : Nat) : Int) ∧ A' = []) := by
  refine Ct.intro Tryz.func37 rfl Tryz.ntmps37 (lb rfl) fun w0 hpre => ?_
  refine jD <| jF <| jA (jG (v := iv 0) rfl) <| jE <| jB <| jD <| jF <| jA (jC (v := iv 0) rfl) <| jA (jC (v := iv x) rfl) <| jA (jC (v := nv y) rfl) ?_
  refine jA (PO.min2D (c := min x ((y : Nat) : Int)) rfl rfl rfl) <| jA (PO.max2D (c := max 0 (min x ((y : Nat) : Int))) rfl rfl rfl) <| jA (jG (v := iv (max 0 (min x ((y : Nat) : Int)))) rfl) <| jE <| jB <| jM <| jU (.inl rfl) rfl (jN (v := iv (max 0 (min x ((y : Nat) : Int)))) rfl) (List.nil_sublist _) ?_
  refine ⟨?_, rfl⟩
  exact congrArg (Value.int .i64) (by unfold bro; first | omega | (simp only [Int.min_def, Int.max_def]; omega) | grind)

end Go.Proofs.YtghfijncihbojaaGreatDoor

set_option linter.unusedSimpArgs false
set_option linter.unusedVariables false
set_option linter.unnecessarySimpa false
namespace Go.Proofs.YtghfijncihbojaaGreatDoor
open Go Go.RowKit
theorem within_true {lo n hi : Int} (h : within lo n hi = true) : lo ≤ n ∧ n ≤ hi := by simpa only [within, Bool.and_eq_true, decide_eq_true_eq] using h
theorem within_false {lo n hi : Int} (h : within lo n hi = false) : ¬ (lo ≤ n ∧ n ≤ hi) := fun hh => by rw [within, decide_eq_true hh.1, decide_eq_true hh.2] at h; cases h
theorem len_front {α : Type} {l : List α} {n : Nat} (h : n ≤ l.length) : (l.take n).length = n := by rw [List.length_take]; omega
theorem front_flat {α : Type} {enc : α → List Value} {k : Nat} (hk : ∀ x, (enc x).length = k) {l : List α} {n : Nat} (h : n ≤ l.length) : (l.flatMap enc).take ((l.take n).length * k) = (l.take n).flatMap enc := by rw [len_front h, flat_takeN hk]
theorem front_map {α : Type} {f : α → Value} {l : List α} {n : Nat} (h : n ≤ l.length) : (l.map f).take ((l.take n).length * 1) = (l.take n).map f := by rw [len_front h, Nat.mul_one, List.map_take]
def TD.drop (t : TD) : TD × Bool := ({ t with state := 3 }, true)
theorem TD.back_lim {t : TD} {m : Nat} {q : Int} (h : t.lim m) : (t.back q).1.lim m := by
  unfold TD.back
  split
  · refine ⟨?_, ?_, h.l2, h.l3, ?_⟩ <;> simp only [List.length_take]
    · exact Nat.le_trans (Nat.min_le_right ..) h.l0
    · exact Nat.le_trans (Nat.min_le_right ..) h.l1
    · exact Nat.le_trans (Nat.min_le_right ..) h.l4
  · exact h
end Go.Proofs.YtghfijncihbojaaGreatDoor
