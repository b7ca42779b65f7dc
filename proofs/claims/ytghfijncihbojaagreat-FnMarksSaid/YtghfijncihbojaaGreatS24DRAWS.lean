/-
  Texts of the walk, joined: what each one proves stands at its theorems.
-/
import Derived.Test.YtghfijncihbojaaGreatS17NAMES
import Derived.Test.YtghfijncihbojaaGreatDatL
import Derived.Test.YtghfijncihbojaaGreatDatC
import Derived.Test.YtghfijncihbojaaGreatDatD
import Derived.Laws.StructEq
import Derived.Laws.Small
set_option linter.unusedSimpArgs false
set_option linter.unusedVariables false
set_option linter.unnecessarySimpa false
namespace Go.Proofs.YtghfijncihbojaaGreat
open Go Go.RowKit
attribute [local irreducible] JL JC JQ JO LO PO JA JX Ct

theorem N_scallOk (c : CL) (hc : c.ok 1048576) :
    Ct Tryz.prog 150 [.agg #[.int .i64 c.kind, str c.name, str c.to_, .int .i64 c.a, .int .i64 c.b, str c.text]] ([]) (fun _ => True) (fun v A' => ∃ r0, callOk c = r0 ∧ v = .bool r0 ∧ A' = []) := by
  refine Ct.intro Tryz.func150 rfl Tryz.ntmps150 (lb rfl) fun w0 hpre => ?_
  obtain ⟨hc1, hc2, hc3, hc4, hc5, hc6⟩ := id hc
  refine jC <| jE ?_
  refine jH rfl (jy (cs := [iv c.kind, str c.name, str c.to_, iv c.a, iv c.b, str c.text]) rfl rfl) ?_
  rintro _ _ ⟨b_1, rfl, rfl⟩
  refine jA (jG (v := .bool false) rfl) <| jD <| jB <| jC <| jE <| jA (jJ fo51_0 rfl) <| jK (jV 0 (v := iv c.kind) rfl rfl kp rfl) ?_
  refine jH rfl (jM [] Tryz.call40 rfl (C_l01In c.kind 1 22) rfl (fun _ _ => trivial)) ?_
  rintro _ _ ⟨_, ⟨rfl, rfl⟩, rfl⟩
  refine jA (jF (v := .bool (decide (1 ≤ c.kind) && decide (c.kind ≤ 22))) rfl) ?_
  rcases Bool.eq_false_or_eq_true (decide (1 ≤ c.kind) && decide (c.kind ≤ 22)) with h_2 | h_2
  · have h_2d := h_2
    simp only [Bool.and_eq_true, Bool.and_eq_false_iff, decide_eq_true_eq, decide_eq_false_iff_not] at h_2d
    refine jZ rfl rfl rfl (cB h_2) (ja (jf (jJ fo51_1 rfl))) ?_
    rintro _ _ ⟨rfl, rfl⟩
    refine jZ rfl rfl rfl (cB h_2) (ja (jV 0 (v := str c.name) rfl rfl kv rfl)) ?_
    rintro _ _ ⟨rfl, rfl⟩
    refine jZ rfl rfl rfl (cB h_2) (ja (jf (kV ky rfl))) ?_
    rintro _ _ ⟨rfl, rfl⟩
    refine jZ rfl rfl rfl (cB h_2) (ja (jf (PO.leq rfl rfl))) ?_
    rintro _ _ ⟨rfl, rfl⟩
    refine jA (kG (v := .bool (decide ((c.name.length : Int) ≤ 20))) (cB h_2) rfl) <| jA (jF (v := .bool (decide ((c.name.length : Int) ≤ 20))) rfl) ?_
    by_cases h_3 : (c.name.length : Int) ≤ 20
    · refine jZ rfl rfl rfl (cB (dT h_3)) (ja (jf (jJ fo51_2 rfl))) ?_
      rintro _ _ ⟨rfl, rfl⟩
      refine jZ rfl rfl rfl (cB (dT h_3)) (ja (jV 0 (v := str c.to_) rfl rfl kv rfl)) ?_
      rintro _ _ ⟨rfl, rfl⟩
      refine jZ rfl rfl rfl (cB (dT h_3)) (ja (jf (kV ky rfl))) ?_
      rintro _ _ ⟨rfl, rfl⟩
      refine jZ rfl rfl rfl (cB (dT h_3)) (ja (jf (PO.leq rfl rfl))) ?_
      rintro _ _ ⟨rfl, rfl⟩
      refine jA (kG (v := .bool (decide ((c.to_.length : Int) ≤ 20))) (cB (dT h_3)) rfl) <| jA (jF (v := .bool (decide ((c.to_.length : Int) ≤ 20))) rfl) ?_
      by_cases h_4 : (c.to_.length : Int) ≤ 20
      · refine jZ rfl rfl rfl (cB (dT h_4)) (ja (jf (jJ fo51_5 rfl))) ?_
        rintro _ _ ⟨rfl, rfl⟩
        refine jZ rfl rfl rfl (cB (dT h_4)) (ja (jV 0 (v := str c.text) rfl rfl kv rfl)) ?_
        rintro _ _ ⟨rfl, rfl⟩
        refine jZ rfl rfl rfl (cB (dT h_4)) (ja (jf (kV ky rfl))) ?_
        rintro _ _ ⟨rfl, rfl⟩
        refine jZ rfl rfl rfl (cB (dT h_4)) (ja (jf (PO.leq rfl rfl))) ?_
        rintro _ _ ⟨rfl, rfl⟩
        refine jA (kG (v := .bool (decide ((c.text.length : Int) ≤ 64))) (cB (dT h_4)) rfl) <| jA (jG (v := .bool (decide ((c.text.length : Int) ≤ 64))) rfl) <| jD <| jB <| jL <| jR (.inl rfl) rfl (jN (v := .bool (decide ((c.text.length : Int) ≤ 64))) rfl) (List.nil_sublist _) ?_
        exact ⟨(decide ((c.text.length : Int) ≤ 64)), (decide_eq_decide.2 (by omega)), rfl, rfl⟩
      refine jS (b := false) rfl rfl rfl (cB (dF h_4)) <| jS (b := false) rfl rfl rfl (cB (dF h_4)) <| jS (b := false) rfl rfl rfl (cB (dF h_4)) <| jS (b := false) rfl rfl rfl (cB (dF h_4)) <| jA (jv (v := .bool false) (cB (dF h_4)) rfl) <| jA (jG (v := .bool false) rfl) <| jD <| jB <| jL <| jR (.inl rfl) rfl (jN (v := .bool false) rfl) (List.nil_sublist _) ?_
      exact ⟨false, (dF (by omega)), rfl, rfl⟩
    refine jS (b := false) rfl rfl rfl (cB (dF h_3)) <| jS (b := false) rfl rfl rfl (cB (dF h_3)) <| jS (b := false) rfl rfl rfl (cB (dF h_3)) <| jS (b := false) rfl rfl rfl (cB (dF h_3)) <| jA (jv (v := .bool false) (cB (dF h_3)) rfl) <| jA (jF (v := .bool false) rfl) <| jS (b := false) rfl rfl rfl (cB rfl) <| jS (b := false) rfl rfl rfl (cB rfl) <| jS (b := false) rfl rfl rfl (cB rfl) <| jS (b := false) rfl rfl rfl (cB rfl) ?_
    refine jA (jv (v := .bool false) (cB rfl) rfl) <| jA (jG (v := .bool false) rfl) <| jD <| jB <| jL <| jR (.inl rfl) rfl (jN (v := .bool false) rfl) (List.nil_sublist _) ?_
    exact ⟨false, (dF (by omega)), rfl, rfl⟩
  have h_2d := h_2
  simp only [Bool.and_eq_true, Bool.and_eq_false_iff, decide_eq_true_eq, decide_eq_false_iff_not] at h_2d
  refine jS (b := false) rfl rfl rfl (cB h_2) <| jS (b := false) rfl rfl rfl (cB h_2) <| jS (b := false) rfl rfl rfl (cB h_2) <| jS (b := false) rfl rfl rfl (cB h_2) <| jA (jv (v := .bool false) (cB h_2) rfl) <| jA (jF (v := .bool false) rfl) <| jS (b := false) rfl rfl rfl (cB rfl) <| jS (b := false) rfl rfl rfl (cB rfl) <| jS (b := false) rfl rfl rfl (cB rfl) <| jS (b := false) rfl rfl rfl (cB rfl) ?_
  refine jA (jv (v := .bool false) (cB rfl) rfl) <| jA (jF (v := .bool false) rfl) <| jS (b := false) rfl rfl rfl (cB rfl) <| jS (b := false) rfl rfl rfl (cB rfl) <| jS (b := false) rfl rfl rfl (cB rfl) <| jS (b := false) rfl rfl rfl (cB rfl) <| jA (jv (v := .bool false) (cB rfl) rfl) <| jA (jG (v := .bool false) rfl) <| jD <| jB ?_
  refine jL <| jR (.inl rfl) rfl (jN (v := .bool false) rfl) (List.nil_sublist _) ?_
  exact ⟨false, (dF (by omega)), rfl, rfl⟩

theorem M_doNames (x : MA) (m : MS) {S T : Nat} (hk : m.ok S T) (hS : S ≤ 22000000) (hT : T ≤ 22000000)  :
    Ct Tryz.prog 155 [mv x m] (mr x m) (fun _ => True) (fun v A' => ∃ x' m' r0, MS.doNames m = (m', r0) ∧ m'.ok (S) (T + 1) ∧ ((0 ≤ r0.code ∧ r0.code ≤ 9) ∧ (-1 ≤ r0.n ∧ r0.n ≤ 1000000000) ∧ r0.text.length ≤ 30000000000000) ∧ v = .tuple #[mv x' m', .agg #[.int .i64 r0.code, .int .i64 r0.n, str r0.text]] ∧ A' = mr x' m') := by
  refine Ct.intro Tryz.func155 rfl Tryz.ntmps155 (lb rfl) fun w0 hpre => ?_
  refine jC <| jE ?_
  refine jH rfl (jy (cs := (mc x m)) rfl rfl) ?_
  rintro _ _ ⟨b_1, rfl, rfl⟩
  refine jH rfl (jn (z := zM) (cs := zC) gI rfl) ?_
  rintro _ _ ⟨b_2, rfl, rfl⟩
  refine jH rfl (jn (z := .agg #[iv 0, iv 0, str []]) (cs := [iv 0, iv 0, str []]) gG rfl) ?_
  rintro _ _ ⟨b_3, rfl, rfl⟩
  refine jD <| jB <| jC <| jE <| jK (jc 2 x m rfl rfl) ?_
  refine jH rfl (jM [3, 3, 3] Tryz.call210 rfl (M_names x m hk (by omega) (by omega)) rfl (fun _ _ => trivial)) ?_
  rintro _ _ ⟨_, ⟨x_6, m_7, l_8a, l_8c, l_8, e_4, k_5, f_9, rfl, rfl⟩, rfl⟩
  refine jA (jF (v := .tuple #[mv x_6 m_7, .slice l_8a l_8.length l_8c]) rfl) <| jA (jb (v := mv x_6 m_7) rfl rfl) <| jA (jb (v := .slice l_8a l_8.length l_8c) rfl rfl) ?_
  refine jH rfl (jm 6 x_6 m_7 rfl rfl rfl rfl) ?_
  rintro _ _ rfl
  refine jA (jG (v := .slice l_8a l_8.length l_8c) rfl) <| jD <| jB <| jC <| jE <| jA (kY (ps := []) (cs := [iv 0, iv 0, str []]) rfl (by kernel_rfl)) ?_
  refine jH rfl (jn (z := .agg #[iv 0, iv 0, str []]) (cs := [iv 0, iv 0, str []]) gG rfl) ?_
  rintro _ _ ⟨b_10, rfl, rfl⟩
  refine jH rfl (jT 0 (vs := [iv 0, iv 0, str []]) (cs' := [iv 0, iv 0, str []]) rfl rfl rfl rfl kr rfl rfl (lb rfl) rfl) ?_
  rintro _ _ rfl
  refine jD <| jB <| jC <| jC <| jE <| jA (jG (v := iv 0) rfl) <| jD <| jB <| jg ?_
  have hno := names_ok hk e_4
  refine kC (fun k_ e_ L_ => ∃ j_ : Nat, ∃ t_ : Str, (j_ ≤ l_8.length) ∧ (t_.length ≤ j_ * 1048577) ∧ (joinL (l_8.drop j_) t_ = joinL l_8 []) ∧ e_ 1 = .pointer (some ⟨b_1, 0, none⟩) ∧ e_ 2 = .pointer (some ⟨b_2, 0, none⟩) ∧ e_ 3 = .pointer (some ⟨b_3, 0, none⟩) ∧ e_ 4 = .slice l_8a l_8.length l_8c ∧ e_ 5 = .pointer (some ⟨b_10, 0, none⟩) ∧ e_ 6 = nv j_ ∧ L_ = [bk b_10 45 [iv 0, iv 0, str t_], rC x_6.a0 x_6.c0 m_7.s, rS x_6.a1 x_6.c1 m_7.r, rS x_6.a2 x_6.c2 m_7.w, rS l_8a l_8c l_8, bk b_3 45 [iv 0, iv 0, str []], bk b_2 99 zC, mb b_1 x_6 m_7] ∧ k_ = l_8.length + 1 - j_) _ ⟨0, [], (by omega), (by simp), rfl, rfl, rfl, rfl, rfl, rfl, rfl, rfl, rfl⟩ ?_
  rintro _ e_11 _ ⟨j_, t_, hj, ht, hR, he_12, he_13, he_14, he_15, he_16, he_17, rfl, rfl⟩
  refine jC <| jC <| jE <| jA (jF (v := nv j_) he_17) <| jA (jF (v := .slice l_8a l_8.length l_8c) he_15) <| jA (jp ks rfl) <| jA (jo rfl rfl) <| jD <| jB ?_
  by_cases h_18 : ((j_ : Nat) : Int) < ((l_8.length : Nat) : Int)
  · have hlt : j_ < l_8.length := by omega
    have hbj := hno.2 j_ hlt
    refine jO (cB (dT h_18)) <| jU <| jB <| jC <| jg <| jr [bk b_10 45 [iv 0, iv 0, str t_]] 8 mixed (by simp) <| jI 0 rfl (jJ fo45_2 he_16) <| jh 1 rfl (jV 0 (v := str t_) rfl rfl kv rfl) <| jI 2 rfl (jF (v := .slice l_8a l_8.length l_8c) he_15) <| jI 3 rfl (jF (v := nv j_) he_17) ?_
    refine JA.facts fun hst => ?_
    obtain ⟨hr_19, hr_19b, -⟩ := row_some 4 rfl (by omega) hst
    refine jI 4 rfl (jl (i := j_) ks kw hr_19 hr_19b rfl rfl (by omega)) <| jQ (i := 5) ?_
    refine jY rfl rfl (ja (kl 4 (v := str (l_8.getD j_ [])) rfl rfl kv (atS (by omega)))) ?_
    rintro _ _ ⟨rfl, rfl⟩
    refine ⟨(by simp), ?_⟩
    refine jI 6 rfl (ki rfl rfl (by (try simp only [List.length_append, List.length_cons, List.length_nil, List.length_drop, List.length_take]); omega)) <| jI 7 rfl (ki rfl rfl (by (try simp only [List.length_append, List.length_cons, List.length_nil, List.length_drop, List.length_take]); omega)) <| jI 8 rfl (jJ fo45_2 he_16) <| jQ (i := 9) ?_
    refine jx rfl (jT 0 (vs := [str ((t_ ++ (l_8.getD j_ [])) ++ [32])]) (cs' := [iv 0, iv 0, str ((t_ ++ (l_8.getD j_ [])) ++ [32])]) rfl rfl rfl rfl kw rfl rfl (lb rfl) rfl) ?_
    rintro _ _ rfl
    refine jk <| jB <| jE <| jA (jF (v := nv j_) he_17) <| jA (ji (c := ((j_ + 1 : Nat) : Int)) rfl rfl (wr (by omega))) <| jA (jG (v := iv ((j_ + 1 : Nat) : Int)) rfl) <| jD <| kH [0, 0, 0, 0, 0, 0, 0, 0] (A := [bk b_10 45 [iv 0, iv 0, str ((t_ ++ (l_8.getD j_ [])) ++ [32])], rC x_6.a0 x_6.c0 m_7.s, rS x_6.a1 x_6.c1 m_7.r, rS x_6.a2 x_6.c2 m_7.w, rS l_8a l_8c l_8, bk b_3 45 [iv 0, iv 0, str []], bk b_2 99 zC, mb b_1 x_6 m_7]) rfl ?_
    refine ju (l_8.length + 1 - (j_ + 1)) (by omega) ⟨(j_ + 1), ((t_ ++ (l_8.getD j_ [])) ++ [32]), (by omega), (by simp only [LE]; omega), (by rw [drop_at (getD_some (d := []) hlt)] at hR; simp only [joinL] at hR; first | exact hR | (simp only [List.append_assoc] at hR ⊢; exact hR)), he_12, he_13, he_14, he_15, he_16, rfl, rfl, rfl⟩
  rw [List.drop_of_length_le (by omega)] at hR
  simp only [joinL] at hR
  have hRE := hR.symm
  refine jP (cB (dF h_18)) <| jz <| jj <| jj <| kA <| jB <| jC <| jr [bk b_10 45 [iv 0, iv 0, str t_], mb b_1 x_6 m_7] 3 mixed (by simp) <| jh 0 rfl (jc 1 x_6 m_7 rfl he_12) <| jh 1 rfl (jX 0 (vs := [iv 0, iv 0, str t_]) rfl he_16 gA kr rfl rfl) ?_
  refine jQ (i := 2) ?_
  refine jY rfl rfl (jm 6 x_6 m_7 rfl he_13 rfl rfl) ?_
  rintro _ _ rfl
  refine ⟨(by simp), ?_⟩
  refine jQ (i := 3) ?_
  refine jx rfl (jT 5 (vs := [iv 0, iv 0, str t_]) (cs' := [iv 0, iv 0, str t_]) rfl he_14 rfl rfl kr rfl rfl (lb rfl) rfl) ?_
  rintro _ _ rfl
  refine jB <| jL <| kR (pick_perm [1, 1, 1] (A := [rC x_6.a0 x_6.c0 m_7.s, rS x_6.a1 x_6.c1 m_7.r, rS x_6.a2 x_6.c2 m_7.w]) (F := [bk b_10 45 [iv 0, iv 0, str t_], rS l_8a l_8c l_8, bk b_3 45 [iv 0, iv 0, str t_], mb b_2 x_6 m_7, mb b_1 x_6 m_7]) rfl).symm <| kB (.inl rfl) rfl (je (jc 6 x_6 m_7 rfl he_13) ⟨_, he_13⟩) (je (jX 5 (vs := [iv 0, iv 0, str t_]) rfl he_14 gA kr rfl rfl) ⟨_, he_14⟩) (tS 3 _) ?_
  exact ⟨x_6, m_7, (⟨0, 0, t_⟩ : AN), (by simp only [MS.doNames, e_4, h_18, hRE, SB]; (repeat (first | rw [if_pos (by omega)] | rw [if_neg (by omega)])); all_goals (first | rfl | simp only [SB, e_4, h_18, hRE])), (k_5.mono (by omega) (by omega)), (by (try dsimp only); (try simp only [List.length_nil]); omega), rfl, rfl⟩

theorem M_doProc (x : MA) (m : MS) {S T : Nat} (hk : m.ok S T) (hS : S ≤ 22000000) (hT : T ≤ 22000000) (proc : Int) (c : CL) (hproc : -9223372036854775808 ≤ proc ∧ proc ≤ 9223372036854775807) (hc : c.ok 1048576) :
    Ct Tryz.prog 167 [mv x m, .int .i64 proc, .agg #[.int .i64 c.kind, str c.name, str c.to_, .int .i64 c.a, .int .i64 c.b, str c.text]] (mr x m) (fun _ => True) (fun v A' => ∃ x' m' r0, MS.doProc m proc c = (m', r0) ∧ m'.ok (2 * S + 6) (T + 2 * S + 11) ∧ ((0 ≤ r0.code ∧ r0.code ≤ 9) ∧ (-1 ≤ r0.n ∧ r0.n ≤ 1000000000) ∧ r0.text.length ≤ 30000000000000) ∧ v = .tuple #[mv x' m', .agg #[.int .i64 r0.code, .int .i64 r0.n, str r0.text]] ∧ A' = mr x' m') := by
  refine Ct.intro Tryz.func167 rfl Tryz.ntmps167 (lb rfl) fun w0 hpre => ?_
  obtain ⟨hc1, hc2, hc3, hc4, hc5, hc6⟩ := id hc
  refine jC <| jE ?_
  refine jH rfl (jy (cs := (mc x m)) rfl rfl) ?_
  rintro _ _ ⟨b_1, rfl, rfl⟩
  refine jH rfl (jy (cs := [iv c.kind, str c.name, str c.to_, iv c.a, iv c.b, str c.text]) rfl rfl) ?_
  rintro _ _ ⟨b_2, rfl, rfl⟩
  refine jH rfl (jn (z := zM) (cs := zC) gI rfl) ?_
  rintro _ _ ⟨b_3, rfl, rfl⟩
  refine jH rfl (jn (z := .agg #[iv 0, iv 0, str []]) (cs := [iv 0, iv 0, str []]) gG rfl) ?_
  rintro _ _ ⟨b_4, rfl, rfl⟩
  refine jD <| jB <| jC <| jE <| jA (kY (ps := []) (cs := [iv 0, iv 0, str []]) rfl (by kernel_rfl)) ?_
  refine jH rfl (jn (z := .agg #[iv 0, iv 0, str []]) (cs := [iv 0, iv 0, str []]) gG rfl) ?_
  rintro _ _ ⟨b_5, rfl, rfl⟩
  refine jH rfl (jT 0 (vs := [iv 0, iv 0, str []]) (cs' := [iv 0, iv 0, str []]) rfl rfl rfl rfl kr rfl rfl (lb rfl) rfl) ?_
  rintro _ _ rfl
  refine jD <| jB <| jC <| jC <| jE <| jA (jJ fo51_0 rfl) <| jK (jV 3 (v := iv c.kind) rfl rfl kp rfl) <| jD <| jB <| jg ?_
  refine jC <| jE <| jA (jw rfl rfl) <| jA (jG (v := .bool (decide (c.kind = 12))) rfl) <| jD <| jB ?_
  by_cases h_6 : c.kind = 12
  · refine jO (cB (dT h_6)) <| jC <| jE <| jK (jc 4 x m rfl rfl) <| jA (jF (v := iv proc) rfl) ?_
    refine jH rfl (jM [5, 5, 5] Tryz.call53 rfl (M_spawn x m hk (by omega) (by omega) proc (by omega)) rfl (fun _ _ => trivial)) ?_
    rintro _ _ ⟨_, ⟨x_9, m_10, n_11, n_13, e_7, k_8, f_12, f_14, rfl, rfl⟩, rfl⟩
    refine jA (jF (v := .tuple #[mv x_9 m_10, iv n_11, iv n_13]) rfl) <| jA (jb (v := mv x_9 m_10) rfl rfl) <| jA (jb (v := iv n_11) rfl rfl) <| jA (jb (v := iv n_13) rfl rfl) ?_
    refine jH rfl (jm 7 x_9 m_10 rfl rfl rfl rfl) ?_
    rintro _ _ rfl
    refine jA (jJ fo45_1 rfl) ?_
    refine jH rfl (jT 3 (vs := [iv n_11]) (cs' := [iv 0, iv n_11, str []]) rfl rfl rfl rfl kt rfl rfl (lb rfl) rfl) ?_
    rintro _ _ rfl
    refine jA (jJ fo45_0 rfl) ?_
    refine jH rfl (jT 3 (vs := [iv n_13]) (cs' := [iv n_13, iv n_11, str []]) rfl rfl rfl rfl kt rfl rfl (lb rfl) rfl) ?_
    rintro _ _ rfl
    refine jD <| jB <| jC <| jE <| jA (jJ fo45_0 rfl) <| jK (jV 3 (v := iv n_13) rfl rfl kp rfl) <| jA (jw rfl rfl) <| jD <| jB ?_
    by_cases h_15 : n_13 = 0
    · refine jO (cB (dT h_15)) <| jE <| jK (jc 7 x_9 m_10 rfl rfl) <| jA (jF (v := iv proc) rfl) <| jA (jJ fo45_1 rfl) <| jK (jV 3 (v := iv n_11) rfl rfl kp rfl) ?_
      refine jH rfl (jM [0, 0, 0] Tryz.call223 rfl (M_forkPages x_9 m_10 k_8 (by omega) (by omega) proc n_11 (by omega) (by omega)) rfl (fun _ _ => trivial)) ?_
      rintro _ _ ⟨_, ⟨x_18, m_19, e_16, k_17, rfl, rfl⟩, rfl⟩
      refine jH rfl (jm 7 x_18 m_19 rfl rfl rfl rfl) ?_
      rintro _ _ rfl
      refine jD <| jk <| jB <| jC <| jr [bk b_5 45 [iv n_13, iv n_11, str []], mb b_1 x_18 m_19] 3 mixed (by simp) <| jh 0 rfl (jc 1 x_18 m_19 rfl rfl) <| jh 1 rfl (jX 0 (vs := [iv n_13, iv n_11, str []]) rfl rfl gA kr rfl rfl) <| jQ (i := 2) ?_
      refine jY rfl rfl (jm 5 x_18 m_19 rfl rfl rfl rfl) ?_
      rintro _ _ rfl
      refine ⟨(by simp), ?_⟩
      refine jQ (i := 3) ?_
      refine jx rfl (jT 4 (vs := [iv n_13, iv n_11, str []]) (cs' := [iv n_13, iv n_11, str []]) rfl rfl rfl rfl kr rfl rfl (lb rfl) rfl) ?_
      rintro _ _ rfl
      refine jB <| jL <| kB (.inl rfl) rfl (je (jc 5 x_18 m_19 rfl rfl) ⟨_, rfl⟩) (je (jX 4 (vs := [iv n_13, iv n_11, str []]) rfl rfl gA kr rfl rfl) ⟨_, rfl⟩) (tS 3 _) ?_
      exact ⟨x_18, m_19, (⟨n_13, n_11, []⟩ : AN), (by simp only [MS.doProc, h_6, e_7, h_15, e_16, SB]; (repeat (first | rw [if_pos (by omega)] | rw [if_neg (by omega)])); all_goals (first | rfl | simp only [SB, h_6, e_7, h_15, e_16])), (k_17.mono (by omega) (by omega)), (by (try dsimp only); (try simp only [List.length_nil]); omega), rfl, rfl⟩
    refine jP (cB (dF h_15)) <| jU <| jk <| jB <| jC <| jr [bk b_5 45 [iv n_13, iv n_11, str []], mb b_1 x_9 m_10] 3 mixed (by simp) <| jh 0 rfl (jc 1 x_9 m_10 rfl rfl) <| jh 1 rfl (jX 0 (vs := [iv n_13, iv n_11, str []]) rfl rfl gA kr rfl rfl) <| jQ (i := 2) ?_
    refine jY rfl rfl (jm 5 x_9 m_10 rfl rfl rfl rfl) ?_
    rintro _ _ rfl
    refine ⟨(by simp), ?_⟩
    refine jQ (i := 3) ?_
    refine jx rfl (jT 4 (vs := [iv n_13, iv n_11, str []]) (cs' := [iv n_13, iv n_11, str []]) rfl rfl rfl rfl kr rfl rfl (lb rfl) rfl) ?_
    rintro _ _ rfl
    refine jB <| jL <| kB (.inl rfl) rfl (je (jc 5 x_9 m_10 rfl rfl) ⟨_, rfl⟩) (je (jX 4 (vs := [iv n_13, iv n_11, str []]) rfl rfl gA kr rfl rfl) ⟨_, rfl⟩) (tS 3 _) ?_
    exact ⟨x_9, m_10, (⟨n_13, n_11, []⟩ : AN), (by simp only [MS.doProc, h_6, e_7, h_15, SB]; (repeat (first | rw [if_pos (by omega)] | rw [if_neg (by omega)])); all_goals (first | rfl | simp only [SB, h_6, e_7, h_15])), (k_8.mono (by omega) (by omega)), (by (try dsimp only); (try simp only [List.length_nil]); omega), rfl, rfl⟩
  refine jP (cB (dF h_6)) <| jC <| jE <| jA (jw rfl rfl) <| jA (jG (v := .bool (decide (c.kind = 13))) rfl) <| jD <| jB ?_
  by_cases h_20 : c.kind = 13
  · refine jO (cB (dT h_20)) <| jC <| jE <| jK (jc 4 x m rfl rfl) <| jA (jF (v := iv proc) rfl) <| jA (jJ fo51_3 rfl) <| jK (jV 3 (v := iv c.a) rfl rfl kp rfl) ?_
    refine jH rfl (jM [5, 5, 5] Tryz.call224 rfl (M_end x m hk (by omega) (by omega) proc c.a (by omega) (by omega)) rfl (fun _ _ => trivial)) ?_
    rintro _ _ ⟨_, ⟨x_23, m_24, n_25, e_21, k_22, f_26, rfl, rfl⟩, rfl⟩
    refine jA (jF (v := .tuple #[mv x_23 m_24, iv n_25]) rfl) <| jA (jb (v := mv x_23 m_24) rfl rfl) <| jA (jb (v := iv n_25) rfl rfl) ?_
    refine jH rfl (jm 7 x_23 m_24 rfl rfl rfl rfl) ?_
    rintro _ _ rfl
    refine jA (jJ fo45_0 rfl) ?_
    refine jH rfl (jT 3 (vs := [iv n_25]) (cs' := [iv n_25, iv 0, str []]) rfl rfl rfl rfl kt rfl rfl (lb rfl) rfl) ?_
    rintro _ _ rfl
    refine jD <| jB <| jC <| jE <| jA (jJ fo45_0 rfl) <| jK (jV 3 (v := iv n_25) rfl rfl kp rfl) <| jA (jw rfl rfl) <| jD <| jB ?_
    by_cases h_27 : n_25 = 0
    · refine jO (cB (dT h_27)) <| jE <| jK (jc 7 x_23 m_24 rfl rfl) <| jA (jF (v := iv proc) rfl) ?_
      refine jH rfl (jM [0, 0, 0] Tryz.call225 rfl (M_dropPages x_23 m_24 k_22 (by omega) (by omega) proc (by omega)) rfl (fun _ _ => trivial)) ?_
      rintro _ _ ⟨_, ⟨x_30, m_31, e_28, k_29, rfl, rfl⟩, rfl⟩
      refine jH rfl (jm 7 x_30 m_31 rfl rfl rfl rfl) ?_
      rintro _ _ rfl
      refine jD <| jk <| jB <| jC <| jr [bk b_5 45 [iv n_25, iv 0, str []], mb b_1 x_30 m_31] 3 mixed (by simp) <| jh 0 rfl (jc 1 x_30 m_31 rfl rfl) <| jh 1 rfl (jX 0 (vs := [iv n_25, iv 0, str []]) rfl rfl gA kr rfl rfl) <| jQ (i := 2) ?_
      refine jY rfl rfl (jm 5 x_30 m_31 rfl rfl rfl rfl) ?_
      rintro _ _ rfl
      refine ⟨(by simp), ?_⟩
      refine jQ (i := 3) ?_
      refine jx rfl (jT 4 (vs := [iv n_25, iv 0, str []]) (cs' := [iv n_25, iv 0, str []]) rfl rfl rfl rfl kr rfl rfl (lb rfl) rfl) ?_
      rintro _ _ rfl
      refine jB <| jL <| kB (.inl rfl) rfl (je (jc 5 x_30 m_31 rfl rfl) ⟨_, rfl⟩) (je (jX 4 (vs := [iv n_25, iv 0, str []]) rfl rfl gA kr rfl rfl) ⟨_, rfl⟩) (tS 3 _) ?_
      exact ⟨x_30, m_31, (⟨n_25, 0, []⟩ : AN), (by simp only [MS.doProc, h_6, h_20, e_21, h_27, e_28, SB]; (repeat (first | rw [if_pos (by omega)] | rw [if_neg (by omega)])); all_goals (first | rfl | simp only [SB, h_6, h_20, e_21, h_27, e_28])), (k_29.mono (by omega) (by omega)), (by (try dsimp only); (try simp only [List.length_nil]); omega), rfl, rfl⟩
    refine jP (cB (dF h_27)) <| jU <| jk <| jB <| jC <| jr [bk b_5 45 [iv n_25, iv 0, str []], mb b_1 x_23 m_24] 3 mixed (by simp) <| jh 0 rfl (jc 1 x_23 m_24 rfl rfl) <| jh 1 rfl (jX 0 (vs := [iv n_25, iv 0, str []]) rfl rfl gA kr rfl rfl) <| jQ (i := 2) ?_
    refine jY rfl rfl (jm 5 x_23 m_24 rfl rfl rfl rfl) ?_
    rintro _ _ rfl
    refine ⟨(by simp), ?_⟩
    refine jQ (i := 3) ?_
    refine jx rfl (jT 4 (vs := [iv n_25, iv 0, str []]) (cs' := [iv n_25, iv 0, str []]) rfl rfl rfl rfl kr rfl rfl (lb rfl) rfl) ?_
    rintro _ _ rfl
    refine jB <| jL <| kB (.inl rfl) rfl (je (jc 5 x_23 m_24 rfl rfl) ⟨_, rfl⟩) (je (jX 4 (vs := [iv n_25, iv 0, str []]) rfl rfl gA kr rfl rfl) ⟨_, rfl⟩) (tS 3 _) ?_
    exact ⟨x_23, m_24, (⟨n_25, 0, []⟩ : AN), (by simp only [MS.doProc, h_6, h_20, e_21, h_27, SB]; (repeat (first | rw [if_pos (by omega)] | rw [if_neg (by omega)])); all_goals (first | rfl | simp only [SB, h_6, h_20, e_21, h_27])), (k_22.mono (by omega) (by omega)), (by (try dsimp only); (try simp only [List.length_nil]); omega), rfl, rfl⟩
  refine jP (cB (dF h_20)) <| jC <| jE <| jA (jw rfl rfl) <| jA (jG (v := .bool (decide (c.kind = 14))) rfl) <| jD <| jB ?_
  by_cases h_32 : c.kind = 14
  · refine jO (cB (dT h_32)) <| jE <| jK (jc 4 x m rfl rfl) <| jA (jF (v := iv proc) rfl) <| jA (jJ fo51_3 rfl) <| jK (jV 3 (v := iv c.a) rfl rfl kp rfl) ?_
    refine jH rfl (jM [5, 5, 5] Tryz.call226 rfl (M_reap x m hk (by omega) (by omega) proc c.a (by omega) (by omega)) rfl (fun _ _ => trivial)) ?_
    rintro _ _ ⟨_, ⟨x_35, m_36, n_37, n_39, e_33, k_34, f_38, f_40, rfl, rfl⟩, rfl⟩
    refine jA (jF (v := .tuple #[mv x_35 m_36, iv n_37, iv n_39]) rfl) <| jA (jb (v := mv x_35 m_36) rfl rfl) <| jA (jb (v := iv n_37) rfl rfl) <| jA (jb (v := iv n_39) rfl rfl) ?_
    refine jH rfl (jm 7 x_35 m_36 rfl rfl rfl rfl) ?_
    rintro _ _ rfl
    refine jA (jJ fo45_1 rfl) ?_
    refine jH rfl (jT 3 (vs := [iv n_37]) (cs' := [iv 0, iv n_37, str []]) rfl rfl rfl rfl kt rfl rfl (lb rfl) rfl) ?_
    rintro _ _ rfl
    refine jA (jJ fo45_0 rfl) ?_
    refine jH rfl (jT 3 (vs := [iv n_39]) (cs' := [iv n_39, iv n_37, str []]) rfl rfl rfl rfl kt rfl rfl (lb rfl) rfl) ?_
    rintro _ _ rfl
    refine jD <| jk <| jB <| jC <| jr [bk b_5 45 [iv n_39, iv n_37, str []], mb b_1 x_35 m_36] 3 mixed (by simp) <| jh 0 rfl (jc 1 x_35 m_36 rfl rfl) <| jh 1 rfl (jX 0 (vs := [iv n_39, iv n_37, str []]) rfl rfl gA kr rfl rfl) <| jQ (i := 2) ?_
    refine jY rfl rfl (jm 5 x_35 m_36 rfl rfl rfl rfl) ?_
    rintro _ _ rfl
    refine ⟨(by simp), ?_⟩
    refine jQ (i := 3) ?_
    refine jx rfl (jT 4 (vs := [iv n_39, iv n_37, str []]) (cs' := [iv n_39, iv n_37, str []]) rfl rfl rfl rfl kr rfl rfl (lb rfl) rfl) ?_
    rintro _ _ rfl
    refine jB <| jL <| kB (.inl rfl) rfl (je (jc 5 x_35 m_36 rfl rfl) ⟨_, rfl⟩) (je (jX 4 (vs := [iv n_39, iv n_37, str []]) rfl rfl gA kr rfl rfl) ⟨_, rfl⟩) (tS 3 _) ?_
    exact ⟨x_35, m_36, (⟨n_39, n_37, []⟩ : AN), (by simp only [MS.doProc, h_6, h_20, h_32, e_33, SB]; (repeat (first | rw [if_pos (by omega)] | rw [if_neg (by omega)])); all_goals (first | rfl | simp only [SB, h_6, h_20, h_32, e_33])), (k_34.mono (by omega) (by omega)), (by (try dsimp only); (try simp only [List.length_nil]); omega), rfl, rfl⟩
  refine jP (cB (dF h_32)) <| jC <| jE ?_
  refine jH rfl (kJ (ps := []) (cur := #[]) gB kt Tryz.zeroValue3 rfl (by kernel_rfl) (by decide) (by decide)) ?_
  rintro _ _ ⟨a_41, rfl, rfl⟩
  refine jA (jG (v := .slice a_41 0 0) rfl) <| jD <| jB <| jC <| jE <| jK (jc 5 x m rfl rfl) <| jA (jF (v := iv proc) rfl) ?_
  refine jH rfl (jM [6, 6, 6] Tryz.call227 rfl (M_kids x m hk (by omega) (by omega) proc (by omega)) rfl (fun _ _ => trivial)) ?_
  rintro _ _ ⟨_, ⟨x_44, m_45, l_46a, l_46c, l_46, e_42, k_43, f_47, rfl, rfl⟩, rfl⟩
  refine jA (jF (v := .tuple #[mv x_44 m_45, .slice l_46a l_46.length l_46c]) rfl) <| jA (jb (v := mv x_44 m_45) rfl rfl) <| jA (jb (v := .slice l_46a l_46.length l_46c) rfl rfl) ?_
  refine jH rfl (jm 9 x_44 m_45 rfl rfl rfl rfl) ?_
  rintro _ _ rfl
  refine jA (jG (v := .slice l_46a l_46.length l_46c) rfl) <| jD <| jB <| jC <| jE <| jA (jG (v := iv 0) rfl) <| jD <| jB <| jg ?_
  have hno := kids_ok e_42
  refine kC (fun k_ e_ L_ => ∃ j_ : Nat, ∃ t_ : Str, (j_ ≤ l_46.length) ∧ (t_.length ≤ j_ * 1048577) ∧ (joinD (l_46.drop j_) t_ = joinD l_46 []) ∧ e_ 3 = .pointer (some ⟨b_1, 0, none⟩) ∧ e_ 6 = .pointer (some ⟨b_3, 0, none⟩) ∧ e_ 7 = .pointer (some ⟨b_4, 0, none⟩) ∧ e_ 8 = .pointer (some ⟨b_5, 0, none⟩) ∧ e_ 9 = .slice l_46a l_46.length l_46c ∧ e_ 10 = nv j_ ∧ L_ = [rC x_44.a0 x_44.c0 m_45.s, rS x_44.a1 x_44.c1 m_45.r, rS x_44.a2 x_44.c2 m_45.w, rI l_46a l_46c l_46, Res.row (.slice a_41 0 0) 3 1 0 (([] : List Int).map (Value.int .i64)), bk b_5 45 [iv 0, iv 0, str t_], bk b_4 45 [iv 0, iv 0, str []], bk b_3 99 zC, bk b_2 51 [iv c.kind, str c.name, str c.to_, iv c.a, iv c.b, str c.text], mb b_1 x_44 m_45] ∧ k_ = l_46.length + 1 - j_) _ ⟨0, [], (by omega), (by simp), rfl, rfl, rfl, rfl, rfl, rfl, rfl, rfl, rfl⟩ ?_
  rintro _ e_48 _ ⟨j_, t_, hj, ht, hR, he_49, he_50, he_51, he_52, he_53, he_54, rfl, rfl⟩
  refine jC <| jC <| jE <| jA (jF (v := nv j_) he_54) <| jA (jF (v := .slice l_46a l_46.length l_46c) he_53) <| jA (jp gB rfl) <| jA (jo rfl rfl) <| jD <| jB ?_
  by_cases h_55 : ((j_ : Nat) : Int) < ((l_46.length : Nat) : Int)
  · have hlt : j_ < l_46.length := by omega
    have hbj := hno _ (getD_mem (d := 0) hlt)
    refine jO (cB (dT h_55)) <| jU <| jB <| jC <| jg <| jr [bk b_5 45 [iv 0, iv 0, str t_]] 9 mixed (by simp) <| jI 0 rfl (jJ fo45_2 he_52) <| jh 1 rfl (jV 0 (v := str t_) rfl rfl kv rfl) <| jI 2 rfl (jF (v := .slice l_46a l_46.length l_46c) he_53) <| jI 3 rfl (jF (v := nv j_) he_54) ?_
    refine JA.facts fun hst => ?_
    obtain ⟨hr_56, hr_56b, -⟩ := row_some 3 rfl (by omega) hst
    refine jI 4 rfl (jl (i := j_) gB kt hr_56 hr_56b rfl rfl (by omega)) <| jQ (i := 5) ?_
    refine jY rfl rfl (ja (kl 3 (v := iv (l_46.getD j_ 0)) rfl rfl kp (atI (by omega)))) ?_
    rintro _ _ ⟨rfl, rfl⟩
    refine ⟨(by simp), ?_⟩
    refine jQ (i := 6) ?_
    refine jY rfl rfl (jM [] Tryz.call172 rfl (N_sDec (l_46.getD j_ 0) (by omega)) rfl (fun _ _ => trivial)) ?_
    rintro _ _ ⟨_, ⟨u_63, e_61, f_64, rfl, rfl⟩, rfl⟩
    refine ⟨(by simp), ?_⟩
    refine jI 7 rfl (ki rfl rfl (by (try simp only [List.length_append, List.length_cons, List.length_nil, List.length_drop, List.length_take]); omega)) <| jI 8 rfl (ki rfl rfl (by (try simp only [List.length_append, List.length_cons, List.length_nil, List.length_drop, List.length_take]); omega)) <| jI 9 rfl (jJ fo45_2 he_52) <| jQ (i := 10) ?_
    refine jx rfl (jT 5 (vs := [str ((t_ ++ u_63) ++ [32])]) (cs' := [iv 0, iv 0, str ((t_ ++ u_63) ++ [32])]) rfl rfl rfl rfl kw rfl rfl (lb rfl) rfl) ?_
    rintro _ _ rfl
    refine jk <| jB <| jE <| jA (jF (v := nv j_) he_54) <| jA (ji (c := ((j_ + 1 : Nat) : Int)) rfl rfl (wr (by omega))) <| jA (jG (v := iv ((j_ + 1 : Nat) : Int)) rfl) <| jD <| kH [0, 0, 0, 0, 0, 0, 0, 0, 0, 0] (A := [rC x_44.a0 x_44.c0 m_45.s, rS x_44.a1 x_44.c1 m_45.r, rS x_44.a2 x_44.c2 m_45.w, rI l_46a l_46c l_46, Res.row (.slice a_41 0 0) 3 1 0 (([] : List Int).map (Value.int .i64)), bk b_5 45 [iv 0, iv 0, str ((t_ ++ u_63) ++ [32])], bk b_4 45 [iv 0, iv 0, str []], bk b_3 99 zC, bk b_2 51 [iv c.kind, str c.name, str c.to_, iv c.a, iv c.b, str c.text], mb b_1 x_44 m_45]) rfl ?_
    refine ju (l_46.length + 1 - (j_ + 1)) (by omega) ⟨(j_ + 1), ((t_ ++ u_63) ++ [32]), (by omega), (by simp only [LE]; omega), (by rw [drop_at (getD_some (d := 0) hlt)] at hR; simp only [joinD, e_61] at hR; first | exact hR | (simp only [List.append_assoc] at hR ⊢; exact hR)), he_49, he_50, he_51, he_52, he_53, rfl, rfl, rfl⟩
  rw [List.drop_of_length_le (by omega)] at hR
  simp only [joinD] at hR
  have hRE := hR.symm
  refine jP (cB (dF h_55)) <| jz <| jj <| jj <| kA <| jk <| jB <| jC <| jr [bk b_5 45 [iv 0, iv 0, str t_], mb b_1 x_44 m_45] 3 mixed (by simp) <| jh 0 rfl (jc 1 x_44 m_45 rfl he_49) ?_
  refine jh 1 rfl (jX 0 (vs := [iv 0, iv 0, str t_]) rfl he_52 gA kr rfl rfl) <| jQ (i := 2) ?_
  refine jY rfl rfl (jm 7 x_44 m_45 rfl he_50 rfl rfl) ?_
  rintro _ _ rfl
  refine ⟨(by simp), ?_⟩
  refine jQ (i := 3) ?_
  refine jx rfl (jT 6 (vs := [iv 0, iv 0, str t_]) (cs' := [iv 0, iv 0, str t_]) rfl he_51 rfl rfl kr rfl rfl (lb rfl) rfl) ?_
  rintro _ _ rfl
  refine jB <| jL <| kB (.inl rfl) rfl (je (jc 7 x_44 m_45 rfl he_50) ⟨_, he_50⟩) (je (jX 6 (vs := [iv 0, iv 0, str t_]) rfl he_51 gA kr rfl rfl) ⟨_, he_51⟩) (tS 3 _) ?_
  exact ⟨x_44, m_45, (⟨0, 0, t_⟩ : AN), (by simp only [MS.doProc, h_6, h_20, h_32, e_42, h_55, hRE, SB]; (repeat (first | rw [if_pos (by omega)] | rw [if_neg (by omega)])); all_goals (first | rfl | simp only [SB, h_6, h_20, h_32, e_42, h_55, hRE])), (k_43.mono (by omega) (by omega)), (by (try dsimp only); (try simp only [List.length_nil]); omega), rfl, rfl⟩

theorem M_doFile (x : MA) (m : MS) {S T : Nat} (hk : m.ok S T) (hS : S ≤ 22000000) (hT : T ≤ 22000000) (c : CL) (hc : c.ok 1048576) :
    Ct Tryz.prog 156 [mv x m, .agg #[.int .i64 c.kind, str c.name, str c.to_, .int .i64 c.a, .int .i64 c.b, str c.text]] (mr x m) (fun _ => True) (fun v A' => ∃ x' m' r0, MS.doFile m c = (m', r0) ∧ m'.ok (S + 12) (T + 141) ∧ ((0 ≤ r0.code ∧ r0.code ≤ 9) ∧ (-1 ≤ r0.n ∧ r0.n ≤ 1000000000) ∧ r0.text.length ≤ 30000000000000) ∧ v = .tuple #[mv x' m', .agg #[.int .i64 r0.code, .int .i64 r0.n, str r0.text]] ∧ A' = mr x' m') := by
  refine Ct.intro Tryz.func156 rfl Tryz.ntmps156 (lb rfl) fun w0 hpre => ?_
  obtain ⟨hc1, hc2, hc3, hc4, hc5, hc6⟩ := id hc
  refine jC <| jE ?_
  refine jH rfl (jy (cs := (mc x m)) rfl rfl) ?_
  rintro _ _ ⟨b_1, rfl, rfl⟩
  refine jH rfl (jy (cs := [iv c.kind, str c.name, str c.to_, iv c.a, iv c.b, str c.text]) rfl rfl) ?_
  rintro _ _ ⟨b_2, rfl, rfl⟩
  refine jH rfl (jn (z := zM) (cs := zC) gI rfl) ?_
  rintro _ _ ⟨b_3, rfl, rfl⟩
  refine jH rfl (jn (z := .agg #[iv 0, iv 0, str []]) (cs := [iv 0, iv 0, str []]) gG rfl) ?_
  rintro _ _ ⟨b_4, rfl, rfl⟩
  refine jD <| jB <| jC <| jE <| jK (jc 3 x m rfl rfl) <| jA (jJ fo51_1 rfl) <| jK (jV 2 (v := str c.name) rfl rfl kv rfl) ?_
  refine jH rfl (jM [4, 4, 4] Tryz.call208 rfl (M_fileOf x m hk (by omega) (by omega) c.name (by omega)) rfl (fun _ _ => trivial)) ?_
  rintro _ _ ⟨_, ⟨x_7, m_8, n_9, e_5, k_6, f_10, rfl, rfl⟩, rfl⟩
  refine jA (jF (v := .tuple #[mv x_7 m_8, iv n_9]) rfl) <| jA (jb (v := mv x_7 m_8) rfl rfl) <| jA (jb (v := iv n_9) rfl rfl) ?_
  refine jH rfl (jm 6 x_7 m_8 rfl rfl rfl rfl) ?_
  rintro _ _ rfl
  refine jA (jG (v := iv n_9) rfl) <| jD <| jB <| jC <| jC <| jE <| jA (jF (v := iv n_9) rfl) <| jA (jw rfl rfl) <| jD <| jB ?_
  by_cases h_11 : n_9 = 0
  · refine jO (cB (dT h_11)) <| jC <| jE <| jK (jc 6 x_7 m_8 rfl rfl) <| jA (kY (ps := [(0, iv 2)]) (cs := [iv 2, iv 0, str []]) rfl (by kernel_rfl)) ?_
    refine jH rfl (jm 4 x_7 m_8 rfl rfl rfl rfl) ?_
    rintro _ _ rfl
    refine jH rfl (jT 3 (vs := [iv 2, iv 0, str []]) (cs' := [iv 2, iv 0, str []]) rfl rfl rfl rfl kr rfl rfl (lb rfl) rfl) ?_
    rintro _ _ rfl
    refine jD <| jB <| jL <| jW <| kB (.inl rfl) rfl (je (jc 4 x_7 m_8 rfl rfl) ⟨_, rfl⟩) (je (jX 3 (vs := [iv 2, iv 0, str []]) rfl rfl gA kr rfl rfl) ⟨_, rfl⟩) (tS 3 _) ?_
    exact ⟨x_7, m_8, (⟨2, 0, []⟩ : AN), (by simp only [MS.doFile, e_5, h_11, SB]; (repeat (first | rw [if_pos (by omega)] | rw [if_neg (by omega)])); all_goals (first | rfl | simp only [SB, e_5, h_11])), (k_6.mono (by omega) (by omega)), (by (try dsimp only); (try simp only [List.length_nil]); omega), rfl, rfl⟩
  refine jP (cB (dF h_11)) <| jU <| jB <| jC <| jE <| jA (kY (ps := []) (cs := [iv 0, iv 0, str []]) rfl (by kernel_rfl)) ?_
  refine jH rfl (jn (z := .agg #[iv 0, iv 0, str []]) (cs := [iv 0, iv 0, str []]) gG rfl) ?_
  rintro _ _ ⟨b_12, rfl, rfl⟩
  refine jH rfl (jT 0 (vs := [iv 0, iv 0, str []]) (cs' := [iv 0, iv 0, str []]) rfl rfl rfl rfl kr rfl rfl (lb rfl) rfl) ?_
  rintro _ _ rfl
  refine jD <| jB <| jC <| jC <| jE <| jA (jJ fo51_0 rfl) <| jK (jV 6 (v := iv c.kind) rfl rfl kp rfl) <| jD <| jB <| jg ?_
  refine jC <| jE <| jA (jw rfl rfl) <| jA (jG (v := .bool (decide (c.kind = 6))) rfl) <| jD <| jB ?_
  by_cases h_13 : c.kind = 6
  · refine jO (cB (dT h_13)) <| jE <| jK (jc 7 x_7 m_8 rfl rfl) <| jA (jF (v := iv n_9) rfl) <| jA (jJ fo51_3 rfl) <| jK (jV 6 (v := iv c.a) rfl rfl kp rfl) <| jA (jJ fo51_4 rfl) <| jK (jV 6 (v := iv c.b) rfl rfl kp rfl) ?_
    refine jH rfl (jM [1, 1, 1] Tryz.call211 rfl (M_readFile x_7 m_8 k_6 (by omega) (by omega) n_9 c.a c.b (by omega) (by omega) (by omega)) rfl (fun _ _ => trivial)) ?_
    rintro _ _ ⟨_, ⟨x_16, m_17, u_18, e_14, k_15, f_19, rfl, rfl⟩, rfl⟩
    refine jA (jF (v := .tuple #[mv x_16 m_17, str u_18]) rfl) <| jA (jb (v := mv x_16 m_17) rfl rfl) <| jA (jb (v := str u_18) rfl rfl) ?_
    refine jH rfl (jm 7 x_16 m_17 rfl rfl rfl rfl) ?_
    rintro _ _ rfl
    refine jA (jJ fo45_2 rfl) ?_
    refine jH rfl (jT 3 (vs := [str u_18]) (cs' := [iv 0, iv 0, str u_18]) rfl rfl rfl rfl kw rfl rfl (lb rfl) rfl) ?_
    rintro _ _ rfl
    refine jD <| jk <| jB <| jC <| jr [bk b_12 45 [iv 0, iv 0, str u_18], mb b_1 x_16 m_17] 3 mixed (by simp) <| jh 0 rfl (jc 1 x_16 m_17 rfl rfl) <| jh 1 rfl (jX 0 (vs := [iv 0, iv 0, str u_18]) rfl rfl gA kr rfl rfl) <| jQ (i := 2) ?_
    refine jY rfl rfl (jm 5 x_16 m_17 rfl rfl rfl rfl) ?_
    rintro _ _ rfl
    refine ⟨(by simp), ?_⟩
    refine jQ (i := 3) ?_
    refine jx rfl (jT 4 (vs := [iv 0, iv 0, str u_18]) (cs' := [iv 0, iv 0, str u_18]) rfl rfl rfl rfl kr rfl rfl (lb rfl) rfl) ?_
    rintro _ _ rfl
    refine jB <| jL <| kB (.inl rfl) rfl (je (jc 5 x_16 m_17 rfl rfl) ⟨_, rfl⟩) (je (jX 4 (vs := [iv 0, iv 0, str u_18]) rfl rfl gA kr rfl rfl) ⟨_, rfl⟩) (tS 3 _) ?_
    exact ⟨x_16, m_17, (⟨0, 0, u_18⟩ : AN), (by simp only [MS.doFile, e_5, h_11, h_13, e_14, SB]; (repeat (first | rw [if_pos (by omega)] | rw [if_neg (by omega)])); all_goals (first | rfl | simp only [SB, e_5, h_11, h_13, e_14])), (k_15.mono (by omega) (by omega)), (by (try dsimp only); (try simp only [List.length_nil]); omega), rfl, rfl⟩
  refine jP (cB (dF h_13)) <| jC <| jE <| jA (jw rfl rfl) <| jA (jG (v := .bool (decide (c.kind = 7))) rfl) <| jD <| jB ?_
  by_cases h_20 : c.kind = 7
  · refine jO (cB (dT h_20)) <| jE <| jK (jc 7 x_7 m_8 rfl rfl) <| jA (jF (v := iv n_9) rfl) <| jA (jJ fo51_3 rfl) <| jK (jV 6 (v := iv c.a) rfl rfl kp rfl) <| jA (jJ fo51_5 rfl) <| jK (jV 6 (v := str c.text) rfl rfl kv rfl) ?_
    refine jH rfl (jM [1, 1, 1] Tryz.call212 rfl (M_writeFile x_7 m_8 k_6 (by omega) (by omega) n_9 c.a c.text (by omega) (by omega) (by omega)) rfl (fun _ _ => trivial)) ?_
    rintro _ _ ⟨_, ⟨x_23, m_24, n_25, e_21, k_22, f_26, rfl, rfl⟩, rfl⟩
    refine jA (jF (v := .tuple #[mv x_23 m_24, iv n_25]) rfl) <| jA (jb (v := mv x_23 m_24) rfl rfl) <| jA (jb (v := iv n_25) rfl rfl) ?_
    refine jH rfl (jm 7 x_23 m_24 rfl rfl rfl rfl) ?_
    rintro _ _ rfl
    refine jA (jJ fo45_0 rfl) ?_
    refine jH rfl (jT 3 (vs := [iv n_25]) (cs' := [iv n_25, iv 0, str []]) rfl rfl rfl rfl kt rfl rfl (lb rfl) rfl) ?_
    rintro _ _ rfl
    refine jD <| jk <| jB <| jC <| jr [bk b_12 45 [iv n_25, iv 0, str []], mb b_1 x_23 m_24] 3 mixed (by simp) <| jh 0 rfl (jc 1 x_23 m_24 rfl rfl) <| jh 1 rfl (jX 0 (vs := [iv n_25, iv 0, str []]) rfl rfl gA kr rfl rfl) <| jQ (i := 2) ?_
    refine jY rfl rfl (jm 5 x_23 m_24 rfl rfl rfl rfl) ?_
    rintro _ _ rfl
    refine ⟨(by simp), ?_⟩
    refine jQ (i := 3) ?_
    refine jx rfl (jT 4 (vs := [iv n_25, iv 0, str []]) (cs' := [iv n_25, iv 0, str []]) rfl rfl rfl rfl kr rfl rfl (lb rfl) rfl) ?_
    rintro _ _ rfl
    refine jB <| jL <| kB (.inl rfl) rfl (je (jc 5 x_23 m_24 rfl rfl) ⟨_, rfl⟩) (je (jX 4 (vs := [iv n_25, iv 0, str []]) rfl rfl gA kr rfl rfl) ⟨_, rfl⟩) (tS 3 _) ?_
    exact ⟨x_23, m_24, (⟨n_25, 0, []⟩ : AN), (by simp only [MS.doFile, e_5, h_11, h_13, h_20, e_21, SB]; (repeat (first | rw [if_pos (by omega)] | rw [if_neg (by omega)])); all_goals (first | rfl | simp only [SB, e_5, h_11, h_13, h_20, e_21])), (k_22.mono (by omega) (by omega)), (by (try dsimp only); (try simp only [List.length_nil]); omega), rfl, rfl⟩
  refine jP (cB (dF h_20)) <| jE <| jK (jc 7 x_7 m_8 rfl rfl) <| jA (jF (v := iv n_9) rfl) <| jA (jJ fo51_3 rfl) <| jK (jV 6 (v := iv c.a) rfl rfl kp rfl) ?_
  refine jH rfl (jM [1, 1, 1] Tryz.call213 rfl (M_cutFile x_7 m_8 k_6 (by omega) (by omega) n_9 c.a (by omega) (by omega)) rfl (fun _ _ => trivial)) ?_
  rintro _ _ ⟨_, ⟨x_29, m_30, n_31, e_27, k_28, f_32, rfl, rfl⟩, rfl⟩
  refine jA (jF (v := .tuple #[mv x_29 m_30, iv n_31]) rfl) <| jA (jb (v := mv x_29 m_30) rfl rfl) <| jA (jb (v := iv n_31) rfl rfl) ?_
  refine jH rfl (jm 7 x_29 m_30 rfl rfl rfl rfl) ?_
  rintro _ _ rfl
  refine jA (jJ fo45_0 rfl) ?_
  refine jH rfl (jT 3 (vs := [iv n_31]) (cs' := [iv n_31, iv 0, str []]) rfl rfl rfl rfl kt rfl rfl (lb rfl) rfl) ?_
  rintro _ _ rfl
  refine jD <| jk <| jB <| jC <| jr [bk b_12 45 [iv n_31, iv 0, str []], mb b_1 x_29 m_30] 3 mixed (by simp) <| jh 0 rfl (jc 1 x_29 m_30 rfl rfl) <| jh 1 rfl (jX 0 (vs := [iv n_31, iv 0, str []]) rfl rfl gA kr rfl rfl) <| jQ (i := 2) ?_
  refine jY rfl rfl (jm 5 x_29 m_30 rfl rfl rfl rfl) ?_
  rintro _ _ rfl
  refine ⟨(by simp), ?_⟩
  refine jQ (i := 3) ?_
  refine jx rfl (jT 4 (vs := [iv n_31, iv 0, str []]) (cs' := [iv n_31, iv 0, str []]) rfl rfl rfl rfl kr rfl rfl (lb rfl) rfl) ?_
  rintro _ _ rfl
  refine jB <| jL <| kB (.inl rfl) rfl (je (jc 5 x_29 m_30 rfl rfl) ⟨_, rfl⟩) (je (jX 4 (vs := [iv n_31, iv 0, str []]) rfl rfl gA kr rfl rfl) ⟨_, rfl⟩) (tS 3 _) ?_
  exact ⟨x_29, m_30, (⟨n_31, 0, []⟩ : AN), (by simp only [MS.doFile, e_5, h_11, h_13, h_20, e_27, SB]; (repeat (first | rw [if_pos (by omega)] | rw [if_neg (by omega)])); all_goals (first | rfl | simp only [SB, e_5, h_11, h_13, h_20, e_27])), (k_28.mono (by omega) (by omega)), (by (try dsimp only); (try simp only [List.length_nil]); omega), rfl, rfl⟩

set_option maxHeartbeats 3000000 in
theorem M_do (x : MA) (m : MS) {S T : Nat} (hk : m.ok S T) (hS : S ≤ 20000000) (hT : T ≤ 20000000) (proc : Int) (c : CL) (hproc : -9223372036854775808 ≤ proc ∧ proc ≤ 9223372036854775807) (hc : c.ok 1048576) :
    Ct Tryz.prog 94 [mv x m, .int .i64 proc, .agg #[.int .i64 c.kind, str c.name, str c.to_, .int .i64 c.a, .int .i64 c.b, str c.text]] (mr x m) (fun _ => True) (fun v A' => ∃ x' m' r0, MS.doCall m proc c = (m', r0) ∧ m'.ok (3 * S + 20) (T + 7 * S + 200) ∧ ((0 ≤ r0.code ∧ r0.code ≤ 9) ∧ (-1 ≤ r0.n ∧ r0.n ≤ 1000000000) ∧ r0.text.length ≤ 30000000000000) ∧ v = .tuple #[mv x' m', .agg #[.int .i64 r0.code, .int .i64 r0.n, str r0.text]] ∧ A' = mr x' m') := by
  refine Ct.intro Tryz.func94 rfl Tryz.ntmps94 (lb rfl) fun w0 hpre => ?_
  obtain ⟨hc1, hc2, hc3, hc4, hc5, hc6⟩ := id hc
  refine jC <| jE ?_
  refine jH rfl (jy (cs := (mc x m)) rfl rfl) ?_
  rintro _ _ ⟨b_1, rfl, rfl⟩
  refine jH rfl (jy (cs := [iv c.kind, str c.name, str c.to_, iv c.a, iv c.b, str c.text]) rfl rfl) ?_
  rintro _ _ ⟨b_2, rfl, rfl⟩
  refine jH rfl (jn (z := zM) (cs := zC) gI rfl) ?_
  rintro _ _ ⟨b_3, rfl, rfl⟩
  refine jH rfl (jn (z := .agg #[iv 0, iv 0, str []]) (cs := [iv 0, iv 0, str []]) gG rfl) ?_
  rintro _ _ ⟨b_4, rfl, rfl⟩
  refine jD <| jB <| jC <| jE <| jK (jc 3 x m rfl rfl) <| jA (jF (v := iv proc) rfl) ?_
  refine jH rfl (jM [4, 4, 4] Tryz.call149 rfl (M_state x m hk (by omega) (by omega) proc (by omega)) rfl (fun _ _ => trivial)) ?_
  rintro _ _ ⟨_, ⟨x_7, m_8, n_9, e_5, k_6, f_10, rfl, rfl⟩, rfl⟩
  refine jA (jF (v := .tuple #[mv x_7 m_8, iv n_9]) rfl) <| jA (jb (v := mv x_7 m_8) rfl rfl) <| jA (jb (v := iv n_9) rfl rfl) ?_
  refine jH rfl (jm 6 x_7 m_8 rfl rfl rfl rfl) ?_
  rintro _ _ rfl
  refine jA (jG (v := iv n_9) rfl) <| jD <| jB <| jC <| jC <| jE <| jA (jF (v := iv n_9) rfl) <| jA (kN rfl rfl) <| jD <| jB ?_
  by_cases h_11 : n_9 = 1
  · refine jP (cB (cN (dT h_11))) <| jU <| jB <| jC <| jC <| jE <| jK (jX 5 (vs := [iv c.kind, str c.name, str c.to_, iv c.a, iv c.b, str c.text]) rfl rfl ku ko rfl rfl) ?_
    refine jH rfl (jM [] Tryz.call150 rfl (N_scallOk c hc) rfl (fun _ _ => trivial)) ?_
    rintro _ _ ⟨_, ⟨b_14, e_12, rfl, rfl⟩, rfl⟩
    refine jA (kP rfl) <| jD <| jB ?_
    rcases Bool.eq_false_or_eq_true (b_14) with h_15 | h_15
    · refine jP (cB (cN h_15)) <| jU <| jB <| jC <| jE <| jA (kY (ps := []) (cs := [iv 0, iv 0, str []]) rfl (by kernel_rfl)) ?_
      refine jH rfl (jn (z := .agg #[iv 0, iv 0, str []]) (cs := [iv 0, iv 0, str []]) gG rfl) ?_
      rintro _ _ ⟨b_16, rfl, rfl⟩
      refine jH rfl (jT 0 (vs := [iv 0, iv 0, str []]) (cs' := [iv 0, iv 0, str []]) rfl rfl rfl rfl kr rfl rfl (lb rfl) rfl) ?_
      rintro _ _ rfl
      refine jD <| jB <| jC <| jC <| jE <| jA (jJ fo51_0 rfl) <| jK (jV 6 (v := iv c.kind) rfl rfl kp rfl) <| jD <| jB <| jg ?_
      refine jC <| jE <| jA (jw rfl rfl) <| jA (jG (v := .bool (decide (c.kind = 1))) rfl) <| jD <| jB ?_
      by_cases h_17 : c.kind = 1
      · refine jO (cB (dT h_17)) <| jE <| jK (jc 7 x_7 m_8 rfl rfl) <| jA (jJ fo51_1 rfl) <| jK (jV 6 (v := str c.name) rfl rfl kv rfl) ?_
        refine jH rfl (jM [1, 1, 1] Tryz.call151 rfl (M_makeName x_7 m_8 k_6 (by omega) (by omega) c.name (by omega)) rfl (fun _ _ => trivial)) ?_
        rintro _ _ ⟨_, ⟨x_20, m_21, n_22, n_24, e_18, k_19, f_23, f_25, rfl, rfl⟩, rfl⟩
        refine jA (jF (v := .tuple #[mv x_20 m_21, iv n_22, iv n_24]) rfl) <| jA (jb (v := mv x_20 m_21) rfl rfl) <| jA (jb (v := iv n_22) rfl rfl) <| jA (jb (v := iv n_24) rfl rfl) ?_
        refine jH rfl (jm 7 x_20 m_21 rfl rfl rfl rfl) ?_
        rintro _ _ rfl
        refine jA (jJ fo45_1 rfl) ?_
        refine jH rfl (jT 3 (vs := [iv n_22]) (cs' := [iv 0, iv n_22, str []]) rfl rfl rfl rfl kt rfl rfl (lb rfl) rfl) ?_
        rintro _ _ rfl
        refine jA (jJ fo45_0 rfl) ?_
        refine jH rfl (jT 3 (vs := [iv n_24]) (cs' := [iv n_24, iv n_22, str []]) rfl rfl rfl rfl kt rfl rfl (lb rfl) rfl) ?_
        rintro _ _ rfl
        refine jD <| jk <| jB <| jC <| jr [bk b_16 45 [iv n_24, iv n_22, str []], mb b_1 x_20 m_21] 3 mixed (by simp) <| jh 0 rfl (jc 1 x_20 m_21 rfl rfl) <| jh 1 rfl (jX 0 (vs := [iv n_24, iv n_22, str []]) rfl rfl gA kr rfl rfl) <| jQ (i := 2) ?_
        refine jY rfl rfl (jm 5 x_20 m_21 rfl rfl rfl rfl) ?_
        rintro _ _ rfl
        refine ⟨(by simp), ?_⟩
        refine jQ (i := 3) ?_
        refine jx rfl (jT 4 (vs := [iv n_24, iv n_22, str []]) (cs' := [iv n_24, iv n_22, str []]) rfl rfl rfl rfl kr rfl rfl (lb rfl) rfl) ?_
        rintro _ _ rfl
        refine jB <| jL <| kB (.inl rfl) rfl (je (jc 5 x_20 m_21 rfl rfl) ⟨_, rfl⟩) (je (jX 4 (vs := [iv n_24, iv n_22, str []]) rfl rfl gA kr rfl rfl) ⟨_, rfl⟩) (tS 3 _) ?_
        exact ⟨x_20, m_21, (⟨n_24, n_22, []⟩ : AN), (by simp only [MS.doCall, MS.doKind, e_5, h_11, e_12, h_15, h_17, e_18, SB]; (repeat (first | rw [if_pos (by omega)] | rw [if_neg (by omega)])); all_goals (first | rfl | simp only [SB, e_5, h_11, e_12, h_15, h_17, e_18])), (k_19.mono (by omega) (by omega)), (by (try dsimp only); (try simp only [List.length_nil]); omega), rfl, rfl⟩
      refine jP (cB (dF h_17)) <| jC <| jE <| jA (jw rfl rfl) <| jA (jG (v := .bool (decide (c.kind = 2))) rfl) <| jD <| jB ?_
      by_cases h_26 : c.kind = 2
      · refine jO (cB (dT h_26)) <| jE <| jK (jc 7 x_7 m_8 rfl rfl) <| jA (jJ fo51_1 rfl) <| jK (jV 6 (v := str c.name) rfl rfl kv rfl) <| jA (jJ fo51_2 rfl) <| jK (jV 6 (v := str c.to_) rfl rfl kv rfl) ?_
        refine jH rfl (jM [1, 1, 1] Tryz.call152 rfl (M_linkName x_7 m_8 k_6 (by omega) (by omega) c.name c.to_ (by omega) (by omega)) rfl (fun _ _ => trivial)) ?_
        rintro _ _ ⟨_, ⟨x_29, m_30, n_31, e_27, k_28, f_32, rfl, rfl⟩, rfl⟩
        refine jA (jF (v := .tuple #[mv x_29 m_30, iv n_31]) rfl) <| jA (jb (v := mv x_29 m_30) rfl rfl) <| jA (jb (v := iv n_31) rfl rfl) ?_
        refine jH rfl (jm 7 x_29 m_30 rfl rfl rfl rfl) ?_
        rintro _ _ rfl
        refine jA (jJ fo45_0 rfl) ?_
        refine jH rfl (jT 3 (vs := [iv n_31]) (cs' := [iv n_31, iv 0, str []]) rfl rfl rfl rfl kt rfl rfl (lb rfl) rfl) ?_
        rintro _ _ rfl
        refine jD <| jk <| jB <| jC <| jr [bk b_16 45 [iv n_31, iv 0, str []], mb b_1 x_29 m_30] 3 mixed (by simp) <| jh 0 rfl (jc 1 x_29 m_30 rfl rfl) <| jh 1 rfl (jX 0 (vs := [iv n_31, iv 0, str []]) rfl rfl gA kr rfl rfl) <| jQ (i := 2) ?_
        refine jY rfl rfl (jm 5 x_29 m_30 rfl rfl rfl rfl) ?_
        rintro _ _ rfl
        refine ⟨(by simp), ?_⟩
        refine jQ (i := 3) ?_
        refine jx rfl (jT 4 (vs := [iv n_31, iv 0, str []]) (cs' := [iv n_31, iv 0, str []]) rfl rfl rfl rfl kr rfl rfl (lb rfl) rfl) ?_
        rintro _ _ rfl
        refine jB <| jL <| kB (.inl rfl) rfl (je (jc 5 x_29 m_30 rfl rfl) ⟨_, rfl⟩) (je (jX 4 (vs := [iv n_31, iv 0, str []]) rfl rfl gA kr rfl rfl) ⟨_, rfl⟩) (tS 3 _) ?_
        exact ⟨x_29, m_30, (⟨n_31, 0, []⟩ : AN), (by simp only [MS.doCall, MS.doKind, e_5, h_11, e_12, h_15, h_17, h_26, e_27, SB]; (repeat (first | rw [if_pos (by omega)] | rw [if_neg (by omega)])); all_goals (first | rfl | simp only [SB, e_5, h_11, e_12, h_15, h_17, h_26, e_27])), (k_28.mono (by omega) (by omega)), (by (try dsimp only); (try simp only [List.length_nil]); omega), rfl, rfl⟩
      refine jP (cB (dF h_26)) <| jC <| jE <| jA (jw rfl rfl) <| jA (jG (v := .bool (decide (c.kind = 3))) rfl) <| jD <| jB ?_
      by_cases h_33 : c.kind = 3
      · refine jO (cB (dT h_33)) <| jE <| jK (jc 7 x_7 m_8 rfl rfl) <| jA (jJ fo51_1 rfl) <| jK (jV 6 (v := str c.name) rfl rfl kv rfl) ?_
        refine jH rfl (jM [1, 1, 1] Tryz.call153 rfl (M_unlinkName x_7 m_8 k_6 (by omega) (by omega) c.name (by omega)) rfl (fun _ _ => trivial)) ?_
        rintro _ _ ⟨_, ⟨x_36, m_37, n_38, e_34, k_35, f_39, rfl, rfl⟩, rfl⟩
        refine jA (jF (v := .tuple #[mv x_36 m_37, iv n_38]) rfl) <| jA (jb (v := mv x_36 m_37) rfl rfl) <| jA (jb (v := iv n_38) rfl rfl) ?_
        refine jH rfl (jm 7 x_36 m_37 rfl rfl rfl rfl) ?_
        rintro _ _ rfl
        refine jA (jJ fo45_0 rfl) ?_
        refine jH rfl (jT 3 (vs := [iv n_38]) (cs' := [iv n_38, iv 0, str []]) rfl rfl rfl rfl kt rfl rfl (lb rfl) rfl) ?_
        rintro _ _ rfl
        refine jD <| jk <| jB <| jC <| jr [bk b_16 45 [iv n_38, iv 0, str []], mb b_1 x_36 m_37] 3 mixed (by simp) <| jh 0 rfl (jc 1 x_36 m_37 rfl rfl) <| jh 1 rfl (jX 0 (vs := [iv n_38, iv 0, str []]) rfl rfl gA kr rfl rfl) <| jQ (i := 2) ?_
        refine jY rfl rfl (jm 5 x_36 m_37 rfl rfl rfl rfl) ?_
        rintro _ _ rfl
        refine ⟨(by simp), ?_⟩
        refine jQ (i := 3) ?_
        refine jx rfl (jT 4 (vs := [iv n_38, iv 0, str []]) (cs' := [iv n_38, iv 0, str []]) rfl rfl rfl rfl kr rfl rfl (lb rfl) rfl) ?_
        rintro _ _ rfl
        refine jB <| jL <| kB (.inl rfl) rfl (je (jc 5 x_36 m_37 rfl rfl) ⟨_, rfl⟩) (je (jX 4 (vs := [iv n_38, iv 0, str []]) rfl rfl gA kr rfl rfl) ⟨_, rfl⟩) (tS 3 _) ?_
        exact ⟨x_36, m_37, (⟨n_38, 0, []⟩ : AN), (by simp only [MS.doCall, MS.doKind, e_5, h_11, e_12, h_15, h_17, h_26, h_33, e_34, SB]; (repeat (first | rw [if_pos (by omega)] | rw [if_neg (by omega)])); all_goals (first | rfl | simp only [SB, e_5, h_11, e_12, h_15, h_17, h_26, h_33, e_34])), (k_35.mono (by omega) (by omega)), (by (try dsimp only); (try simp only [List.length_nil]); omega), rfl, rfl⟩
      refine jP (cB (dF h_33)) <| jC <| jE <| jA (jw rfl rfl) <| jA (jG (v := .bool (decide (c.kind = 4))) rfl) <| jD <| jB ?_
      by_cases h_40 : c.kind = 4
      · refine jO (cB (dT h_40)) <| jE <| jK (jc 7 x_7 m_8 rfl rfl) <| jA (jJ fo51_1 rfl) <| jK (jV 6 (v := str c.name) rfl rfl kv rfl) <| jA (jJ fo51_2 rfl) <| jK (jV 6 (v := str c.to_) rfl rfl kv rfl) ?_
        refine jH rfl (jM [1, 1, 1] Tryz.call154 rfl (M_renameName x_7 m_8 k_6 (by omega) (by omega) c.name c.to_ (by omega) (by omega)) rfl (fun _ _ => trivial)) ?_
        rintro _ _ ⟨_, ⟨x_43, m_44, n_45, e_41, k_42, f_46, rfl, rfl⟩, rfl⟩
        refine jA (jF (v := .tuple #[mv x_43 m_44, iv n_45]) rfl) <| jA (jb (v := mv x_43 m_44) rfl rfl) <| jA (jb (v := iv n_45) rfl rfl) ?_
        refine jH rfl (jm 7 x_43 m_44 rfl rfl rfl rfl) ?_
        rintro _ _ rfl
        refine jA (jJ fo45_0 rfl) ?_
        refine jH rfl (jT 3 (vs := [iv n_45]) (cs' := [iv n_45, iv 0, str []]) rfl rfl rfl rfl kt rfl rfl (lb rfl) rfl) ?_
        rintro _ _ rfl
        refine jD <| jk <| jB <| jC <| jr [bk b_16 45 [iv n_45, iv 0, str []], mb b_1 x_43 m_44] 3 mixed (by simp) <| jh 0 rfl (jc 1 x_43 m_44 rfl rfl) <| jh 1 rfl (jX 0 (vs := [iv n_45, iv 0, str []]) rfl rfl gA kr rfl rfl) <| jQ (i := 2) ?_
        refine jY rfl rfl (jm 5 x_43 m_44 rfl rfl rfl rfl) ?_
        rintro _ _ rfl
        refine ⟨(by simp), ?_⟩
        refine jQ (i := 3) ?_
        refine jx rfl (jT 4 (vs := [iv n_45, iv 0, str []]) (cs' := [iv n_45, iv 0, str []]) rfl rfl rfl rfl kr rfl rfl (lb rfl) rfl) ?_
        rintro _ _ rfl
        refine jB <| jL <| kB (.inl rfl) rfl (je (jc 5 x_43 m_44 rfl rfl) ⟨_, rfl⟩) (je (jX 4 (vs := [iv n_45, iv 0, str []]) rfl rfl gA kr rfl rfl) ⟨_, rfl⟩) (tS 3 _) ?_
        exact ⟨x_43, m_44, (⟨n_45, 0, []⟩ : AN), (by simp only [MS.doCall, MS.doKind, *, SB]; (repeat (first | rw [if_pos (by omega)] | rw [if_neg (by omega)])); all_goals (first | rfl | simp only [SB, *])), (k_42.mono (by omega) (by omega)), (by (try dsimp only); (try simp only [List.length_nil]); omega), rfl, rfl⟩
      refine jP (cB (dF h_40)) <| jC <| jE <| jA (jw rfl rfl) <| jA (jG (v := .bool (decide (c.kind = 5))) rfl) <| jD <| jB ?_
      by_cases h_47 : c.kind = 5
      · refine jO (cB (dT h_47)) <| jC <| jE <| jK (jc 7 x_7 m_8 rfl rfl) ?_
        refine jH rfl (jM [1, 1, 1] Tryz.call155 rfl (M_doNames x_7 m_8 k_6 (by omega) (by omega)) rfl (fun _ _ => trivial)) ?_
        rintro _ _ ⟨_, ⟨x_50, m_51, A_52, e_48, k_49, f_53, rfl, rfl⟩, rfl⟩
        refine jA (jb (v := mv x_50 m_51) rfl rfl) <| jA (jb (v := .agg #[iv A_52.code, iv A_52.n, str A_52.text]) rfl rfl) ?_
        refine jH rfl (jm 5 x_50 m_51 rfl rfl rfl rfl) ?_
        rintro _ _ rfl
        refine jH rfl (jT 4 (vs := [iv A_52.code, iv A_52.n, str A_52.text]) (cs' := [iv A_52.code, iv A_52.n, str A_52.text]) rfl rfl rfl rfl kr rfl rfl (lb rfl) rfl) ?_
        rintro _ _ rfl
        refine jD <| jB <| jL <| jq <| jW <| kB (.inl rfl) rfl (je (jc 5 x_50 m_51 rfl rfl) ⟨_, rfl⟩) (je (jX 4 (vs := [iv A_52.code, iv A_52.n, str A_52.text]) rfl rfl gA kr rfl rfl) ⟨_, rfl⟩) (tS 3 _) ?_
        exact ⟨x_50, m_51, A_52, (by simp only [MS.doCall, MS.doKind, *, SB]; (repeat (first | rw [if_pos (by omega)] | rw [if_neg (by omega)])); all_goals (first | rfl | simp only [SB, *])), (k_49.mono (by omega) (by omega)), (by (try dsimp only); (try simp only [List.length_nil]); omega), rfl, rfl⟩
      refine jP (cB (dF h_47)) <| jC <| jC <| jE <| jA (jw rfl rfl) <| jA (jG (v := .bool (decide (c.kind = 6))) rfl) <| jD <| jB ?_
      by_cases h_54 : c.kind = 6
      · refine jO (cB (dT h_54)) <| jU <| jB <| jO (cB (dT h_54)) <| jC <| jE <| jK (jc 7 x_7 m_8 rfl rfl) <| jK (jX 6 (vs := [iv c.kind, str c.name, str c.to_, iv c.a, iv c.b, str c.text]) rfl rfl ku ko rfl rfl) ?_
        refine jH rfl (jM [1, 1, 1] Tryz.call156 rfl (M_doFile x_7 m_8 k_6 (by omega) (by omega) c hc) rfl (fun _ _ => trivial)) ?_
        rintro _ _ ⟨_, ⟨x_57, m_58, A_59, e_55, k_56, f_60, rfl, rfl⟩, rfl⟩
        refine jA (jb (v := mv x_57 m_58) rfl rfl) <| jA (jb (v := .agg #[iv A_59.code, iv A_59.n, str A_59.text]) rfl rfl) ?_
        refine jH rfl (jm 5 x_57 m_58 rfl rfl rfl rfl) ?_
        rintro _ _ rfl
        refine jH rfl (jT 4 (vs := [iv A_59.code, iv A_59.n, str A_59.text]) (cs' := [iv A_59.code, iv A_59.n, str A_59.text]) rfl rfl rfl rfl kr rfl rfl (lb rfl) rfl) ?_
        rintro _ _ rfl
        refine jD <| jB <| jL <| jq <| jW <| kB (.inl rfl) rfl (je (jc 5 x_57 m_58 rfl rfl) ⟨_, rfl⟩) (je (jX 4 (vs := [iv A_59.code, iv A_59.n, str A_59.text]) rfl rfl gA kr rfl rfl) ⟨_, rfl⟩) (tS 3 _) ?_
        exact ⟨x_57, m_58, A_59, (by simp only [MS.doCall, MS.doKind, *, SB]; (repeat (first | rw [if_pos (by omega)] | rw [if_neg (by omega)])); all_goals (first | rfl | simp only [SB, *])), (k_56.mono (by omega) (by omega)), (by (try dsimp only); (try simp only [List.length_nil]); omega), rfl, rfl⟩
      refine jP (cB (dF h_54)) <| jC <| jE <| jA (jw rfl rfl) <| jA (jG (v := .bool (decide (c.kind = 7))) rfl) <| jD <| jB ?_
      by_cases h_61 : c.kind = 7
      · refine jO (cB (dT h_61)) <| jU <| jB <| jO (cB (dT h_61)) <| jC <| jE <| jK (jc 7 x_7 m_8 rfl rfl) <| jK (jX 6 (vs := [iv c.kind, str c.name, str c.to_, iv c.a, iv c.b, str c.text]) rfl rfl ku ko rfl rfl) ?_
        refine jH rfl (jM [1, 1, 1] Tryz.call156 rfl (M_doFile x_7 m_8 k_6 (by omega) (by omega) c hc) rfl (fun _ _ => trivial)) ?_
        rintro _ _ ⟨_, ⟨x_64, m_65, A_66, e_62, k_63, f_67, rfl, rfl⟩, rfl⟩
        refine jA (jb (v := mv x_64 m_65) rfl rfl) <| jA (jb (v := .agg #[iv A_66.code, iv A_66.n, str A_66.text]) rfl rfl) ?_
        refine jH rfl (jm 5 x_64 m_65 rfl rfl rfl rfl) ?_
        rintro _ _ rfl
        refine jH rfl (jT 4 (vs := [iv A_66.code, iv A_66.n, str A_66.text]) (cs' := [iv A_66.code, iv A_66.n, str A_66.text]) rfl rfl rfl rfl kr rfl rfl (lb rfl) rfl) ?_
        rintro _ _ rfl
        refine jD <| jB <| jL <| jq <| jW <| kB (.inl rfl) rfl (je (jc 5 x_64 m_65 rfl rfl) ⟨_, rfl⟩) (je (jX 4 (vs := [iv A_66.code, iv A_66.n, str A_66.text]) rfl rfl gA kr rfl rfl) ⟨_, rfl⟩) (tS 3 _) ?_
        exact ⟨x_64, m_65, A_66, (by simp only [MS.doCall, MS.doKind, *, SB]; (repeat (first | rw [if_pos (by omega)] | rw [if_neg (by omega)])); all_goals (first | rfl | simp only [SB, *])), (k_63.mono (by omega) (by omega)), (by (try dsimp only); (try simp only [List.length_nil]); omega), rfl, rfl⟩
      refine jP (cB (dF h_61)) <| jE <| jA (jw rfl rfl) <| jA (jG (v := .bool (decide (c.kind = 8))) rfl) <| jD <| jB ?_
      by_cases h_68 : c.kind = 8
      · refine jO (cB (dT h_68)) <| jC <| jE <| jK (jc 7 x_7 m_8 rfl rfl) <| jK (jX 6 (vs := [iv c.kind, str c.name, str c.to_, iv c.a, iv c.b, str c.text]) rfl rfl ku ko rfl rfl) ?_
        refine jH rfl (jM [1, 1, 1] Tryz.call156 rfl (M_doFile x_7 m_8 k_6 (by omega) (by omega) c hc) rfl (fun _ _ => trivial)) ?_
        rintro _ _ ⟨_, ⟨x_71, m_72, A_73, e_69, k_70, f_74, rfl, rfl⟩, rfl⟩
        refine jA (jb (v := mv x_71 m_72) rfl rfl) <| jA (jb (v := .agg #[iv A_73.code, iv A_73.n, str A_73.text]) rfl rfl) ?_
        refine jH rfl (jm 5 x_71 m_72 rfl rfl rfl rfl) ?_
        rintro _ _ rfl
        refine jH rfl (jT 4 (vs := [iv A_73.code, iv A_73.n, str A_73.text]) (cs' := [iv A_73.code, iv A_73.n, str A_73.text]) rfl rfl rfl rfl kr rfl rfl (lb rfl) rfl) ?_
        rintro _ _ rfl
        refine jD <| jB <| jL <| jq <| jW <| kB (.inl rfl) rfl (je (jc 5 x_71 m_72 rfl rfl) ⟨_, rfl⟩) (je (jX 4 (vs := [iv A_73.code, iv A_73.n, str A_73.text]) rfl rfl gA kr rfl rfl) ⟨_, rfl⟩) (tS 3 _) ?_
        exact ⟨x_71, m_72, A_73, (by simp only [MS.doCall, MS.doKind, *, SB]; (repeat (first | rw [if_pos (by omega)] | rw [if_neg (by omega)])); all_goals (first | rfl | simp only [SB, *])), (k_70.mono (by omega) (by omega)), (by (try dsimp only); (try simp only [List.length_nil]); omega), rfl, rfl⟩
      refine jP (cB (dF h_68)) <| jC <| jE <| jA (jw rfl rfl) <| jA (jG (v := .bool (decide (c.kind = 9))) rfl) <| jD <| jB ?_
      by_cases h_75 : c.kind = 9
      · refine jO (cB (dT h_75)) <| jE <| jK (jc 7 x_7 m_8 rfl rfl) ?_
        refine jH rfl (jM [1, 1, 1] Tryz.call157 rfl (M_makePipe x_7 m_8 k_6 (by omega) (by omega)) rfl (fun _ _ => trivial)) ?_
        rintro _ _ ⟨_, ⟨x_78, m_79, n_80, n_82, e_76, k_77, f_81, f_83, rfl, rfl⟩, rfl⟩
        refine jA (jF (v := .tuple #[mv x_78 m_79, iv n_80, iv n_82]) rfl) <| jA (jb (v := mv x_78 m_79) rfl rfl) <| jA (jb (v := iv n_80) rfl rfl) <| jA (jb (v := iv n_82) rfl rfl) ?_
        refine jH rfl (jm 7 x_78 m_79 rfl rfl rfl rfl) ?_
        rintro _ _ rfl
        refine jA (jJ fo45_1 rfl) ?_
        refine jH rfl (jT 3 (vs := [iv n_80]) (cs' := [iv 0, iv n_80, str []]) rfl rfl rfl rfl kt rfl rfl (lb rfl) rfl) ?_
        rintro _ _ rfl
        refine jA (jJ fo45_0 rfl) ?_
        refine jH rfl (jT 3 (vs := [iv n_82]) (cs' := [iv n_82, iv n_80, str []]) rfl rfl rfl rfl kt rfl rfl (lb rfl) rfl) ?_
        rintro _ _ rfl
        refine jD <| jk <| jB <| jC <| jr [bk b_16 45 [iv n_82, iv n_80, str []], mb b_1 x_78 m_79] 3 mixed (by simp) <| jh 0 rfl (jc 1 x_78 m_79 rfl rfl) <| jh 1 rfl (jX 0 (vs := [iv n_82, iv n_80, str []]) rfl rfl gA kr rfl rfl) <| jQ (i := 2) ?_
        refine jY rfl rfl (jm 5 x_78 m_79 rfl rfl rfl rfl) ?_
        rintro _ _ rfl
        refine ⟨(by simp), ?_⟩
        refine jQ (i := 3) ?_
        refine jx rfl (jT 4 (vs := [iv n_82, iv n_80, str []]) (cs' := [iv n_82, iv n_80, str []]) rfl rfl rfl rfl kr rfl rfl (lb rfl) rfl) ?_
        rintro _ _ rfl
        refine jB <| jL <| kB (.inl rfl) rfl (je (jc 5 x_78 m_79 rfl rfl) ⟨_, rfl⟩) (je (jX 4 (vs := [iv n_82, iv n_80, str []]) rfl rfl gA kr rfl rfl) ⟨_, rfl⟩) (tS 3 _) ?_
        exact ⟨x_78, m_79, (⟨n_82, n_80, []⟩ : AN), (by simp only [MS.doCall, MS.doKind, *, SB]; (repeat (first | rw [if_pos (by omega)] | rw [if_neg (by omega)])); all_goals (first | rfl | simp only [SB, *])), (k_77.mono (by omega) (by omega)), (by (try dsimp only); (try simp only [List.length_nil]); omega), rfl, rfl⟩
      refine jP (cB (dF h_75)) <| jC <| jE <| jA (jw rfl rfl) <| jA (jG (v := .bool (decide (c.kind = 10))) rfl) <| jD <| jB ?_
      by_cases h_84 : c.kind = 10
      · refine jO (cB (dT h_84)) <| jE <| jK (jc 7 x_7 m_8 rfl rfl) <| jA (jJ fo51_3 rfl) <| jK (jV 6 (v := iv c.a) rfl rfl kp rfl) <| jA (jJ fo51_5 rfl) <| jK (jV 6 (v := str c.text) rfl rfl kv rfl) ?_
        refine jH rfl (jM [1, 1, 1] Tryz.call158 rfl (M_putPipe x_7 m_8 k_6 (by omega) (by omega) c.a c.text (by omega) (by omega)) rfl (fun _ _ => trivial)) ?_
        rintro _ _ ⟨_, ⟨x_87, m_88, n_89, e_85, k_86, f_90, rfl, rfl⟩, rfl⟩
        refine jA (jF (v := .tuple #[mv x_87 m_88, iv n_89]) rfl) <| jA (jb (v := mv x_87 m_88) rfl rfl) <| jA (jb (v := iv n_89) rfl rfl) ?_
        refine jH rfl (jm 7 x_87 m_88 rfl rfl rfl rfl) ?_
        rintro _ _ rfl
        refine jA (jJ fo45_0 rfl) ?_
        refine jH rfl (jT 3 (vs := [iv n_89]) (cs' := [iv n_89, iv 0, str []]) rfl rfl rfl rfl kt rfl rfl (lb rfl) rfl) ?_
        rintro _ _ rfl
        refine jD <| jk <| jB <| jC <| jr [bk b_16 45 [iv n_89, iv 0, str []], mb b_1 x_87 m_88] 3 mixed (by simp) <| jh 0 rfl (jc 1 x_87 m_88 rfl rfl) <| jh 1 rfl (jX 0 (vs := [iv n_89, iv 0, str []]) rfl rfl gA kr rfl rfl) <| jQ (i := 2) ?_
        refine jY rfl rfl (jm 5 x_87 m_88 rfl rfl rfl rfl) ?_
        rintro _ _ rfl
        refine ⟨(by simp), ?_⟩
        refine jQ (i := 3) ?_
        refine jx rfl (jT 4 (vs := [iv n_89, iv 0, str []]) (cs' := [iv n_89, iv 0, str []]) rfl rfl rfl rfl kr rfl rfl (lb rfl) rfl) ?_
        rintro _ _ rfl
        refine jB <| jL <| kB (.inl rfl) rfl (je (jc 5 x_87 m_88 rfl rfl) ⟨_, rfl⟩) (je (jX 4 (vs := [iv n_89, iv 0, str []]) rfl rfl gA kr rfl rfl) ⟨_, rfl⟩) (tS 3 _) ?_
        exact ⟨x_87, m_88, (⟨n_89, 0, []⟩ : AN), (by simp only [MS.doCall, MS.doKind, *, SB]; (repeat (first | rw [if_pos (by omega)] | rw [if_neg (by omega)])); all_goals (first | rfl | simp only [SB, *])), (k_86.mono (by omega) (by omega)), (by (try dsimp only); (try simp only [List.length_nil]); omega), rfl, rfl⟩
      refine jP (cB (dF h_84)) <| jC <| jE <| jA (jw rfl rfl) <| jA (jG (v := .bool (decide (c.kind = 11))) rfl) <| jD <| jB ?_
      by_cases h_91 : c.kind = 11
      · refine jO (cB (dT h_91)) <| jE <| jK (jc 7 x_7 m_8 rfl rfl) <| jA (jJ fo51_3 rfl) <| jK (jV 6 (v := iv c.a) rfl rfl kp rfl) ?_
        refine jH rfl (jM [1, 1, 1] Tryz.call159 rfl (M_takePipe x_7 m_8 k_6 (by omega) (by omega) c.a (by omega)) rfl (fun _ _ => trivial)) ?_
        rintro _ _ ⟨_, ⟨x_94, m_95, u_96, n_98, e_92, k_93, f_97, f_99, rfl, rfl⟩, rfl⟩
        refine jA (jF (v := .tuple #[mv x_94 m_95, str u_96, iv n_98]) rfl) <| jA (jb (v := mv x_94 m_95) rfl rfl) <| jA (jb (v := str u_96) rfl rfl) <| jA (jb (v := iv n_98) rfl rfl) ?_
        refine jH rfl (jm 7 x_94 m_95 rfl rfl rfl rfl) ?_
        rintro _ _ rfl
        refine jA (jJ fo45_2 rfl) ?_
        refine jH rfl (jT 3 (vs := [str u_96]) (cs' := [iv 0, iv 0, str u_96]) rfl rfl rfl rfl kw rfl rfl (lb rfl) rfl) ?_
        rintro _ _ rfl
        refine jA (jJ fo45_0 rfl) ?_
        refine jH rfl (jT 3 (vs := [iv n_98]) (cs' := [iv n_98, iv 0, str u_96]) rfl rfl rfl rfl kt rfl rfl (lb rfl) rfl) ?_
        rintro _ _ rfl
        refine jD <| jk <| jB <| jC <| jr [bk b_16 45 [iv n_98, iv 0, str u_96], mb b_1 x_94 m_95] 3 mixed (by simp) <| jh 0 rfl (jc 1 x_94 m_95 rfl rfl) <| jh 1 rfl (jX 0 (vs := [iv n_98, iv 0, str u_96]) rfl rfl gA kr rfl rfl) <| jQ (i := 2) ?_
        refine jY rfl rfl (jm 5 x_94 m_95 rfl rfl rfl rfl) ?_
        rintro _ _ rfl
        refine ⟨(by simp), ?_⟩
        refine jQ (i := 3) ?_
        refine jx rfl (jT 4 (vs := [iv n_98, iv 0, str u_96]) (cs' := [iv n_98, iv 0, str u_96]) rfl rfl rfl rfl kr rfl rfl (lb rfl) rfl) ?_
        rintro _ _ rfl
        refine jB <| jL <| kB (.inl rfl) rfl (je (jc 5 x_94 m_95 rfl rfl) ⟨_, rfl⟩) (je (jX 4 (vs := [iv n_98, iv 0, str u_96]) rfl rfl gA kr rfl rfl) ⟨_, rfl⟩) (tS 3 _) ?_
        exact ⟨x_94, m_95, (⟨n_98, 0, u_96⟩ : AN), (by simp only [MS.doCall, MS.doKind, *, SB]; (repeat (first | rw [if_pos (by omega)] | rw [if_neg (by omega)])); all_goals (first | rfl | simp only [SB, *])), (k_93.mono (by omega) (by omega)), (by (try dsimp only); (try simp only [List.length_nil]); omega), rfl, rfl⟩
      refine jP (cB (dF h_91)) <| jC <| jE <| jA (jw rfl rfl) <| jA (jG (v := .bool (decide (c.kind = 16))) rfl) <| jD <| jB ?_
      by_cases h_100 : c.kind = 16
      · refine jO (cB (dT h_100)) <| jE <| jK (jc 7 x_7 m_8 rfl rfl) <| jA (jJ fo51_3 rfl) <| jK (jV 6 (v := iv c.a) rfl rfl kp rfl) <| jA (jJ fo51_4 rfl) <| jK (jV 6 (v := iv c.b) rfl rfl kp rfl) ?_
        refine jH rfl (jM [1, 1, 1] Tryz.call160 rfl (M_send x_7 m_8 k_6 (by omega) (by omega) c.a c.b (by omega) (by omega)) rfl (fun _ _ => trivial)) ?_
        rintro _ _ ⟨_, ⟨x_103, m_104, n_105, e_101, k_102, f_106, rfl, rfl⟩, rfl⟩
        refine jA (jF (v := .tuple #[mv x_103 m_104, iv n_105]) rfl) <| jA (jb (v := mv x_103 m_104) rfl rfl) <| jA (jb (v := iv n_105) rfl rfl) ?_
        refine jH rfl (jm 7 x_103 m_104 rfl rfl rfl rfl) ?_
        rintro _ _ rfl
        refine jA (jJ fo45_0 rfl) ?_
        refine jH rfl (jT 3 (vs := [iv n_105]) (cs' := [iv n_105, iv 0, str []]) rfl rfl rfl rfl kt rfl rfl (lb rfl) rfl) ?_
        rintro _ _ rfl
        refine jD <| jk <| jB <| jC <| jr [bk b_16 45 [iv n_105, iv 0, str []], mb b_1 x_103 m_104] 3 mixed (by simp) <| jh 0 rfl (jc 1 x_103 m_104 rfl rfl) <| jh 1 rfl (jX 0 (vs := [iv n_105, iv 0, str []]) rfl rfl gA kr rfl rfl) <| jQ (i := 2) ?_
        refine jY rfl rfl (jm 5 x_103 m_104 rfl rfl rfl rfl) ?_
        rintro _ _ rfl
        refine ⟨(by simp), ?_⟩
        refine jQ (i := 3) ?_
        refine jx rfl (jT 4 (vs := [iv n_105, iv 0, str []]) (cs' := [iv n_105, iv 0, str []]) rfl rfl rfl rfl kr rfl rfl (lb rfl) rfl) ?_
        rintro _ _ rfl
        refine jB <| jL <| kB (.inl rfl) rfl (je (jc 5 x_103 m_104 rfl rfl) ⟨_, rfl⟩) (je (jX 4 (vs := [iv n_105, iv 0, str []]) rfl rfl gA kr rfl rfl) ⟨_, rfl⟩) (tS 3 _) ?_
        exact ⟨x_103, m_104, (⟨n_105, 0, []⟩ : AN), (by simp only [MS.doCall, MS.doKind, *, SB]; (repeat (first | rw [if_pos (by omega)] | rw [if_neg (by omega)])); all_goals (first | rfl | simp only [SB, *])), (k_102.mono (by omega) (by omega)), (by (try dsimp only); (try simp only [List.length_nil]); omega), rfl, rfl⟩
      refine jP (cB (dF h_100)) <| jC <| jE <| jA (jw rfl rfl) <| jA (jG (v := .bool (decide (c.kind = 17))) rfl) <| jD <| jB ?_
      by_cases h_107 : c.kind = 17
      · refine jO (cB (dT h_107)) <| jE <| jK (jc 7 x_7 m_8 rfl rfl) <| jA (jF (v := iv proc) rfl) ?_
        refine jH rfl (jM [1, 1, 1] Tryz.call161 rfl (M_takeSignal x_7 m_8 k_6 (by omega) (by omega) proc (by omega)) rfl (fun _ _ => trivial)) ?_
        rintro _ _ ⟨_, ⟨x_110, m_111, n_112, n_114, e_108, k_109, f_113, f_115, rfl, rfl⟩, rfl⟩
        refine jA (jF (v := .tuple #[mv x_110 m_111, iv n_112, iv n_114]) rfl) <| jA (jb (v := mv x_110 m_111) rfl rfl) <| jA (jb (v := iv n_112) rfl rfl) <| jA (jb (v := iv n_114) rfl rfl) ?_
        refine jH rfl (jm 7 x_110 m_111 rfl rfl rfl rfl) ?_
        rintro _ _ rfl
        refine jA (jJ fo45_1 rfl) ?_
        refine jH rfl (jT 3 (vs := [iv n_112]) (cs' := [iv 0, iv n_112, str []]) rfl rfl rfl rfl kt rfl rfl (lb rfl) rfl) ?_
        rintro _ _ rfl
        refine jA (jJ fo45_0 rfl) ?_
        refine jH rfl (jT 3 (vs := [iv n_114]) (cs' := [iv n_114, iv n_112, str []]) rfl rfl rfl rfl kt rfl rfl (lb rfl) rfl) ?_
        rintro _ _ rfl
        refine jD <| jk <| jB <| jC <| jr [bk b_16 45 [iv n_114, iv n_112, str []], mb b_1 x_110 m_111] 3 mixed (by simp) <| jh 0 rfl (jc 1 x_110 m_111 rfl rfl) <| jh 1 rfl (jX 0 (vs := [iv n_114, iv n_112, str []]) rfl rfl gA kr rfl rfl) <| jQ (i := 2) ?_
        refine jY rfl rfl (jm 5 x_110 m_111 rfl rfl rfl rfl) ?_
        rintro _ _ rfl
        refine ⟨(by simp), ?_⟩
        refine jQ (i := 3) ?_
        refine jx rfl (jT 4 (vs := [iv n_114, iv n_112, str []]) (cs' := [iv n_114, iv n_112, str []]) rfl rfl rfl rfl kr rfl rfl (lb rfl) rfl) ?_
        rintro _ _ rfl
        refine jB <| jL <| kB (.inl rfl) rfl (je (jc 5 x_110 m_111 rfl rfl) ⟨_, rfl⟩) (je (jX 4 (vs := [iv n_114, iv n_112, str []]) rfl rfl gA kr rfl rfl) ⟨_, rfl⟩) (tS 3 _) ?_
        exact ⟨x_110, m_111, (⟨n_114, n_112, []⟩ : AN), (by simp only [MS.doCall, MS.doKind, *, SB]; (repeat (first | rw [if_pos (by omega)] | rw [if_neg (by omega)])); all_goals (first | rfl | simp only [SB, *])), (k_109.mono (by omega) (by omega)), (by (try dsimp only); (try simp only [List.length_nil]); omega), rfl, rfl⟩
      refine jP (cB (dF h_107)) <| jC <| jE <| jA (jw rfl rfl) <| jA (jG (v := .bool (decide (c.kind = 18))) rfl) <| jD <| jB ?_
      by_cases h_116 : c.kind = 18
      · refine jO (cB (dT h_116)) <| jE <| jK (jc 7 x_7 m_8 rfl rfl) <| jA (jF (v := iv proc) rfl) <| jA (jJ fo51_3 rfl) <| jK (jV 6 (v := iv c.a) rfl rfl kp rfl) ?_
        refine jH rfl (jM [1, 1, 1] Tryz.call162 rfl (M_setTimer x_7 m_8 k_6 (by omega) (by omega) proc c.a (by omega) (by omega)) rfl (fun _ _ => trivial)) ?_
        rintro _ _ ⟨_, ⟨x_119, m_120, n_121, e_117, k_118, f_122, rfl, rfl⟩, rfl⟩
        refine jA (jF (v := .tuple #[mv x_119 m_120, iv n_121]) rfl) <| jA (jb (v := mv x_119 m_120) rfl rfl) <| jA (jb (v := iv n_121) rfl rfl) ?_
        refine jH rfl (jm 7 x_119 m_120 rfl rfl rfl rfl) ?_
        rintro _ _ rfl
        refine jA (jJ fo45_0 rfl) ?_
        refine jH rfl (jT 3 (vs := [iv n_121]) (cs' := [iv n_121, iv 0, str []]) rfl rfl rfl rfl kt rfl rfl (lb rfl) rfl) ?_
        rintro _ _ rfl
        refine jD <| jk <| jB <| jC <| jr [bk b_16 45 [iv n_121, iv 0, str []], mb b_1 x_119 m_120] 3 mixed (by simp) <| jh 0 rfl (jc 1 x_119 m_120 rfl rfl) <| jh 1 rfl (jX 0 (vs := [iv n_121, iv 0, str []]) rfl rfl gA kr rfl rfl) <| jQ (i := 2) ?_
        refine jY rfl rfl (jm 5 x_119 m_120 rfl rfl rfl rfl) ?_
        rintro _ _ rfl
        refine ⟨(by simp), ?_⟩
        refine jQ (i := 3) ?_
        refine jx rfl (jT 4 (vs := [iv n_121, iv 0, str []]) (cs' := [iv n_121, iv 0, str []]) rfl rfl rfl rfl kr rfl rfl (lb rfl) rfl) ?_
        rintro _ _ rfl
        refine jB <| jL <| kB (.inl rfl) rfl (je (jc 5 x_119 m_120 rfl rfl) ⟨_, rfl⟩) (je (jX 4 (vs := [iv n_121, iv 0, str []]) rfl rfl gA kr rfl rfl) ⟨_, rfl⟩) (tS 3 _) ?_
        exact ⟨x_119, m_120, (⟨n_121, 0, []⟩ : AN), (by simp only [MS.doCall, MS.doKind, *, SB]; (repeat (first | rw [if_pos (by omega)] | rw [if_neg (by omega)])); all_goals (first | rfl | simp only [SB, *])), (k_118.mono (by omega) (by omega)), (by (try dsimp only); (try simp only [List.length_nil]); omega), rfl, rfl⟩
      refine jP (cB (dF h_116)) <| jC <| jE <| jA (jw rfl rfl) <| jA (jG (v := .bool (decide (c.kind = 19))) rfl) <| jD <| jB ?_
      by_cases h_123 : c.kind = 19
      · refine jO (cB (dT h_123)) <| jE <| jK (jc 7 x_7 m_8 rfl rfl) <| jA (jJ fo51_3 rfl) <| jK (jV 6 (v := iv c.a) rfl rfl kp rfl) ?_
        refine jH rfl (jM [1, 1, 1] Tryz.call163 rfl (M_tick x_7 m_8 k_6 (by omega) (by omega) c.a (by omega)) rfl (fun _ _ => trivial)) ?_
        rintro _ _ ⟨_, ⟨x_126, m_127, n_128, n_130, e_124, k_125, f_129, f_131, rfl, rfl⟩, rfl⟩
        refine jA (jF (v := .tuple #[mv x_126 m_127, iv n_128, iv n_130]) rfl) <| jA (jb (v := mv x_126 m_127) rfl rfl) <| jA (jb (v := iv n_128) rfl rfl) <| jA (jb (v := iv n_130) rfl rfl) ?_
        refine jH rfl (jm 7 x_126 m_127 rfl rfl rfl rfl) ?_
        rintro _ _ rfl
        refine jA (jJ fo45_1 rfl) ?_
        refine jH rfl (jT 3 (vs := [iv n_128]) (cs' := [iv 0, iv n_128, str []]) rfl rfl rfl rfl kt rfl rfl (lb rfl) rfl) ?_
        rintro _ _ rfl
        refine jA (jJ fo45_0 rfl) ?_
        refine jH rfl (jT 3 (vs := [iv n_130]) (cs' := [iv n_130, iv n_128, str []]) rfl rfl rfl rfl kt rfl rfl (lb rfl) rfl) ?_
        rintro _ _ rfl
        refine jD <| jk <| jB <| jC <| jr [bk b_16 45 [iv n_130, iv n_128, str []], mb b_1 x_126 m_127] 3 mixed (by simp) <| jh 0 rfl (jc 1 x_126 m_127 rfl rfl) <| jh 1 rfl (jX 0 (vs := [iv n_130, iv n_128, str []]) rfl rfl gA kr rfl rfl) <| jQ (i := 2) ?_
        refine jY rfl rfl (jm 5 x_126 m_127 rfl rfl rfl rfl) ?_
        rintro _ _ rfl
        refine ⟨(by simp), ?_⟩
        refine jQ (i := 3) ?_
        refine jx rfl (jT 4 (vs := [iv n_130, iv n_128, str []]) (cs' := [iv n_130, iv n_128, str []]) rfl rfl rfl rfl kr rfl rfl (lb rfl) rfl) ?_
        rintro _ _ rfl
        refine jB <| jL <| kB (.inl rfl) rfl (je (jc 5 x_126 m_127 rfl rfl) ⟨_, rfl⟩) (je (jX 4 (vs := [iv n_130, iv n_128, str []]) rfl rfl gA kr rfl rfl) ⟨_, rfl⟩) (tS 3 _) ?_
        exact ⟨x_126, m_127, (⟨n_130, n_128, []⟩ : AN), (by simp only [MS.doCall, MS.doKind, *, SB]; (repeat (first | rw [if_pos (by omega)] | rw [if_neg (by omega)])); all_goals (first | rfl | simp only [SB, *])), (k_125.mono (by omega) (by omega)), (by (try dsimp only); (try simp only [List.length_nil]); omega), rfl, rfl⟩
      refine jP (cB (dF h_123)) <| jC <| jE <| jA (jw rfl rfl) <| jA (jG (v := .bool (decide (c.kind = 20))) rfl) <| jD <| jB ?_
      by_cases h_132 : c.kind = 20
      · refine jO (cB (dT h_132)) <| jE <| jK (jc 7 x_7 m_8 rfl rfl) <| jA (jF (v := iv proc) rfl) <| jA (jJ fo51_3 rfl) <| jK (jV 6 (v := iv c.a) rfl rfl kp rfl) <| jA (jJ fo51_5 rfl) <| jK (jV 6 (v := str c.text) rfl rfl kv rfl) ?_
        refine jH rfl (jM [1, 1, 1] Tryz.call164 rfl (M_storePage x_7 m_8 k_6 (by omega) (by omega) proc c.a c.text (by omega) (by omega) (by omega)) rfl (fun _ _ => trivial)) ?_
        rintro _ _ ⟨_, ⟨x_135, m_136, n_137, e_133, k_134, f_138, rfl, rfl⟩, rfl⟩
        refine jA (jF (v := .tuple #[mv x_135 m_136, iv n_137]) rfl) <| jA (jb (v := mv x_135 m_136) rfl rfl) <| jA (jb (v := iv n_137) rfl rfl) ?_
        refine jH rfl (jm 7 x_135 m_136 rfl rfl rfl rfl) ?_
        rintro _ _ rfl
        refine jA (jJ fo45_0 rfl) ?_
        refine jH rfl (jT 3 (vs := [iv n_137]) (cs' := [iv n_137, iv 0, str []]) rfl rfl rfl rfl kt rfl rfl (lb rfl) rfl) ?_
        rintro _ _ rfl
        refine jD <| jk <| jB <| jC <| jr [bk b_16 45 [iv n_137, iv 0, str []], mb b_1 x_135 m_136] 3 mixed (by simp) <| jh 0 rfl (jc 1 x_135 m_136 rfl rfl) <| jh 1 rfl (jX 0 (vs := [iv n_137, iv 0, str []]) rfl rfl gA kr rfl rfl) <| jQ (i := 2) ?_
        refine jY rfl rfl (jm 5 x_135 m_136 rfl rfl rfl rfl) ?_
        rintro _ _ rfl
        refine ⟨(by simp), ?_⟩
        refine jQ (i := 3) ?_
        refine jx rfl (jT 4 (vs := [iv n_137, iv 0, str []]) (cs' := [iv n_137, iv 0, str []]) rfl rfl rfl rfl kr rfl rfl (lb rfl) rfl) ?_
        rintro _ _ rfl
        refine jB <| jL <| kB (.inl rfl) rfl (je (jc 5 x_135 m_136 rfl rfl) ⟨_, rfl⟩) (je (jX 4 (vs := [iv n_137, iv 0, str []]) rfl rfl gA kr rfl rfl) ⟨_, rfl⟩) (tS 3 _) ?_
        exact ⟨x_135, m_136, (⟨n_137, 0, []⟩ : AN), (by simp only [MS.doCall, MS.doKind, *, SB]; (repeat (first | rw [if_pos (by omega)] | rw [if_neg (by omega)])); all_goals (first | rfl | simp only [SB, *])), (k_134.mono (by omega) (by omega)), (by (try dsimp only); (try simp only [List.length_nil]); omega), rfl, rfl⟩
      refine jP (cB (dF h_132)) <| jC <| jE <| jA (jw rfl rfl) <| jA (jG (v := .bool (decide (c.kind = 21))) rfl) <| jD <| jB ?_
      by_cases h_139 : c.kind = 21
      · refine jO (cB (dT h_139)) <| jE <| jK (jc 7 x_7 m_8 rfl rfl) <| jA (jF (v := iv proc) rfl) <| jA (jJ fo51_3 rfl) <| jK (jV 6 (v := iv c.a) rfl rfl kp rfl) ?_
        refine jH rfl (jM [1, 1, 1] Tryz.call165 rfl (M_loadPage x_7 m_8 k_6 (by omega) (by omega) proc c.a (by omega) (by omega)) rfl (fun _ _ => trivial)) ?_
        rintro _ _ ⟨_, ⟨x_142, m_143, u_144, n_146, e_140, k_141, f_145, f_147, rfl, rfl⟩, rfl⟩
        refine jA (jF (v := .tuple #[mv x_142 m_143, str u_144, iv n_146]) rfl) <| jA (jb (v := mv x_142 m_143) rfl rfl) <| jA (jb (v := str u_144) rfl rfl) <| jA (jb (v := iv n_146) rfl rfl) ?_
        refine jH rfl (jm 7 x_142 m_143 rfl rfl rfl rfl) ?_
        rintro _ _ rfl
        refine jA (jJ fo45_2 rfl) ?_
        refine jH rfl (jT 3 (vs := [str u_144]) (cs' := [iv 0, iv 0, str u_144]) rfl rfl rfl rfl kw rfl rfl (lb rfl) rfl) ?_
        rintro _ _ rfl
        refine jA (jJ fo45_0 rfl) ?_
        refine jH rfl (jT 3 (vs := [iv n_146]) (cs' := [iv n_146, iv 0, str u_144]) rfl rfl rfl rfl kt rfl rfl (lb rfl) rfl) ?_
        rintro _ _ rfl
        refine jD <| jk <| jB <| jC <| jr [bk b_16 45 [iv n_146, iv 0, str u_144], mb b_1 x_142 m_143] 3 mixed (by simp) <| jh 0 rfl (jc 1 x_142 m_143 rfl rfl) <| jh 1 rfl (jX 0 (vs := [iv n_146, iv 0, str u_144]) rfl rfl gA kr rfl rfl) <| jQ (i := 2) ?_
        refine jY rfl rfl (jm 5 x_142 m_143 rfl rfl rfl rfl) ?_
        rintro _ _ rfl
        refine ⟨(by simp), ?_⟩
        refine jQ (i := 3) ?_
        refine jx rfl (jT 4 (vs := [iv n_146, iv 0, str u_144]) (cs' := [iv n_146, iv 0, str u_144]) rfl rfl rfl rfl kr rfl rfl (lb rfl) rfl) ?_
        rintro _ _ rfl
        refine jB <| jL <| kB (.inl rfl) rfl (je (jc 5 x_142 m_143 rfl rfl) ⟨_, rfl⟩) (je (jX 4 (vs := [iv n_146, iv 0, str u_144]) rfl rfl gA kr rfl rfl) ⟨_, rfl⟩) (tS 3 _) ?_
        exact ⟨x_142, m_143, (⟨n_146, 0, u_144⟩ : AN), (by simp only [MS.doCall, MS.doKind, *, SB]; (repeat (first | rw [if_pos (by omega)] | rw [if_neg (by omega)])); all_goals (first | rfl | simp only [SB, *])), (k_141.mono (by omega) (by omega)), (by (try dsimp only); (try simp only [List.length_nil]); omega), rfl, rfl⟩
      refine jP (cB (dF h_139)) <| jC <| jE <| jA (jw rfl rfl) <| jA (jG (v := .bool (decide (c.kind = 22))) rfl) <| jD <| jB ?_
      by_cases h_148 : c.kind = 22
      · refine jO (cB (dT h_148)) <| jE <| jK (jc 7 x_7 m_8 rfl rfl) <| jA (jJ fo51_5 rfl) <| jK (jV 6 (v := str c.text) rfl rfl kv rfl) ?_
        refine jH rfl (jM [1, 1, 1] Tryz.call166 rfl (M_putOut x_7 m_8 k_6 (by omega) (by omega) c.text (by omega)) rfl (fun _ _ => trivial)) ?_
        rintro _ _ ⟨_, ⟨x_151, m_152, n_153, e_149, k_150, f_154, rfl, rfl⟩, rfl⟩
        refine jA (jF (v := .tuple #[mv x_151 m_152, iv n_153]) rfl) <| jA (jb (v := mv x_151 m_152) rfl rfl) <| jA (jb (v := iv n_153) rfl rfl) ?_
        refine jH rfl (jm 7 x_151 m_152 rfl rfl rfl rfl) ?_
        rintro _ _ rfl
        refine jA (jJ fo45_0 rfl) ?_
        refine jH rfl (jT 3 (vs := [iv n_153]) (cs' := [iv n_153, iv 0, str []]) rfl rfl rfl rfl kt rfl rfl (lb rfl) rfl) ?_
        rintro _ _ rfl
        refine jD <| jk <| jB <| jC <| jr [bk b_16 45 [iv n_153, iv 0, str []], mb b_1 x_151 m_152] 3 mixed (by simp) <| jh 0 rfl (jc 1 x_151 m_152 rfl rfl) <| jh 1 rfl (jX 0 (vs := [iv n_153, iv 0, str []]) rfl rfl gA kr rfl rfl) <| jQ (i := 2) ?_
        refine jY rfl rfl (jm 5 x_151 m_152 rfl rfl rfl rfl) ?_
        rintro _ _ rfl
        refine ⟨(by simp), ?_⟩
        refine jQ (i := 3) ?_
        refine jx rfl (jT 4 (vs := [iv n_153, iv 0, str []]) (cs' := [iv n_153, iv 0, str []]) rfl rfl rfl rfl kr rfl rfl (lb rfl) rfl) ?_
        rintro _ _ rfl
        refine jB <| jL <| kB (.inl rfl) rfl (je (jc 5 x_151 m_152 rfl rfl) ⟨_, rfl⟩) (je (jX 4 (vs := [iv n_153, iv 0, str []]) rfl rfl gA kr rfl rfl) ⟨_, rfl⟩) (tS 3 _) ?_
        exact ⟨x_151, m_152, (⟨n_153, 0, []⟩ : AN), (by simp only [MS.doCall, MS.doKind, *, SB]; (repeat (first | rw [if_pos (by omega)] | rw [if_neg (by omega)])); all_goals (first | rfl | simp only [SB, *])), (k_150.mono (by omega) (by omega)), (by (try dsimp only); (try simp only [List.length_nil]); omega), rfl, rfl⟩
      refine jP (cB (dF h_148)) <| jC <| jE <| jK (jc 7 x_7 m_8 rfl rfl) <| jA (jF (v := iv proc) rfl) <| jK (jX 6 (vs := [iv c.kind, str c.name, str c.to_, iv c.a, iv c.b, str c.text]) rfl rfl ku ko rfl rfl) ?_
      refine jH rfl (jM [1, 1, 1] Tryz.call167 rfl (M_doProc x_7 m_8 k_6 (by omega) (by omega) proc c (by omega) hc) rfl (fun _ _ => trivial)) ?_
      rintro _ _ ⟨_, ⟨x_157, m_158, A_159, e_155, k_156, f_160, rfl, rfl⟩, rfl⟩
      refine jA (jb (v := mv x_157 m_158) rfl rfl) <| jA (jb (v := .agg #[iv A_159.code, iv A_159.n, str A_159.text]) rfl rfl) ?_
      refine jH rfl (jm 5 x_157 m_158 rfl rfl rfl rfl) ?_
      rintro _ _ rfl
      refine jH rfl (jT 4 (vs := [iv A_159.code, iv A_159.n, str A_159.text]) (cs' := [iv A_159.code, iv A_159.n, str A_159.text]) rfl rfl rfl rfl kr rfl rfl (lb rfl) rfl) ?_
      rintro _ _ rfl
      refine jD <| jB <| jL <| jq <| jW <| kB (.inl rfl) rfl (je (jc 5 x_157 m_158 rfl rfl) ⟨_, rfl⟩) (je (jX 4 (vs := [iv A_159.code, iv A_159.n, str A_159.text]) rfl rfl gA kr rfl rfl) ⟨_, rfl⟩) (tS 3 _) ?_
      exact ⟨x_157, m_158, A_159, (by simp only [MS.doCall, MS.doKind, *, SB]; (repeat (first | rw [if_pos (by omega)] | rw [if_neg (by omega)])); all_goals (first | rfl | simp only [SB, *])), (k_156.mono (by omega) (by omega)), (by (try dsimp only); (try simp only [List.length_nil]); omega), rfl, rfl⟩
    refine jO (cB (cN h_15)) <| jC <| jE <| jK (jc 6 x_7 m_8 rfl rfl) <| jA (kY (ps := [(0, iv 4)]) (cs := [iv 4, iv 0, str []]) rfl (by kernel_rfl)) ?_
    refine jH rfl (jm 4 x_7 m_8 rfl rfl rfl rfl) ?_
    rintro _ _ rfl
    refine jH rfl (jT 3 (vs := [iv 4, iv 0, str []]) (cs' := [iv 4, iv 0, str []]) rfl rfl rfl rfl kr rfl rfl (lb rfl) rfl) ?_
    rintro _ _ rfl
    refine jD <| jB <| jL <| jW <| kB (.inl rfl) rfl (je (jc 4 x_7 m_8 rfl rfl) ⟨_, rfl⟩) (je (jX 3 (vs := [iv 4, iv 0, str []]) rfl rfl gA kr rfl rfl) ⟨_, rfl⟩) (tS 3 _) ?_
    exact ⟨x_7, m_8, (⟨4, 0, []⟩ : AN), (by simp only [MS.doCall, MS.doKind, e_5, h_11, e_12, h_15, SB]; (repeat (first | rw [if_pos (by omega)] | rw [if_neg (by omega)])); all_goals (first | rfl | simp only [SB, e_5, h_11, e_12, h_15])), (k_6.mono (by omega) (by omega)), (by (try dsimp only); (try simp only [List.length_nil]); omega), rfl, rfl⟩
  refine jO (cB (cN (dF h_11))) <| jC <| jE <| jK (jc 6 x_7 m_8 rfl rfl) <| jA (kY (ps := [(0, iv 2)]) (cs := [iv 2, iv 0, str []]) rfl (by kernel_rfl)) ?_
  refine jH rfl (jm 4 x_7 m_8 rfl rfl rfl rfl) ?_
  rintro _ _ rfl
  refine jH rfl (jT 3 (vs := [iv 2, iv 0, str []]) (cs' := [iv 2, iv 0, str []]) rfl rfl rfl rfl kr rfl rfl (lb rfl) rfl) ?_
  rintro _ _ rfl
  refine jD <| jB <| jL <| jW <| kB (.inl rfl) rfl (je (jc 4 x_7 m_8 rfl rfl) ⟨_, rfl⟩) (je (jX 3 (vs := [iv 2, iv 0, str []]) rfl rfl gA kr rfl rfl) ⟨_, rfl⟩) (tS 3 _) ?_
  exact ⟨x_7, m_8, (⟨2, 0, []⟩ : AN), (by simp only [MS.doCall, MS.doKind, e_5, h_11, SB]; (repeat (first | rw [if_pos (by omega)] | rw [if_neg (by omega)])); all_goals (first | rfl | simp only [SB, e_5, h_11])), (k_6.mono (by omega) (by omega)), (by (try dsimp only); (try simp only [List.length_nil]); omega), rfl, rfl⟩

end Go.Proofs.YtghfijncihbojaaGreat

set_option linter.unusedSimpArgs false
set_option linter.unusedVariables false
set_option linter.unnecessarySimpa false
namespace Go.Proofs.YtghfijncihbojaaGreat
open Go Go.RowKit
attribute [local irreducible] JL JC JQ JO LO PO JA JX Ct

theorem C_sameTexts (a b : Option Addr) (c c' : Nat) (s t : List Str) (hn : s.length ≤ 9223372036854775807) :
    Ct Tryz.prog 91 [.slice a s.length c, .slice b t.length c'] [] (fun w => Sees w (.slice a s.length c) 1 s.length (s.map str) ∧ Sees w (.slice b t.length c') 1 t.length (t.map str)) (fun r A' => r = .bool (decide (s = t)) ∧ A' = []) := by
  refine Ct.intro Tryz.func91 rfl Tryz.ntmps91 (lb rfl) fun w0 hpre => ?_
  have hs_a : Sees w0 _ _ _ _ := hpre.1
  have hs_b : Sees w0 _ _ _ _ := hpre.2
  refine jC <| jE <| jA (jG (v := .bool false) rfl) <| jD <| jB <| jC <| jC <| jE <| jA (jF (v := .slice a s.length c) rfl) <| jA (jp ks rfl) ?_
  refine jA (jF (v := .slice b t.length c') rfl) <| jA (jp ks rfl) <| jA (kN rfl rfl) <| jD <| jB ?_
  by_cases h_1 : ((s.length : Nat) : Int) = ((t.length : Nat) : Int)
  · have hlen := h_1
    refine jP (cB (cN (dT h_1))) <| jU <| jB <| jC <| jC <| jE <| jA (jG (v := iv 0) rfl) <| jD <| jB <| jg ?_
    refine kC (fun k_ e_ L_ => ∃ j : Nat, (j ≤ s.length) ∧ (s.take j = t.take j) ∧ (s.length = t.length) ∧ e_ 0 = .slice a s.length c ∧ e_ 1 = .slice b t.length c' ∧ e_ 5 = nv j ∧ L_ = [] ∧ k_ = s.length - j) _ ⟨0, by omega, rfl, by omega, rfl, rfl, rfl, rfl, rfl⟩ ?_
    rintro _ e_2 _ ⟨j, hj, hE, hln, he_3, he_4, he_5, rfl, rfl⟩
    refine jC <| jC <| jE <| jA (jF (v := nv j) he_5) <| jA (jF (v := .slice a s.length c) he_3) <| jA (jp ks rfl) <| jA (jo rfl rfl) <| jD <| jB ?_
    by_cases h_6 : ((j : Nat) : Int) < ((s.length : Nat) : Int)
    · have hlt : j < s.length := by omega
      refine jO (cB (dT h_6)) <| jU <| jB <| jC <| jg <| jC <| jr [] 8 mixed (by simp) <| jI 0 rfl (jF (v := .slice a s.length c) he_3) <| jI 1 rfl (jF (v := nv j) he_5) ?_
      obtain ⟨hr_7, hr_7b, -⟩ := sees_some hs_a (by omega)
      refine jI 2 rfl (jl (i := j) ks kw hr_7 hr_7b rfl rfl (by omega)) <| jh 3 rfl (kK (v := str (s.getD j [])) hs_a nM rfl kv (atS (by omega))) <| jI 4 rfl (jF (v := .slice b t.length c') he_4) <| jI 5 rfl (jF (v := nv j) he_5) ?_
      obtain ⟨hr_8, hr_8b, -⟩ := sees_some hs_b (by omega)
      refine jI 6 rfl (jl (i := j) ks kw hr_8 hr_8b rfl rfl (by omega)) <| jh 7 rfl (kK (v := str (t.getD j [])) hs_b nM rfl kv (atS (by omega))) <| jI 8 rfl (kj rfl rfl) <| kI (by kernel_rfl) <| jB ?_
      by_cases h_9 : (s.getD j []) = (t.getD j [])
      · have heq := h_9
        refine jP (cB (cN (dT h_9))) <| jU <| jk <| jB <| jE <| jA (jF (v := nv j) he_5) <| jA (ji (c := ((j + 1 : Nat) : Int)) rfl rfl (wr (by omega))) <| jA (jG (v := iv ((j + 1 : Nat) : Int)) rfl) <| jD ?_
        refine ju (s.length - (j + 1)) (by omega) ⟨j + 1, by omega, take_succ_eq [] hE hlt hln heq, hln, he_3, he_4, rfl, rfl, rfl⟩
      have hne := h_9
      refine jO (cB (cN (dF h_9))) <| jC <| jE <| jA (jG (v := .bool false) rfl) <| jD <| jB <| jL <| jq <| jW <| jW ?_
      refine jq <| jW <| jR (.inl rfl) rfl (jN (v := .bool false) rfl) (List.nil_sublist _) ?_
      refine ⟨?_, rfl⟩
      rw [dF (fun h => hne (by rw [h]))]
    refine jP (cB (dF h_6)) <| jz <| jj <| jj <| kA <| jB <| jC <| jE <| jA (jG (v := .bool true) rfl) <| jD ?_
    refine jB <| jL <| jR (.inl rfl) rfl (jN (v := .bool true) rfl) (List.nil_sublist _) ?_
    refine ⟨?_, rfl⟩
    rw [dT (take_all_eq hE (by omega) (by omega))]
  have hlen := h_1
  refine jO (cB (cN (dF h_1))) <| jC <| jE <| jA (jG (v := .bool false) rfl) <| jD <| jB <| jL <| jW <| jR (.inl rfl) rfl (jN (v := .bool false) rfl) (List.nil_sublist _) ?_
  refine ⟨?_, rfl⟩
  rw [dF (fun h => by rw [h] at hlen; omega)]

theorem C_sameInts (a b : Option Addr) (c c' : Nat) (s t : List Int) (hn : s.length ≤ 9223372036854775807) :
    Ct Tryz.prog 45 [.slice a s.length c, .slice b t.length c'] [] (fun w => Sees w (.slice a s.length c) 1 s.length (s.map (Value.int .i64)) ∧ Sees w (.slice b t.length c') 1 t.length (t.map (Value.int .i64))) (fun r A' => r = .bool (decide (s = t)) ∧ A' = []) := by
  refine Ct.intro Tryz.func45 rfl Tryz.ntmps45 (lb rfl) fun w0 hpre => ?_
  have hs_a : Sees w0 _ _ _ _ := hpre.1
  have hs_b : Sees w0 _ _ _ _ := hpre.2
  refine jC <| jE <| jA (jG (v := .bool false) rfl) <| jD <| jB <| jC <| jC <| jE <| jA (jF (v := .slice a s.length c) rfl) <| jA (jp gB rfl) ?_
  refine jA (jF (v := .slice b t.length c') rfl) <| jA (jp gB rfl) <| jA (kN rfl rfl) <| jD <| jB ?_
  by_cases h_1 : ((s.length : Nat) : Int) = ((t.length : Nat) : Int)
  · have hlen := h_1
    refine jP (cB (cN (dT h_1))) <| jU <| jB <| jC <| jC <| jE <| jA (jG (v := iv 0) rfl) <| jD <| jB <| jg ?_
    refine kC (fun k_ e_ L_ => ∃ j : Nat, (j ≤ s.length) ∧ (s.take j = t.take j) ∧ (s.length = t.length) ∧ e_ 0 = .slice a s.length c ∧ e_ 1 = .slice b t.length c' ∧ e_ 5 = nv j ∧ L_ = [] ∧ k_ = s.length - j) _ ⟨0, by omega, rfl, by omega, rfl, rfl, rfl, rfl, rfl⟩ ?_
    rintro _ e_2 _ ⟨j, hj, hE, hln, he_3, he_4, he_5, rfl, rfl⟩
    refine jC <| jC <| jE <| jA (jF (v := nv j) he_5) <| jA (jF (v := .slice a s.length c) he_3) <| jA (jp gB rfl) <| jA (jo rfl rfl) <| jD <| jB ?_
    by_cases h_6 : ((j : Nat) : Int) < ((s.length : Nat) : Int)
    · have hlt : j < s.length := by omega
      refine jO (cB (dT h_6)) <| jU <| jB <| jC <| jg <| jC <| jr [] 8 mixed (by simp) <| jI 0 rfl (jF (v := .slice a s.length c) he_3) <| jI 1 rfl (jF (v := nv j) he_5) ?_
      obtain ⟨hr_7, hr_7b, -⟩ := sees_some hs_a (by omega)
      refine jI 2 rfl (jl (i := j) gB kt hr_7 hr_7b rfl rfl (by omega)) <| jh 3 rfl (kK (v := iv (s.getD j 0)) hs_a nM rfl kp (atI (by omega))) <| jI 4 rfl (jF (v := .slice b t.length c') he_4) <| jI 5 rfl (jF (v := nv j) he_5) ?_
      obtain ⟨hr_8, hr_8b, -⟩ := sees_some hs_b (by omega)
      refine jI 6 rfl (jl (i := j) gB kt hr_8 hr_8b rfl rfl (by omega)) <| jh 7 rfl (kK (v := iv (t.getD j 0)) hs_b nM rfl kp (atI (by omega))) <| jI 8 rfl (kN rfl rfl) <| kI (by kernel_rfl) <| jB ?_
      by_cases h_9 : (s.getD j 0) = (t.getD j 0)
      · have heq := h_9
        refine jP (cB (cN (dT h_9))) <| jU <| jk <| jB <| jE <| jA (jF (v := nv j) he_5) <| jA (ji (c := ((j + 1 : Nat) : Int)) rfl rfl (wr (by omega))) <| jA (jG (v := iv ((j + 1 : Nat) : Int)) rfl) <| jD ?_
        refine ju (s.length - (j + 1)) (by omega) ⟨j + 1, by omega, take_succ_eq 0 hE hlt hln heq, hln, he_3, he_4, rfl, rfl, rfl⟩
      have hne := h_9
      refine jO (cB (cN (dF h_9))) <| jC <| jE <| jA (jG (v := .bool false) rfl) <| jD <| jB <| jL <| jq <| jW <| jW ?_
      refine jq <| jW <| jR (.inl rfl) rfl (jN (v := .bool false) rfl) (List.nil_sublist _) ?_
      refine ⟨?_, rfl⟩
      rw [dF (fun h => hne (by rw [h]))]
    refine jP (cB (dF h_6)) <| jz <| jj <| jj <| kA <| jB <| jC <| jE <| jA (jG (v := .bool true) rfl) <| jD ?_
    refine jB <| jL <| jR (.inl rfl) rfl (jN (v := .bool true) rfl) (List.nil_sublist _) ?_
    refine ⟨?_, rfl⟩
    rw [dT (take_all_eq hE (by omega) (by omega))]
  have hlen := h_1
  refine jO (cB (cN (dF h_1))) <| jC <| jE <| jA (jG (v := .bool false) rfl) <| jD <| jB <| jL <| jW <| jR (.inl rfl) rfl (jN (v := .bool false) rfl) (List.nil_sublist _) ?_
  refine ⟨?_, rfl⟩
  rw [dF (fun h => by rw [h] at hlen; omega)]

theorem C_sameTouch (a1 a2 b1 b2 : Option Addr) (c1 c2 d1 d2 : Nat) (r w r' w' : List Str) (h1 : r.length ≤ 9223372036854775807) (h2 : w.length ≤ 9223372036854775807) :
    Ct Tryz.prog 44 [.agg #[.slice a1 r.length c1, .slice a2 w.length c2], .agg #[.slice b1 r'.length d1, .slice b2 w'.length d2]] [] (fun w_ => Sees w_ (.slice a1 r.length c1) 1 r.length (r.map str) ∧ Sees w_ (.slice a2 w.length c2) 1 w.length (w.map str) ∧ Sees w_ (.slice b1 r'.length d1) 1 r'.length (r'.map str) ∧ Sees w_ (.slice b2 w'.length d2) 1 w'.length (w'.map str)) (fun v A' => v = .bool (decide (r = r') && decide (w = w')) ∧ A' = []) := by
  refine Ct.intro Tryz.func44 rfl Tryz.ntmps44 (lb rfl) fun w0 hpre => ?_
  have hs_a1 : Sees w0 _ _ _ _ := hpre.1
  have hs_a2 : Sees w0 _ _ _ _ := hpre.2.1
  have hs_b1 : Sees w0 _ _ _ _ := hpre.2.2.1
  have hs_b2 : Sees w0 _ _ _ _ := hpre.2.2.2
  refine jC <| jE ?_
  refine jH rfl (jy (cs := [.slice a1 r.length c1, .slice a2 w.length c2]) rfl rfl) ?_
  rintro _ _ ⟨b_1, rfl, rfl⟩
  refine jH rfl (jy (cs := [.slice b1 r'.length d1, .slice b2 w'.length d2]) rfl rfl) ?_
  rintro _ _ ⟨b_2, rfl, rfl⟩
  refine jA (jG (v := .bool false) rfl) <| jD <| jB <| jC <| jE <| jA (jJ fo28_0 rfl) <| jK (jV 1 (v := .slice a1 r.length c1) rfl rfl gF rfl) <| jA (jJ fo28_0 rfl) <| jK (jV 0 (v := .slice b1 r'.length d1) rfl rfl gF rfl) ?_
  refine jH rfl (jM [] Tryz.call91 rfl (C_sameTexts a1 b1 c1 d1 r r' (by omega)) rfl (fun w hw => ⟨hw.seeOut_ hs_a1 nM, hw.seeOut_ hs_b1 nM⟩)) ?_
  rintro _ _ ⟨_, ⟨rfl, rfl⟩, rfl⟩
  refine jA (jF (v := .bool (decide (r = r'))) rfl) ?_
  by_cases h_3 : r = r'
  · refine jZ rfl rfl rfl (cB (dT h_3)) (ja (jf (jJ fo28_1 rfl))) ?_
    rintro _ _ ⟨rfl, rfl⟩
    refine jZ rfl rfl rfl (cB (dT h_3)) (ja (jV 1 (v := .slice a2 w.length c2) rfl rfl gF rfl)) ?_
    rintro _ _ ⟨rfl, rfl⟩
    refine jZ rfl rfl rfl (cB (dT h_3)) (ja (jf (jJ fo28_1 rfl))) ?_
    rintro _ _ ⟨rfl, rfl⟩
    refine jZ rfl rfl rfl (cB (dT h_3)) (ja (jV 0 (v := .slice b2 w'.length d2) rfl rfl gF rfl)) ?_
    rintro _ _ ⟨rfl, rfl⟩
    refine jZ rfl rfl rfl (cB (dT h_3)) (jM [] Tryz.call91 rfl (C_sameTexts a2 b2 c2 d2 w w' (by omega)) rfl (fun w hw => ⟨hw.seeOut_ hs_a2 nM, hw.seeOut_ hs_b2 nM⟩)) ?_
    rintro _ _ ⟨_, ⟨rfl, rfl⟩, rfl⟩
    refine jA (kG (v := .bool (decide (w = w'))) (cB (dT h_3)) rfl) <| jA (jG (v := .bool (decide (w = w'))) rfl) <| jD <| jB <| jL <| jR (.inl rfl) rfl (jN (v := .bool (decide (w = w'))) rfl) (List.nil_sublist _) ?_
    refine ⟨?_, rfl⟩
    simp_all
  refine jS (b := false) rfl rfl rfl (cB (dF h_3)) <| jS (b := false) rfl rfl rfl (cB (dF h_3)) <| jS (b := false) rfl rfl rfl (cB (dF h_3)) <| jS (b := false) rfl rfl rfl (cB (dF h_3)) <| jS (b := false) rfl rfl rfl (cB (dF h_3)) <| jA (jv (v := .bool false) (cB (dF h_3)) rfl) <| jA (jG (v := .bool false) rfl) <| jD <| jB <| jL ?_
  refine jR (.inl rfl) rfl (jN (v := .bool false) rfl) (List.nil_sublist _) ?_
  refine ⟨?_, rfl⟩
  simp_all

end Go.Proofs.YtghfijncihbojaaGreat

set_option linter.unusedSimpArgs false
set_option linter.unusedVariables false
set_option linter.unnecessarySimpa false
namespace Go.Proofs.YtghfijncihbojaaGreat
open Go Go.RowKit
/-- A step: who, which call. -/
structure SP where
  proc : Int
  call : CL
def k0 : CL := ⟨0, [], [], 0, 0, []⟩
def a0_ : AN := ⟨0, 0, []⟩
def p0_ : SP := ⟨0, k0⟩
def encK (c : CL) : List Value := [.int .i64 c.kind, str c.name, str c.to_, .int .i64 c.a, .int .i64 c.b, str c.text]
def encA (a : AN) : List Value := [.int .i64 a.code, .int .i64 a.n, str a.text]
def encP (p : SP) : List Value := [.int .i64 p.proc, .int .i64 p.call.kind, str p.call.name, str p.call.to_, .int .i64 p.call.a, .int .i64 p.call.b, str p.call.text]
theorem encK_len (c : CL) : (encK c).length = 6 := rfl
theorem encA_len (a : AN) : (encA a).length = 3 := rfl
theorem encP_len (p : SP) : (encP p).length = 7 := rfl
section
variable {α : Type} {enc : α → List Value} {k : Nat}
theorem flat_one (h : ∀ x, ∀ u ∈ enc x, u.oneCell' = true) (l : List α) : ∀ u ∈ l.flatMap enc, u.oneCell' = true := fun u hu => by
  obtain ⟨c, _, hc⟩ := List.mem_flatMap.1 hu
  exact h c u hc
theorem flat_sub (hk : ∀ x, (enc x).length = k) {w : World} {a : Option Addr} {c : Nat} {s : List α} (h : Sees w (.slice a s.length c) k s.length (s.flatMap enc)) (lo hi : Nat) (h1 : lo ≤ hi) (h2 : hi ≤ s.length) :
    Sees w (.slice (subA k a c lo) (hi - lo) (c - lo)) k (hi - lo) (((s.drop lo).take (hi - lo)).flatMap enc) := by
  have := h.sub lo hi h1 h2
  rw [flat_dropN hk, flat_takeN hk] at this
  exact this
theorem flat_part (hk : ∀ x, (enc x).length = k) (d : α) (xs : List α) (i f m : Nat) (hi : i < xs.length) (hf : f + m ≤ k) : ((xs.flatMap enc).drop (i * k + f)).take m = ((enc (xs.getD i d)).drop f).take m := by
  rw [← flat_take hk d xs i hi, ← List.drop_drop, List.drop_take, List.take_take, Nat.min_eq_left (by omega)]
theorem flat_set1 (hk : ∀ x, (enc x).length = k) (d : α) {s : List α} {i f : Nat} {v : Value} {y : α} (h : i < s.length) (hf : f < k) (hy : (enc (s.getD i d)).set f v = enc y) :
    (s.flatMap enc).take (i * k + f) ++ [v] ++ (s.flatMap enc).drop (i * k + f + 1) = (s.set i y).flatMap enc := by
  have hl := flat_length hk s
  have hx : (s.flatMap enc) = (s.flatMap enc).take (i * k) ++ enc (s.getD i d) ++ (s.flatMap enc).drop (i * k + k) := by
    have h1 := flat_take hk d s i h
    have h2 : (s.flatMap enc) = (s.flatMap enc).take (i * k) ++ (s.flatMap enc).drop (i * k) := (List.take_append_drop _ _).symm
    have h3 : (s.flatMap enc).drop (i * k) = ((s.flatMap enc).drop (i * k)).take k ++ ((s.flatMap enc).drop (i * k)).drop k := (List.take_append_drop _ _).symm
    rw [h1, List.drop_drop] at h3
    rw [List.append_assoc, ← h3]
    exact h2
  have hle : i * k + k ≤ s.length * k := by
    have : (i + 1) * k ≤ s.length * k := Nat.mul_le_mul_right k h
    rwa [Nat.succ_mul] at this
  have hlen : ((s.flatMap enc).take (i * k)).length = i * k := by rw [List.length_take, hl]; omega
  have hset : (s.flatMap enc).set (i * k + f) v = (s.set i y).flatMap enc := by
    rw [← flat_set hk s i y h, ← hy]
    conv => lhs; rw [hx]
    rw [List.append_assoc, List.set_append_right _ _ (by omega), hlen, show i * k + f - i * k = f by omega, List.set_append_left _ _ (by rw [hk]; exact hf), List.append_assoc]
  rw [← hset, List.set_eq_take_append_cons_drop, if_pos (by rw [hl]; omega)]
  simp
end
theorem oneK (l : List CL) : ∀ u ∈ l.flatMap encK, u.oneCell' = true := flat_one (fun c u hu => by
  simp only [encK, List.mem_cons, List.not_mem_nil, or_false] at hu
  rcases hu with rfl | rfl | rfl | rfl | rfl | rfl <;> rfl) l
theorem oneA (l : List AN) : ∀ u ∈ l.flatMap encA, u.oneCell' = true := flat_one (fun c u hu => by
  simp only [encA, List.mem_cons, List.not_mem_nil, or_false] at hu
  rcases hu with rfl | rfl | rfl <;> rfl) l
theorem oneP (l : List SP) : ∀ u ∈ l.flatMap encP, u.oneCell' = true := flat_one (fun c u hu => by
  simp only [encP, List.mem_cons, List.not_mem_nil, or_false] at hu
  rcases hu with rfl | rfl | rfl | rfl | rfl | rfl | rfl <;> rfl) l
theorem subK {w : World} {a : Option Addr} {c : Nat} {s : List CL} (h : Sees w (.slice a s.length c) 6 s.length (s.flatMap encK)) (lo hi : Nat) (h1 : lo ≤ hi) (h2 : hi ≤ s.length) : Sees w (.slice (subA 6 a c lo) (hi - lo) (c - lo)) 6 (hi - lo) (((s.drop lo).take (hi - lo)).flatMap encK) := flat_sub encK_len h lo hi h1 h2
/- measures, marks, equality -/
instance decCL : DecidableEq CL := fun a b => decidable_of_iff (a.kind = b.kind ∧ a.name = b.name ∧ a.to_ = b.to_ ∧ a.a = b.a ∧ a.b = b.b ∧ a.text = b.text) (by cases a; cases b; simp)
instance decAN : DecidableEq AN := fun a b => decidable_of_iff (a.code = b.code ∧ a.n = b.n ∧ a.text = b.text) (by cases a; cases b; simp)
instance decSP : DecidableEq SP := fun a b => decidable_of_iff (a.proc = b.proc ∧ a.call = b.call) (by cases a; cases b; simp)
end Go.Proofs.YtghfijncihbojaaGreat

set_option linter.unusedSimpArgs false
set_option linter.unusedVariables false
set_option linter.unnecessarySimpa false
namespace Go.Proofs.YtghfijncihbojaaGreat
open Go Go.RowKit
/-- A transaction; where its five rows lie. -/
structure TD where
  id : Int
  age : Int
  proc : Int
  began : Int
  calls : List CL
  ans : List AN
  rd : List Str
  wr : List Str
  marks : List Int
  state : Int
structure TA where
  a0 : Option Addr
  c0 : Nat
  a1 : Option Addr
  c1 : Nat
  a2 : Option Addr
  c2 : Nat
  a3 : Option Addr
  c3 : Nat
  a4 : Option Addr
  c4 : Nat
def TD.new (a b c : Int) : TD := ⟨a, b, c, 0, [], [], [], [], [], 1⟩
def TD.mark (t : TD) : TD × Int :=
  if t.state = 1 ∧ (t.marks.length : Int) < 4 then ({ t with marks := t.marks ++ [(t.calls.length : Int)] }, ((t.marks.length + 1 : Nat) : Int)) else (t, 0)
def TD.back (t : TD) (k : Int) : TD × Bool :=
  if t.state = 1 ∧ 1 ≤ k ∧ k ≤ (t.marks.length : Int) then
    ({ t with calls := t.calls.take (bro (t.marks.getD (k - 1).toNat 0) t.calls.length), ans := t.ans.take (bro (t.marks.getD (k - 1).toNat 0) t.ans.length), marks := t.marks.take (k - 1).toNat }, true)
  else (t, false)
def TD.since (t : TD) (k : Int) : List CL :=
  if 1 ≤ k ∧ k ≤ (t.marks.length : Int) then t.calls.drop (bro (t.marks.getD (k - 1).toNat 0) t.calls.length) else []
structure TD.ok (t : TD) (n : Nat) : Prop where
  h1 : -9223372036854775808 ≤ t.id ∧ t.id ≤ 9223372036854775807
  h2 : -9223372036854775808 ≤ t.age ∧ t.age ≤ 9223372036854775807
  h3 : -9223372036854775808 ≤ t.proc ∧ t.proc ≤ 9223372036854775807
  h4 : -9223372036854775808 ≤ t.began ∧ t.began ≤ 9223372036854775807
  h5 : -9223372036854775808 ≤ t.state ∧ t.state ≤ 9223372036854775807
  hc : t.calls.length ≤ n
  ha : t.ans.length ≤ n
  hr : t.rd.length ≤ n
  hw : t.wr.length ≤ n
  hm : t.marks.length ≤ n
end Go.Proofs.YtghfijncihbojaaGreat

set_option linter.unusedSimpArgs false
set_option linter.unusedVariables false
set_option linter.unnecessarySimpa false
namespace Go.Proofs.YtghfijncihbojaaGreat
open Go Go.RowKit
/-- A told row can be read; each of some. -/
def RD.sees (w : World) (r : RD) : Prop := Sees w r.v r.k r.n r.cs
def SeesA (w : World) (rs : List RD) : Prop := ∀ r ∈ rs, r.sees w
section
variable {w0 w : World} {D : List Nat} {L F : List Res} {rs A B C : List RD} {r : RD}
theorem SeesA.nil : SeesA w [] := fun _ h => by cases h
theorem SeesA.cons (h : r.sees w) (h' : SeesA w rs) : SeesA w (r :: rs) := fun q hq => by
  rcases List.mem_cons.1 hq with rfl | hq
  · exact h
  · exact h' q hq
theorem SeesA.head (h : SeesA w (r :: rs)) : r.sees w := h r (List.mem_cons_self ..)
theorem SeesA.tail (h : SeesA w (r :: rs)) : SeesA w rs := fun q hq => h q (List.mem_cons_of_mem _ hq)
theorem ownsR_sees {t k n : Nat} {v : Value} {cs : List Value} (h : World.ownsR w 0 t k v n cs) : Sees w v k n cs := by
  refine ⟨h.1, ?_⟩
  rcases h.2 with ⟨hv, rfl⟩ | ⟨g, cap, cur, hv, _, hg, h1, h2, h3, h4⟩
  · exact .inl ⟨hv, rfl⟩
  · subst hv
    refine .inr ⟨g, 0, cap, rfl, h1, h2, hg.lt, fun j u hj => ?_⟩
    obtain ⟨g', hg', hcell⟩ := row_cell h hj
    simp only [Option.some.injEq, Addr.mk.injEq, and_true] at hg'
    rw [Nat.zero_add, hg']
    exact hcell
theorem St.seeRows (hw : St w0 D L w) (i : Nat) (hL : L[i]? = some (.rows rs)) : SeesA w rs := fun r hr => ownsR_sees (hw.get hL r hr)
theorem St.seeOutA (hw : St w0 D L w) (hs : SeesA w0 rs) (hD : ∀ r ∈ rs, ∀ b, r.v.ownBlock = some b → b ∉ D) : SeesA w rs := fun r hr => hw.seeOut_ (hs r hr) (hD r hr)
theorem nMA : ∀ r ∈ rs, ∀ b, r.v.ownBlock = some b → b ∉ ([] : List Nat) := fun _ _ _ _ => List.not_mem_nil
/-- It can be read, or it is empty, wherever it points. -/
def SeesE (w : World) (v : Value) (k m : Nat) (cs : List Value) : Prop := Sees w v k m cs ∨ ((∃ a, v = .slice a 0 0) ∧ m = 0 ∧ cs = [])
def SeesAE (w : World) (rs : List RD) : Prop := ∀ r ∈ rs, SeesE w r.v r.k r.n r.cs
theorem SeesAE.nil : SeesAE w [] := fun _ h => by cases h
theorem SeesAE.cons (h : SeesE w r.v r.k r.n r.cs) (h' : SeesAE w rs) : SeesAE w (r :: rs) := fun q hq => by
  rcases List.mem_cons.1 hq with rfl | hq
  · exact h
  · exact h' q hq
theorem SeesAE.head (h : SeesAE w (r :: rs)) : SeesE w r.v r.k r.n r.cs := h r (List.mem_cons_self ..)
theorem SeesAE.tail (h : SeesAE w (r :: rs)) : SeesAE w rs := fun q hq => h q (List.mem_cons_of_mem _ hq)
/- the owned rows, parted and joined -/
theorem St.openR (i : Nat) (hp : pick [i] L = some ([.rows A], F)) (hw : St w0 D L w) : St w0 D (A.map RD.res ++ F) w := St.openRows (hw.perm (pick_perm [i] hp).symm)
theorem St.closeR (is : List Nat) (hp : pick is L = some (A.map RD.res, F)) (hw : St w0 D L w) : St w0 D (.rows A :: F) w := St.closeRows (hw.perm (pick_perm is hp).symm)
end
section
variable {P : Program} {ops : Array Oper} {Q : Exit → Act → World → Prop} {n : Nat} {w0 : World} {D : List Nat} {L L' : List Res} {e : Env}
theorem kg {c : Code} (g : ∀ w, St w0 D L w → St w0 D L' w) (h : JC P Q n w0 D L' c e) : JC P Q n w0 D L c e := fun w hw => h w (g w hw)
theorem kO {x : Exit} (g : ∀ w, St w0 D L w → St w0 D L' w) (h : JQ Q x n w0 D L' e) : JQ Q x n w0 D L e := fun w hw => h w (g w hw)
theorem St.eqL {w : World} (hL : L = L') (hw : St w0 D L w) : St w0 D L' w := hL ▸ hw
section
variable {d : Option Tmp} {ty : TypeId} {pos : String} {aft : Array Edge} {gd : Option (Nat × Bool)}
theorem equal_bool {t : TypeId} (ht : P.underlying t = some .bool) (a b : Bool) (w : World) : (Op.equal t (.bool a) (.bool b)).run P w = .ok (decide (a = b)) w := by
  have h : ∀ d : Nat, (Op.equalIn (d + 1) t (.bool a) (.bool b)).run P w = .ok (decide (a = b)) w := fun d => by
    cases a <;> cases b <;> simp [Op.equalIn, run_underlying ht]
  simp only [Op.equal, Op.maxDepth, h 9999]
theorem PO.neqB {x y : Operand} {a b : Bool} {t u : TypeId} (ht : P.underlying t = some .bool) (hx : rd n e x = .bool a) (hy : rd n e y = .bool b) : PO P n e ⟨d, .binOp .neq t x y u, ty, pos, aft, gd⟩ (.bool (!decide (a = b))) := fun w => by
  simp [execOp, hx, hy, eqGuard, binOp, equal_bool ht]
end
end
/- a row one of whose elements is told cell by cell -/
section
variable {α : Type} {enc : α → List Value} {k : Nat} {Q R : List α} {j : Nat} {cs : List Value}
/- marks of elements that take as many as they are great -/
variable {mk : α → Nat → α} {ct : α → Nat}
end
/- ghosts on rows told cell by cell -/
end Go.Proofs.YtghfijncihbojaaGreat

set_option linter.unusedSimpArgs false
set_option linter.unusedVariables false
set_option linter.unnecessarySimpa false
namespace Go.Proofs.YtghfijncihbojaaGreat
open Go Go.RowKit
attribute [local irreducible] JL JC JQ JO LO PO JA JX Ct

theorem N_big (pa : Option Addr) (pc : Nat) (p : Str) :
    Ct Tryz.prog 5 [.slice pa p.length pc] [] (fun _ => True) (fun v A' => v = .bool (decide (1048576 < ((p.length : Nat) : Int))) ∧ A' = []) := by
  refine Ct.intro Tryz.func5 rfl Tryz.ntmps5 (lb rfl) fun w0 hpre => ?_
  refine jC <| jE <| jA (jG (v := .bool false) rfl) <| jD <| jB <| jC <| jE <| jA (jF (v := .slice pa p.length pc) rfl) <| jA (jp gM rfl) <| jA (ke rfl rfl) ?_
  refine jA (jG (v := .bool (decide (1048576 < ((p.length : Nat) : Int)))) rfl) <| jD <| jB <| jL <| jR (.inl rfl) rfl (jN (v := .bool (decide (1048576 < ((p.length : Nat) : Int)))) rfl) (List.nil_sublist _) ?_
  exact ⟨rfl, rfl⟩

end Go.Proofs.YtghfijncihbojaaGreat
