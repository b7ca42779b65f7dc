/-
  Texts of the walk, joined: what each one proves stands at its theorems.
-/
import Derived.Test.YtghfijncihbojaaGreatDatD
import Derived.Test.YtghfijncihbojaaGreatDatC
import Derived.Lib.SmallJoins
import Derived.Shelf.Small.Wraps
import Derived.Shelf.Strings.Prefix
import Derived.Test.YtghfijncihbojaaGreatProg
import Derived.Lib.Strings
import Derived.Lib.HexFns2
import Derived.Lib.ConvBytes
set_option linter.unusedSimpArgs false
set_option linter.unusedVariables false
set_option linter.unnecessarySimpa false
namespace Go.Proofs.YtghfijncihbojaaGreat
open Go Go.RowKit
attribute [local irreducible] JL JC JQ JO LO PO JA JX Ct

theorem N_begins (s : Str) (p : Str) (hs : s.length ≤ 1000000000000) (hp : p.length ≤ 1000000000000) :
    Ct Tryz.prog 259 [str s, str p] ([]) (fun _ => True) (fun v A' => ∃ r0, prefixB s p = r0 ∧ v = .bool r0 ∧ A' = []) := by
  refine Ct.intro Tryz.func259 rfl Tryz.ntmps259 (lb rfl) fun w0 hpre => ?_
  refine jC <| jE <| jA (jG (v := .bool false) rfl) <| jD <| jB <| jC <| jE <| jA (jF (v := str s) rfl) <| jA (kV ky rfl) <| jA (jF (v := str p) rfl) ?_
  refine jA (kV ky rfl) <| jA (kh rfl rfl) <| jA (jF (v := .bool (decide ((p.length : Int) ≤ (s.length : Int)))) rfl) ?_
  by_cases h_1 : (p.length : Int) ≤ (s.length : Int)
  · refine jZ rfl rfl rfl (cB (dT h_1)) (ja (jf (jF (v := str s) rfl))) ?_
    rintro _ _ ⟨rfl, rfl⟩
    refine jZ rfl rfl rfl (cB (dT h_1)) (ja (jf (jF (v := str p) rfl))) ?_
    rintro _ _ ⟨rfl, rfl⟩
    refine jZ rfl rfl rfl (cB (dT h_1)) (ja (jf (kV ky rfl))) ?_
    rintro _ _ ⟨rfl, rfl⟩
    refine jZ rfl rfl rfl (cB (dT h_1)) (ja (jf (PO.sliceSh (j := p.length) ky rfl rfl (by omega)))) ?_
    rintro _ _ ⟨rfl, rfl⟩
    refine jZ rfl rfl rfl (cB (dT h_1)) (ja (jf (jF (v := str p) rfl))) ?_
    rintro _ _ ⟨rfl, rfl⟩
    refine jZ rfl rfl rfl (cB (dT h_1)) (ja (jf (PO.eqlS rfl rfl))) ?_
    rintro _ _ ⟨rfl, rfl⟩
    refine jA (kG (v := .bool (decide ((s.take p.length) = p))) (cB (dT h_1)) rfl) <| jA (jG (v := .bool (decide ((s.take p.length) = p))) rfl) <| jD <| jB <| jL <| jR (.inl rfl) rfl (jN (v := .bool (decide ((s.take p.length) = p))) rfl) (List.nil_sublist _) ?_
    exact ⟨(decide ((s.take p.length) = p)), (by rw [begins_eq]; first | (simp_all; done) | (simp_all; intros; omega)), rfl, rfl⟩
  refine jS (b := false) rfl rfl rfl (cB (dF h_1)) <| jS (b := false) rfl rfl rfl (cB (dF h_1)) <| jS (b := false) rfl rfl rfl (cB (dF h_1)) <| jS (b := false) rfl rfl rfl (cB (dF h_1)) <| jS (b := false) rfl rfl rfl (cB (dF h_1)) <| jS (b := false) rfl rfl rfl (cB (dF h_1)) <| jA (jv (v := .bool false) (cB (dF h_1)) rfl) <| jA (jG (v := .bool false) rfl) <| jD <| jB ?_
  refine jL <| jR (.inl rfl) rfl (jN (v := .bool false) rfl) (List.nil_sublist _) ?_
  exact ⟨false, (by rw [begins_eq]; first | (simp_all; done) | (simp_all; intros; omega)), rfl, rfl⟩

theorem N_skeysUnder (sa : Option Addr) (sc : Nat) (s : List Cell) (p : Str) (hs : s.length ≤ 1000000000) (hp : p.length ≤ 1000000000) (hlong : ∀ j, j < s.length → (s.getD j c0).1.length ≤ 1000000000) :
    Ct Tryz.prog 253 [.slice sa s.length sc, str p] ([]) (fun w => Sees w (.slice sa s.length sc) 2 s.length (s.flatMap encC)) (fun v A' => ∃ r0a r0c r0, keysUnder s p = r0 ∧ r0.length ≤ s.length ∧ v = .slice r0a r0.length r0c ∧ A' = [rS r0a r0c r0]) := by
  refine Ct.intro Tryz.func253 rfl Tryz.ntmps253 (lb rfl) fun w0 hpre => ?_
  have hs_sa : Sees w0 _ _ _ _ := hpre
  refine jC <| jE <| jA (jG (v := .slice none 0 0) rfl) <| jD <| jB <| jC <| jE ?_
  refine jH rfl (kJ (ps := []) (cur := #[]) ks kw gQ rfl (by kernel_rfl) (by decide) (by decide)) ?_
  rintro _ _ ⟨a_1, rfl, rfl⟩
  refine jA (jG (v := .slice a_1 0 0) rfl) <| jD <| jB <| jC <| jC <| jE <| jA (jG (v := iv 0) rfl) <| jD <| jB <| jg ?_
  refine kC (fun k_ e_ L_ => ∃ j : Nat, ∃ out_a : Option Addr, ∃ out_c : Nat, ∃ out_ : List Str, (j ≤ s.length) ∧ (out_.length ≤ j) ∧ (underL p (s.drop j) out_ = underL p s ([] : List Str)) ∧ e_ 0 = .slice sa s.length sc ∧ e_ 1 = str p ∧ e_ 4 = .slice none 0 0 ∧ e_ 5 = .slice out_a out_.length out_c ∧ e_ 6 = nv j ∧ L_ = [rS out_a out_c out_] ∧ k_ = s.length - j) _ ⟨0, a_1, 0, ([] : List Str), by omega, (by first | omega | (simp only [LE]; omega)), rfl, rfl, rfl, rfl, rfl, rfl, rfl, rfl⟩ ?_
  rintro _ e_2 _ ⟨j, out_a, out_c, out_, hj, ho, hR, he_3, he_4, he_5, he_6, he_7, rfl, rfl⟩
  refine jC <| jC <| jE <| jA (jF (v := nv j) he_7) <| jA (jF (v := .slice sa s.length sc) he_3) <| jA (jp gC rfl) <| jA (jo rfl rfl) <| jD <| jB ?_
  by_cases h_8 : ((j : Nat) : Int) < ((s.length : Nat) : Int)
  · have hlt : j < s.length := by omega
    have hlj := hlong j hlt
    refine jO (cB (dT h_8)) <| jU <| jB <| jC <| jg <| jC <| jE <| jA (jF (v := .slice sa s.length sc) he_3) <| jA (jF (v := nv j) he_7) ?_
    obtain ⟨hr_9, hr_9b, -⟩ := sees_some hs_sa (by omega)
    refine jA (jl (i := j) gC gJ hr_9 hr_9b rfl rfl (by omega)) <| jA (kD fo167_0 hr_9 rfl) <| jK (kK (v := str ((s.getD j c0).1)) hs_sa nM rfl kv (atC1 (by omega))) <| jA (jF (v := str p) he_4) ?_
    refine jH rfl (jM [] Tryz.call259 rfl (N_begins ((s.getD j c0).1) p (by omega) (by omega)) rfl (fun _ _ => trivial)) ?_
    rintro _ _ ⟨_, ⟨b_12, e_10, rfl, rfl⟩, rfl⟩
    refine jD <| jB ?_
    rcases Bool.eq_false_or_eq_true (b_12) with h_13 | h_13
    · refine jO (cB h_13) <| jE <| jA (jF (v := .slice out_a out_.length out_c) he_6) <| jA (jF (v := .slice sa s.length sc) he_3) <| jA (jF (v := nv j) he_7) <| jA (jl (i := j) gC gJ hr_9 hr_9b rfl rfl (by omega)) <| jA (kD fo167_0 hr_9 rfl) <| jK (kK (v := str ((s.getD j c0).1)) hs_sa nM rfl kv (atC1 (by omega))) ?_
      refine jH rfl (kJ (ps := [(0, str ((s.getD j c0).1))]) (cur := #[str ((s.getD j c0).1)]) ks kw gQ rfl (by kernel_rfl) (by decide) (by decide)) ?_
      rintro _ _ ⟨a_14, rfl, rfl⟩
      refine jH rfl (kM 1 (q := 1) (news := ([(s.getD j c0).1] : List Str).map str) (n' := (out_ ++ ([(s.getD j c0).1] : List Str)).length) (cs' := (out_ ++ ([(s.getD j c0).1] : List Str)).map str) rfl ks ks gO rfl (by' := 16) rfl rfl rfl rfl rfl (fun w hw => Src.sees (hw.see (i := 0) rfl) (oneS _)) (by (try simp only [LE]); omega) (by (try simp only [LE]); omega) (by simp only [List.length_append, List.length_take, List.length_drop, List.length_cons, List.length_nil] <;> first | rfl | omega) (by simp only [List.map_append])) ?_
      rintro _ _ ⟨a_15, c_16, rfl, rfl⟩
      refine jA (jG (v := .slice a_15 ((out_ ++ ([(s.getD j c0).1] : List Str)).length) c_16) rfl) <| jD <| jk <| jB <| jE <| jA (jF (v := nv j) he_7) <| jA (ji (c := ((j + 1 : Nat) : Int)) rfl rfl (wr (by omega))) <| jA (jG (v := iv ((j + 1 : Nat) : Int)) rfl) <| jD <| kH [1] (A := [rS a_15 c_16 (out_ ++ ([(s.getD j c0).1] : List Str))]) rfl ?_
      refine ju (s.length - (j + 1)) (by omega) ⟨j + 1, a_15, c_16, (out_ ++ ([(s.getD j c0).1] : List Str)), by omega, (by first | omega | (simp only [LE]; omega)), (by rw [drop_at (getD_some (d := c0) hlt)] at hR; simp only [underL, h_8, e_10, h_13, SB] at hR; (repeat (first | rw [if_pos (by omega)] at hR | rw [if_neg (by omega)] at hR)); exact hR), he_3, he_4, he_5, rfl, rfl, rfl, rfl⟩
    refine jP (cB h_13) <| jU <| jk <| jB <| jE <| jA (jF (v := nv j) he_7) <| jA (ji (c := ((j + 1 : Nat) : Int)) rfl rfl (wr (by omega))) <| jA (jG (v := iv ((j + 1 : Nat) : Int)) rfl) <| jD <| kH [0] (A := [rS out_a out_c out_]) rfl ?_
    refine ju (s.length - (j + 1)) (by omega) ⟨j + 1, out_a, out_c, out_, by omega, (by first | omega | (simp only [LE]; omega)), (by rw [drop_at (getD_some (d := c0) hlt)] at hR; simp only [underL, h_8, e_10, h_13, SB] at hR; (repeat (first | rw [if_pos (by omega)] at hR | rw [if_neg (by omega)] at hR)); exact hR), he_3, he_4, he_5, he_6, rfl, rfl, rfl⟩
  rw [List.drop_of_length_le (by omega)] at hR
  simp only [underL] at hR
  have hE := hR.symm
  refine jP (cB (dF h_8)) <| jz <| jj <| jj <| kA <| jB <| jC <| jE <| jA (jF (v := .slice out_a out_.length out_c) he_6) <| jA (jG (v := .slice out_a out_.length out_c) rfl) ?_
  refine jD <| jB <| jL <| jR (.inl rfl) rfl (jN (v := .slice out_a out_.length out_c) rfl) (List.Sublist.refl _) ?_
  exact ⟨out_a, out_c, out_, (by rw [← underL_nil]; exact hE), (by first | omega | (simp only [LE]; omega)), rfl, rfl⟩

theorem N_sUnder (x : MA) (m : MS) {S T : Nat} (hk : m.ok S T) (hS : S ≤ 900000000) (hT : T ≤ 900000000) (p_ : Str) (hp_ : p_.length ≤ 100000000) :
    Ct Tryz.prog 221 [mv x m, str p_] (mr x m) (fun _ => True) (fun v A' => ∃ x' m' r0a r0c r0, MS.under m p_ = (m', r0) ∧ m'.ok (S) (T + 1) ∧ okL S p_.length r0 ∧ v = .tuple #[mv x' m', .slice r0a r0.length r0c] ∧ A' = mr x' m' ++ [rS r0a r0c r0]) := by
  obtain ⟨hk0, hk1, hk2, hk3⟩ := id hk
  refine Ct.intro Tryz.func221 rfl Tryz.ntmps221 (lb rfl) fun w0 hpre => ?_
  refine jC <| jE ?_
  refine jH rfl (jy (cs := (mc x m)) rfl rfl) ?_
  rintro _ _ ⟨b_1, rfl, rfl⟩
  refine jH rfl (jn (z := zM) (cs := zC) gI rfl) ?_
  rintro _ _ ⟨b_2, rfl, rfl⟩
  refine jA (jG (v := .slice none 0 0) rfl) <| jD <| jB <| jC <| jE <| jA (jJ fo99_1 rfl) <| jA (jJ fo28_0 rfl) <| jK (jV 1 (v := .slice x.a1 m.r.length x.c1) rfl rfl gF rfl) <| jA (jF (v := str p_) rfl) <| jA (ki rfl rfl (by (try simp only [List.length_append, List.length_cons, List.length_nil, List.length_drop, List.length_take]); omega)) ?_
  refine jH rfl (jM [] Tryz.call97 rfl (C_sAddSpan x.a1 x.c1 m.r (p_ ++ [42]) (by omega)) rfl (fun w hw => hw.see (i := 3) rfl)) ?_
  rintro _ _ ⟨_, ⟨a_3, c_4, rfl, rfl⟩, rfl⟩
  refine jA (jJ fo99_1 rfl) <| jA (jJ fo28_0 rfl) ?_
  refine jH rfl (jT 2 (vs := [.slice a_3 ((addSpan m.r (p_ ++ [42])).length) c_4]) (cs' := [.slice x.a0 m.s.length x.c0, .slice a_3 ((addSpan m.r (p_ ++ [42])).length) c_4, .slice x.a2 m.w.length x.c2]) rfl rfl rfl rfl gt rfl rfl (lb rfl) rfl) ?_
  rintro _ _ rfl
  refine jD <| jB <| jC <| jr [bk b_1 99 [.slice x.a0 m.s.length x.c0, .slice a_3 ((addSpan m.r (p_ ++ [42])).length) c_4, .slice x.a2 m.w.length x.c2]] 6 mixed (by simp) <| jh 0 rfl (jX 0 (vs := [.slice x.a0 m.s.length x.c0, .slice a_3 ((addSpan m.r (p_ ++ [42])).length) c_4, .slice x.a2 m.w.length x.c2]) rfl rfl gy gk rfl rfl) <| jI 1 rfl (jJ fo99_0 rfl) <| jh 2 rfl (jV 0 (v := .slice x.a0 m.s.length x.c0) rfl rfl gY rfl) <| jI 3 rfl (jF (v := str p_) rfl) <| jQ (i := 4) ?_
  refine jY rfl rfl (jM [] Tryz.call253 rfl (N_skeysUnder x.a0 x.c0 m.s p_ (by have hl_ := hk.1; omega) (by omega) (fun j hj => Nat.le_trans (hk.2.2.2 _ (getD_mem hj)).1 (by decide))) rfl (fun w hw => hw.see (i := 3) rfl)) ?_
  rintro _ _ ⟨_, ⟨l_11a, l_11c, l_11, e_9, f_12, rfl, rfl⟩, rfl⟩
  refine ⟨(by simp), ?_⟩
  refine jQ (i := 5) ?_
  refine jY rfl rfl (jT 2 (vs := [.slice x.a0 m.s.length x.c0, .slice a_3 ((addSpan m.r (p_ ++ [42])).length) c_4, .slice x.a2 m.w.length x.c2]) (cs' := [.slice x.a0 m.s.length x.c0, .slice a_3 ((addSpan m.r (p_ ++ [42])).length) c_4, .slice x.a2 m.w.length x.c2]) rfl rfl rfl rfl gk rfl rfl (lb rfl) rfl) ?_
  rintro _ _ rfl
  refine ⟨(by simp), ?_⟩
  refine jI 6 rfl (jG (v := .slice l_11a l_11.length l_11c) rfl) <| kI (by kernel_rfl) <| jB <| jL <| kR (pick_perm [4, 1, 4, 0] (A := [rC x.a0 x.c0 m.s, rS a_3 c_4 (addSpan m.r (p_ ++ [42])), rS x.a2 x.c2 m.w, rS l_11a l_11c l_11]) (F := [bk b_2 99 [.slice x.a0 m.s.length x.c0, .slice a_3 ((addSpan m.r (p_ ++ [42])).length) c_4, .slice x.a2 m.w.length x.c2], bk b_1 99 [.slice x.a0 m.s.length x.c0, .slice a_3 ((addSpan m.r (p_ ++ [42])).length) c_4, .slice x.a2 m.w.length x.c2], rS x.a1 x.c1 m.r]) rfl).symm <| kB (.inl rfl) rfl (je (jX 4 (vs := [.slice x.a0 m.s.length x.c0, .slice a_3 ((addSpan m.r (p_ ++ [42])).length) c_4, .slice x.a2 m.w.length x.c2]) rfl rfl gy gk rfl rfl) ⟨_, rfl⟩) (jN (v := .slice l_11a l_11.length l_11c) rfl) (tS 4 _) ?_
  subst e_9
  exact ⟨⟨x.a0, x.c0, a_3, c_4, x.a2, x.c2⟩, (m.under p_).1, l_11a, l_11c, _, rfl, hk.under p_, keysUnder_ok hk p_, rfl, rfl⟩

theorem M_wipe (x : MA) (m : MS) {S T : Nat} (hk : m.ok S T) (hS : S ≤ 400000000) (hT : T ≤ 400000000) (p_ : Str) (hp_ : p_.length ≤ 100000000) :
    Ct Tryz.prog 209 [mv x m, str p_] (mr x m) (fun _ => True) (fun v A' => ∃ x' m', MS.wipe' m p_ = m' ∧ m'.ok (S) (T + S + 1) ∧ v = mv x' m' ∧ A' = mr x' m') := by
  refine Ct.intro Tryz.func209 rfl Tryz.ntmps209 (lb rfl) fun w0 hpre => ?_
  refine jC <| jE ?_
  refine jH rfl (jy (cs := (mc x m)) rfl rfl) ?_
  rintro _ _ ⟨b_1, rfl, rfl⟩
  refine jH rfl (jn (z := zM) (cs := zC) gI rfl) ?_
  rintro _ _ ⟨b_2, rfl, rfl⟩
  refine jD <| jB <| jC <| jE <| jK (jc 1 x m rfl rfl) <| jA (jF (v := str p_) rfl) ?_
  refine jH rfl (jM [2, 2, 2] Tryz.call221 rfl (N_sUnder x m hk (by omega) (by omega) p_ (by omega)) rfl (fun _ _ => trivial)) ?_
  rintro _ _ ⟨_, ⟨x_5, m_6, l_7a, l_7c, l_7, e_3, k_4, f_8, rfl, rfl⟩, rfl⟩
  refine jA (jF (v := .tuple #[mv x_5 m_6, .slice l_7a l_7.length l_7c]) rfl) <| jA (jb (v := mv x_5 m_6) rfl rfl) <| jA (jb (v := .slice l_7a l_7.length l_7c) rfl rfl) ?_
  refine jH rfl (jm 5 x_5 m_6 rfl rfl rfl rfl) ?_
  rintro _ _ rfl
  refine jA (jG (v := .slice l_7a l_7.length l_7c) rfl) <| jD <| jB <| jC <| jC <| jE <| jA (jG (v := iv 0) rfl) <| jD <| jB <| jg ?_
  have hll := f_8.1
  refine JC.perm (pick_perm [5, 0, 0, 0, 0, 0] (A := [mb b_1 x_5 m_6, rC x_5.a0 x_5.c0 m_6.s, rS x_5.a1 x_5.c1 m_6.r, rS x_5.a2 x_5.c2 m_6.w, rS l_7a l_7c l_7, bk b_2 99 zC]) (F := []) rfl).symm <| kC (fun k_ e_ L_ => ∃ j : Nat, ∃ x : MA, ∃ mm : MS, (j ≤ l_7.length) ∧ (mm.ok (S) (T + 1 + j)) ∧ (MS.wipeL (l_7.drop j) mm = MS.wipeL l_7 m_6) ∧ e_ 2 = .pointer (some ⟨b_1, 0, none⟩) ∧ e_ 4 = .pointer (some ⟨b_2, 0, none⟩) ∧ e_ 5 = .slice l_7a l_7.length l_7c ∧ e_ 6 = nv j ∧ L_ = [mb b_1 x mm, rC x.a0 x.c0 mm.s, rS x.a1 x.c1 mm.r, rS x.a2 x.c2 mm.w, rS l_7a l_7c l_7, bk b_2 99 zC] ∧ k_ = l_7.length - j) _ ⟨0, x_5, m_6, by omega, (k_4.mono (by omega) (by omega)), rfl, rfl, rfl, rfl, rfl, rfl, rfl⟩ ?_
  rintro _ e_9 _ ⟨j, x, mm, hj, hkmm, hR, he_10, he_11, he_12, he_13, rfl, rfl⟩
  refine jC <| jC <| jE <| jA (jF (v := nv j) he_13) <| jA (jF (v := .slice l_7a l_7.length l_7c) he_12) <| jA (jp ks rfl) <| jA (jo rfl rfl) <| jD <| jB ?_
  by_cases h_14 : ((j : Nat) : Int) < ((l_7.length : Nat) : Int)
  · have hlt : j < l_7.length := by omega
    have hbj := f_8.2 j hlt
    try simp only [List.length_cons, List.length_nil] at hbj
    refine jO (cB (dT h_14)) <| jU <| jB <| jC <| jg <| jr [mb b_1 x mm] 5 mixed (by simp) <| jh 0 rfl (jc 0 x mm rfl he_10) <| jI 1 rfl (jF (v := .slice l_7a l_7.length l_7c) he_12) <| jI 2 rfl (jF (v := nv j) he_13) ?_
    refine JA.facts fun hst => ?_
    obtain ⟨hr_15, hr_15b, -⟩ := row_some 4 rfl (by omega) hst
    refine jI 3 rfl (jl (i := j) ks kw hr_15 hr_15b rfl rfl (by omega)) <| jQ (i := 4) ?_
    refine jY rfl rfl (ja (kl 4 (v := str (l_7.getD j [])) rfl rfl kv (atS (by omega)))) ?_
    rintro _ _ ⟨rfl, rfl⟩
    refine ⟨(by simp), ?_⟩
    refine jQ (i := 5) ?_
    refine kF rfl (jM [1, 1, 1] Tryz.call171 rfl (N_sLayNil x mm hkmm (by omega) (by omega) (l_7.getD j []) (by omega)) rfl (fun _ _ => trivial)) ?_
    rintro _ _ ⟨_, ⟨x_22, m_23, e_20, k_21, rfl, rfl⟩, rfl⟩
    refine jQ (i := 6) ?_
    refine jx rfl (jm 3 x_22 m_23 rfl he_10 rfl rfl) ?_
    rintro _ _ rfl
    refine jk <| jB <| jE <| jA (jF (v := nv j) he_13) <| jA (ji (c := ((j + 1 : Nat) : Int)) rfl rfl (wr (by omega))) <| jA (jG (v := iv ((j + 1 : Nat) : Int)) rfl) <| jD <| kH [3, 0, 0, 0, 0, 0] (A := [mb b_1 x_22 m_23, rC x_22.a0 x_22.c0 m_23.s, rS x_22.a1 x_22.c1 m_23.r, rS x_22.a2 x_22.c2 m_23.w, rS l_7a l_7c l_7, bk b_2 99 zC]) rfl ?_
    refine ju (l_7.length - (j + 1)) (by omega) ⟨j + 1, x_22, m_23, by omega, (k_21.mono (by omega) (by omega)), (by rw [drop_at (getD_some (d := []) hlt)] at hR; simp only [MS.wipeL, e_3, h_14, e_20, SB] at hR; (repeat (first | rw [if_pos (by omega)] at hR | rw [if_neg (by omega)] at hR)); exact hR), he_10, he_11, he_12, rfl, rfl, rfl⟩
  rw [List.drop_of_length_le (by omega)] at hR
  simp only [MS.wipeL] at hR
  have hE := hR.symm
  refine jP (cB (dF h_14)) <| jz <| jj <| jj <| kA <| jB <| jC <| jE <| jK (jc 0 x mm rfl he_10) ?_
  refine jH rfl (jm 5 x mm rfl he_11 rfl rfl) ?_
  rintro _ _ rfl
  refine jD <| jB <| jL <| kR (pick_perm [1, 1, 1] (A := [rC x.a0 x.c0 mm.s, rS x.a1 x.c1 mm.r, rS x.a2 x.c2 mm.w]) (F := [mb b_1 x mm, rS l_7a l_7c l_7, mb b_2 x mm]) rfl).symm <| jR (.inl rfl) rfl (je (jc 5 x mm rfl he_11) ⟨_, he_11⟩) (tS 3 _) ?_
  exact ⟨x, mm, (by simp only [MS.wipe', e_3, h_14, hE, SB]; (repeat (first | rw [if_pos (by omega)] | rw [if_neg (by omega)])); all_goals (first | rfl | simp only [SB, e_3, h_14, hE])), (hkmm.mono (by omega) (by omega)), rfl, rfl⟩

theorem M_makePipe (x : MA) (m : MS) {S T : Nat} (hk : m.ok S T) (hS : S ≤ 300000000) (hT : T ≤ 300000000)  :
    Ct Tryz.prog 157 [mv x m] (mr x m) (fun _ => True) (fun v A' => ∃ x' m' r0 r1, MS.makePipe m = (m', r0, r1) ∧ m'.ok (S + 2) (T + 3) ∧ (0 ≤ r0 ∧ r0 ≤ 999) ∧ (0 ≤ r1 ∧ r1 ≤ 9) ∧ v = .tuple #[mv x' m', .int .i64 r0, .int .i64 r1] ∧ A' = mr x' m') := by
  refine Ct.intro Tryz.func157 rfl Tryz.ntmps157 (lb rfl) fun w0 hpre => ?_
  refine jC <| jE ?_
  refine jH rfl (jy (cs := (mc x m)) rfl rfl) ?_
  rintro _ _ ⟨b_1, rfl, rfl⟩
  refine jH rfl (jn (z := zM) (cs := zC) gI rfl) ?_
  rintro _ _ ⟨b_2, rfl, rfl⟩
  refine jA (jG (v := iv 0) rfl) <| jA (jG (v := iv 0) rfl) <| jD <| jB <| jC <| jE <| jK (jc 1 x m rfl rfl) ?_
  refine jH rfl (jM [2, 2, 2] Tryz.call98 rfl (N_sNumAt x m hk (by omega) (by omega) [99, 47, 112, 105, 112, 101]) rfl (fun _ _ => trivial)) ?_
  rintro _ _ ⟨_, ⟨x_5, m_6, n_7, e_3, k_4, f_8, rfl, rfl⟩, rfl⟩
  refine jA (jF (v := .tuple #[mv x_5 m_6, iv n_7]) rfl) <| jA (jb (v := mv x_5 m_6) rfl rfl) <| jA (jb (v := iv n_7) rfl rfl) ?_
  refine jH rfl (jm 4 x_5 m_6 rfl rfl rfl rfl) ?_
  rintro _ _ rfl
  refine jA (jG (v := iv n_7) rfl) <| jD <| jB <| jC <| jC <| jE <| jA (jF (v := iv n_7) rfl) <| jA (kh rfl rfl) <| jD <| jB ?_
  by_cases h_9 : 8 ≤ n_7
  · refine jO (cB (dT h_9)) <| jC <| jE <| jK (jc 4 x_5 m_6 rfl rfl) ?_
    refine jH rfl (jm 3 x_5 m_6 rfl rfl rfl rfl) ?_
    rintro _ _ rfl
    refine jA (jG (v := iv 0) rfl) <| jA (jG (v := iv 3) rfl) <| jD <| jB <| jL <| jW <| ka (.inl rfl) rfl (je (jc 3 x_5 m_6 rfl rfl) ⟨_, rfl⟩) (jN (v := iv 0) rfl) (jN (v := iv 3) rfl) (tS 3 _) ?_
    exact ⟨x_5, m_6, 0, 3, (by simp only [MS.makePipe, e_3, h_9, SB]; (repeat (first | rw [if_pos (by omega)] | rw [if_neg (by omega)])); all_goals (first | rfl | simp only [SB, e_3, h_9])), (k_4.mono (by omega) (by omega)), (by first | omega | (simp only [LE]; omega)), (by first | omega | (simp only [LE]; omega)), rfl, rfl⟩
  refine jP (cB (dF h_9)) <| jU <| jB <| jC <| jE <| jK (jc 4 x_5 m_6 rfl rfl) ?_
  refine jH rfl (jM [0, 0, 0] Tryz.call99 rfl (N_sBump x_5 m_6 k_4 (by omega) (by omega) [99, 47, 112, 105, 112, 101] (by decide)) rfl (fun _ _ => trivial)) ?_
  rintro _ _ ⟨_, ⟨x_12, m_13, n_14, e_10, k_11, f_15, rfl, rfl⟩, rfl⟩
  refine jA (jF (v := .tuple #[mv x_12 m_13, iv n_14]) rfl) <| jA (jb (v := mv x_12 m_13) rfl rfl) <| jA (jb (v := iv n_14) rfl rfl) ?_
  refine jH rfl (jm 4 x_12 m_13 rfl rfl rfl rfl) ?_
  rintro _ _ rfl
  refine jA (jG (v := iv n_14) rfl) <| jD <| jB <| jC <| jr [mb b_1 x_12 m_13] 5 mixed (by simp) <| jh 0 rfl (jc 0 x_12 m_13 rfl rfl) <| jI 1 rfl (jF (v := iv n_14) rfl) <| jI 4 rfl (jF (v := iv n_14) rfl) <| jQ (i := 2) ?_
  refine jY rfl rfl (jM [] Tryz.call214 rfl (N_l08Key n_14 [47, 111] (by omega) (show List.length ([47, 111] : Str) ≤ 2 by decide) (by omega)) rfl (fun _ _ => trivial)) ?_
  rintro _ _ ⟨_, ⟨u_26, e_24, f_27, rfl, rfl⟩, rfl⟩
  refine ⟨(by simp), ?_⟩
  refine jQ (i := 3) ?_
  refine jY rfl rfl (jM [0, 0, 0] Tryz.call100 rfl (N_sSetNum x_12 m_13 k_11 (by omega) (by omega) u_26 1 (by omega) (by omega)) rfl (fun _ _ => trivial)) ?_
  rintro _ _ ⟨_, ⟨x_34, m_35, e_32, k_33, rfl, rfl⟩, rfl⟩
  refine ⟨(by simp), ?_⟩
  refine jQ (i := 5) ?_
  refine kF rfl (jm 3 x_34 m_35 rfl rfl rfl rfl) ?_
  rintro _ _ rfl
  refine jI 6 rfl (jG (v := iv n_14) rfl) <| jI 7 rfl (jG (v := iv 0) rfl) <| kI (by kernel_rfl) <| jB <| jL <| ka (.inl rfl) rfl (je (jc 3 x_34 m_35 rfl rfl) ⟨_, rfl⟩) (jN (v := iv n_14) rfl) (jN (v := iv 0) rfl) (tS 3 _) ?_
  exact ⟨x_34, m_35, n_14, 0, (by simp only [MS.makePipe, e_3, h_9, e_10, e_24, e_32, SB]; (repeat (first | rw [if_pos (by omega)] | rw [if_neg (by omega)])); all_goals (first | rfl | simp only [SB, e_3, h_9, e_10, e_24, e_32])), (k_33.mono (by omega) (by omega)), (by first | omega | (simp only [LE]; omega)), (by first | omega | (simp only [LE]; omega)), rfl, rfl⟩

theorem M_isPipe (x : MA) (m : MS) {S T : Nat} (hk : m.ok S T) (hS : S ≤ 700000000) (hT : T ≤ 700000000) (id : Int) (hid : -9223372036854775808 ≤ id ∧ id ≤ 9223372036854775807) :
    Ct Tryz.prog 215 [mv x m, .int .i64 id] (mr x m) (fun _ => True) (fun v A' => ∃ x' m' r0, MS.isPipe m id = (m', r0) ∧ m'.ok (S) (T + 1) ∧ v = .tuple #[mv x' m', .bool r0] ∧ A' = mr x' m') := by
  refine Ct.intro Tryz.func215 rfl Tryz.ntmps215 (lb rfl) fun w0 hpre => ?_
  refine jC <| jE ?_
  refine jH rfl (jy (cs := (mc x m)) rfl rfl) ?_
  rintro _ _ ⟨b_1, rfl, rfl⟩
  refine jH rfl (jn (z := zM) (cs := zC) gI rfl) ?_
  rintro _ _ ⟨b_2, rfl, rfl⟩
  refine jA (jG (v := .bool false) rfl) <| jD <| jB <| jC <| jr [mb b_1 x m] 7 mixed (by simp) <| jh 0 rfl (jc 0 x m rfl rfl) <| jI 1 rfl (jF (v := iv id) rfl) <| jQ (i := 2) ?_
  refine jY rfl rfl (jM [] Tryz.call214 rfl (N_l08Key id [47, 111] (by omega) (show List.length ([47, 111] : Str) ≤ 2 by decide) (by omega)) rfl (fun _ _ => trivial)) ?_
  rintro _ _ ⟨_, ⟨u_9, e_7, f_10, rfl, rfl⟩, rfl⟩
  refine ⟨(by simp), ?_⟩
  refine jQ (i := 3) ?_
  refine jY rfl rfl (jM [2, 2, 2] Tryz.call98 rfl (N_sNumAt x m hk (by omega) (by omega) u_9) rfl (fun _ _ => trivial)) ?_
  rintro _ _ ⟨_, ⟨x_19, m_20, n_21, e_17, k_18, f_22, rfl, rfl⟩, rfl⟩
  refine ⟨(by simp), ?_⟩
  refine jI 4 rfl (jF (v := .tuple #[mv x_19 m_20, iv n_21]) rfl) <| jI 5 rfl (jb (v := mv x_19 m_20) rfl rfl) <| jI 6 rfl (jb (v := iv n_21) rfl rfl) <| jQ (i := 7) ?_
  refine kF rfl (jm 4 x_19 m_20 rfl rfl rfl rfl) ?_
  rintro _ _ rfl
  refine jI 8 rfl (jG (v := iv n_21) rfl) <| kI (by kernel_rfl) <| jB <| jC <| jE <| jK (jc 4 x_19 m_20 rfl rfl) <| jA (jF (v := iv n_21) rfl) <| jA (jw rfl rfl) ?_
  refine jH rfl (jm 3 x_19 m_20 rfl rfl rfl rfl) ?_
  rintro _ _ rfl
  refine jA (jG (v := .bool (decide (n_21 = 1))) rfl) <| jD <| jB <| jL <| kB (.inl rfl) rfl (je (jc 3 x_19 m_20 rfl rfl) ⟨_, rfl⟩) (jN (v := .bool (decide (n_21 = 1))) rfl) (tS 3 _) ?_
  exact ⟨x_19, m_20, (decide (n_21 = 1)), (by simp only [MS.isPipe, e_7, e_17, SB]; (repeat (first | rw [if_pos (by omega)] | rw [if_neg (by omega)])); all_goals (first | rfl | simp only [SB, e_7, e_17])), (k_18.mono (by omega) (by omega)), rfl, rfl⟩

theorem M_state (x : MA) (m : MS) {S T : Nat} (hk : m.ok S T) (hS : S ≤ 700000000) (hT : T ≤ 700000000) (id : Int) (hid : -9223372036854775808 ≤ id ∧ id ≤ 9223372036854775807) :
    Ct Tryz.prog 149 [mv x m, .int .i64 id] (mr x m) (fun _ => True) (fun v A' => ∃ x' m' r0, MS.state m id = (m', r0) ∧ m'.ok (S) (T + 1) ∧ (0 ≤ r0 ∧ r0 ≤ 999) ∧ v = .tuple #[mv x' m', .int .i64 r0] ∧ A' = mr x' m') := by
  refine Ct.intro Tryz.func149 rfl Tryz.ntmps149 (lb rfl) fun w0 hpre => ?_
  refine jC <| jE ?_
  refine jH rfl (jy (cs := (mc x m)) rfl rfl) ?_
  rintro _ _ ⟨b_1, rfl, rfl⟩
  refine jH rfl (jn (z := zM) (cs := zC) gI rfl) ?_
  rintro _ _ ⟨b_2, rfl, rfl⟩
  refine jA (jG (v := iv 0) rfl) <| jD <| jB <| jC <| jr [mb b_1 x m] 6 mixed (by simp) <| jh 0 rfl (jc 0 x m rfl rfl) <| jI 1 rfl (jF (v := iv id) rfl) <| jQ (i := 2) ?_
  refine jY rfl rfl (jM [] Tryz.call101 rfl (N_l09Key id [47, 115] (by omega) (show List.length ([47, 115] : Str) ≤ 2 by decide) (by omega)) rfl (fun _ _ => trivial)) ?_
  rintro _ _ ⟨_, ⟨u_9, e_7, f_10, rfl, rfl⟩, rfl⟩
  refine ⟨(by simp), ?_⟩
  refine jQ (i := 3) ?_
  refine jY rfl rfl (jM [2, 2, 2] Tryz.call98 rfl (N_sNumAt x m hk (by omega) (by omega) u_9) rfl (fun _ _ => trivial)) ?_
  rintro _ _ ⟨_, ⟨x_19, m_20, n_21, e_17, k_18, f_22, rfl, rfl⟩, rfl⟩
  refine ⟨(by simp), ?_⟩
  refine jI 4 rfl (jb (v := mv x_19 m_20) rfl rfl) <| jI 5 rfl (jb (v := iv n_21) rfl rfl) <| jQ (i := 6) ?_
  refine kF rfl (jm 3 x_19 m_20 rfl rfl rfl rfl) ?_
  rintro _ _ rfl
  refine jI 7 rfl (jG (v := iv n_21) rfl) <| kI (by kernel_rfl) <| jB <| jL <| kB (.inl rfl) rfl (je (jc 3 x_19 m_20 rfl rfl) ⟨_, rfl⟩) (jN (v := iv n_21) rfl) (tS 3 _) ?_
  exact ⟨x_19, m_20, n_21, (by simp only [MS.state, e_7, e_17, SB]; (repeat (first | rw [if_pos (by omega)] | rw [if_neg (by omega)])); all_goals (first | rfl | simp only [SB, e_7, e_17])), (k_18.mono (by omega) (by omega)), (by first | omega | (simp only [LE]; omega)), rfl, rfl⟩

theorem M_spawn (x : MA) (m : MS) {S T : Nat} (hk : m.ok S T) (hS : S ≤ 300000000) (hT : T ≤ 300000000) (parent : Int) (hparent : -9223372036854775808 ≤ parent ∧ parent ≤ 9223372036854775807) :
    Ct Tryz.prog 53 [mv x m, .int .i64 parent] (mr x m) (fun _ => True) (fun v A' => ∃ x' m' r0 r1, MS.spawn m parent = (m', r0, r1) ∧ m'.ok (S + 3) (T + 4) ∧ (0 ≤ r0 ∧ r0 ≤ 999) ∧ (0 ≤ r1 ∧ r1 ≤ 9) ∧ v = .tuple #[mv x' m', .int .i64 r0, .int .i64 r1] ∧ A' = mr x' m') := by
  refine Ct.intro Tryz.func53 rfl Tryz.ntmps53 (lb rfl) fun w0 hpre => ?_
  refine jC <| jE ?_
  refine jH rfl (jy (cs := (mc x m)) rfl rfl) ?_
  rintro _ _ ⟨b_1, rfl, rfl⟩
  refine jH rfl (jn (z := zM) (cs := zC) gI rfl) ?_
  rintro _ _ ⟨b_2, rfl, rfl⟩
  refine jA (jG (v := iv 0) rfl) <| jA (jG (v := iv 0) rfl) <| jD <| jB <| jC <| jE <| jK (jc 1 x m rfl rfl) ?_
  refine jH rfl (jM [2, 2, 2] Tryz.call98 rfl (N_sNumAt x m hk (by omega) (by omega) [99, 47, 112, 114, 111, 99]) rfl (fun _ _ => trivial)) ?_
  rintro _ _ ⟨_, ⟨x_5, m_6, n_7, e_3, k_4, f_8, rfl, rfl⟩, rfl⟩
  refine jA (jF (v := .tuple #[mv x_5 m_6, iv n_7]) rfl) <| jA (jb (v := mv x_5 m_6) rfl rfl) <| jA (jb (v := iv n_7) rfl rfl) ?_
  refine jH rfl (jm 4 x_5 m_6 rfl rfl rfl rfl) ?_
  rintro _ _ rfl
  refine jA (jG (v := iv n_7) rfl) <| jD <| jB <| jC <| jC <| jE <| jA (jF (v := iv n_7) rfl) <| jA (kh rfl rfl) <| jD <| jB ?_
  by_cases h_9 : 12 ≤ n_7
  · refine jO (cB (dT h_9)) <| jC <| jE <| jK (jc 4 x_5 m_6 rfl rfl) ?_
    refine jH rfl (jm 3 x_5 m_6 rfl rfl rfl rfl) ?_
    rintro _ _ rfl
    refine jA (jG (v := iv 0) rfl) <| jA (jG (v := iv 3) rfl) <| jD <| jB <| jL <| jW <| ka (.inl rfl) rfl (je (jc 3 x_5 m_6 rfl rfl) ⟨_, rfl⟩) (jN (v := iv 0) rfl) (jN (v := iv 3) rfl) (tS 3 _) ?_
    exact ⟨x_5, m_6, 0, 3, (by simp only [MS.spawn, e_3, h_9, SB]; (repeat (first | rw [if_pos (by omega)] | rw [if_neg (by omega)])); all_goals (first | rfl | simp only [SB, e_3, h_9])), (k_4.mono (by omega) (by omega)), (by first | omega | (simp only [LE]; omega)), (by first | omega | (simp only [LE]; omega)), rfl, rfl⟩
  refine jP (cB (dF h_9)) <| jU <| jB <| jC <| jE <| jK (jc 4 x_5 m_6 rfl rfl) ?_
  refine jH rfl (jM [0, 0, 0] Tryz.call99 rfl (N_sBump x_5 m_6 k_4 (by omega) (by omega) [99, 47, 112, 114, 111, 99] (by decide)) rfl (fun _ _ => trivial)) ?_
  rintro _ _ ⟨_, ⟨x_12, m_13, n_14, e_10, k_11, f_15, rfl, rfl⟩, rfl⟩
  refine jA (jF (v := .tuple #[mv x_12 m_13, iv n_14]) rfl) <| jA (jb (v := mv x_12 m_13) rfl rfl) <| jA (jb (v := iv n_14) rfl rfl) ?_
  refine jH rfl (jm 4 x_12 m_13 rfl rfl rfl rfl) ?_
  rintro _ _ rfl
  refine jA (jG (v := iv n_14) rfl) <| jD <| jB <| jC <| jr [mb b_1 x_12 m_13] 3 mixed (by simp) <| jh 0 rfl (jc 0 x_12 m_13 rfl rfl) <| jI 1 rfl (jF (v := iv n_14) rfl) <| jQ (i := 2) ?_
  refine jY rfl rfl (jM [] Tryz.call101 rfl (N_l09Key n_14 [47, 115] (by omega) (show List.length ([47, 115] : Str) ≤ 2 by decide) (by omega)) rfl (fun _ _ => trivial)) ?_
  rintro _ _ ⟨_, ⟨u_22, e_20, f_23, rfl, rfl⟩, rfl⟩
  refine ⟨(by simp), ?_⟩
  refine jQ (i := 3) ?_
  refine kF rfl (jM [0, 0, 0] Tryz.call100 rfl (N_sSetNum x_12 m_13 k_11 (by omega) (by omega) u_22 1 (by omega) (by omega)) rfl (fun _ _ => trivial)) ?_
  rintro _ _ ⟨_, ⟨x_30, m_31, e_28, k_29, rfl, rfl⟩, rfl⟩
  refine jQ (i := 4) ?_
  refine jx rfl (jm 4 x_30 m_31 rfl rfl rfl rfl) ?_
  rintro _ _ rfl
  refine jB <| jC <| jr [mb b_1 x_30 m_31] 6 mixed (by simp) <| jh 0 rfl (jc 0 x_30 m_31 rfl rfl) <| jI 1 rfl (jF (v := iv n_14) rfl) <| jI 3 rfl (jF (v := iv parent) rfl) <| jI 5 rfl (jF (v := iv n_14) rfl) <| jQ (i := 2) ?_
  refine jY rfl rfl (jM [] Tryz.call101 rfl (N_l09Key n_14 [47, 112] (by omega) (show List.length ([47, 112] : Str) ≤ 2 by decide) (by omega)) rfl (fun _ _ => trivial)) ?_
  rintro _ _ ⟨_, ⟨u_46, e_44, f_47, rfl, rfl⟩, rfl⟩
  refine ⟨(by simp), ?_⟩
  refine jQ (i := 4) ?_
  refine jY rfl rfl (jM [0, 0, 0] Tryz.call100 rfl (N_sSetNum x_30 m_31 k_29 (by omega) (by omega) u_46 parent (by omega) (by omega)) rfl (fun _ _ => trivial)) ?_
  rintro _ _ ⟨_, ⟨x_54, m_55, e_52, k_53, rfl, rfl⟩, rfl⟩
  refine ⟨(by simp), ?_⟩
  refine jQ (i := 6) ?_
  refine kF rfl (jm 3 x_54 m_55 rfl rfl rfl rfl) ?_
  rintro _ _ rfl
  refine jI 7 rfl (jG (v := iv n_14) rfl) <| jI 8 rfl (jG (v := iv 0) rfl) <| kI (by kernel_rfl) <| jB <| jL <| ka (.inl rfl) rfl (je (jc 3 x_54 m_55 rfl rfl) ⟨_, rfl⟩) (jN (v := iv n_14) rfl) (jN (v := iv 0) rfl) (tS 3 _) ?_
  exact ⟨x_54, m_55, n_14, 0, (by simp only [MS.spawn, e_3, h_9, e_10, e_20, e_28, e_44, e_52, SB]; (repeat (first | rw [if_pos (by omega)] | rw [if_neg (by omega)])); all_goals (first | rfl | simp only [SB, e_3, h_9, e_10, e_20, e_28, e_44, e_52])), (k_53.mono (by omega) (by omega)), (by first | omega | (simp only [LE]; omega)), (by first | omega | (simp only [LE]; omega)), rfl, rfl⟩

theorem M_end (x : MA) (m : MS) {S T : Nat} (hk : m.ok S T) (hS : S ≤ 300000000) (hT : T ≤ 300000000) (id : Int) (n : Int) (hid : -9223372036854775808 ≤ id ∧ id ≤ 9223372036854775807) (hn : -9223372036854775808 ≤ n ∧ n ≤ 9223372036854775807) :
    Ct Tryz.prog 224 [mv x m, .int .i64 id, .int .i64 n] (mr x m) (fun _ => True) (fun v A' => ∃ x' m' r0, MS.endProc m id n = (m', r0) ∧ m'.ok (S + 2) (T + 3) ∧ (0 ≤ r0 ∧ r0 ≤ 9) ∧ v = .tuple #[mv x' m', .int .i64 r0] ∧ A' = mr x' m') := by
  refine Ct.intro Tryz.func224 rfl Tryz.ntmps224 (lb rfl) fun w0 hpre => ?_
  refine jC <| jE ?_
  refine jH rfl (jy (cs := (mc x m)) rfl rfl) ?_
  rintro _ _ ⟨b_1, rfl, rfl⟩
  refine jH rfl (jn (z := zM) (cs := zC) gI rfl) ?_
  rintro _ _ ⟨b_2, rfl, rfl⟩
  refine jA (jG (v := iv 0) rfl) <| jD <| jB <| jC <| jE <| jK (jc 1 x m rfl rfl) <| jA (jF (v := iv id) rfl) ?_
  refine jH rfl (jM [2, 2, 2] Tryz.call149 rfl (M_state x m hk (by omega) (by omega) id (by omega)) rfl (fun _ _ => trivial)) ?_
  rintro _ _ ⟨_, ⟨x_5, m_6, n_7, e_3, k_4, f_8, rfl, rfl⟩, rfl⟩
  refine jA (jF (v := .tuple #[mv x_5 m_6, iv n_7]) rfl) <| jA (jb (v := mv x_5 m_6) rfl rfl) <| jA (jb (v := iv n_7) rfl rfl) ?_
  refine jH rfl (jm 4 x_5 m_6 rfl rfl rfl rfl) ?_
  rintro _ _ rfl
  refine jA (jG (v := iv n_7) rfl) <| jD <| jB <| jC <| jC <| jE <| jA (jF (v := iv n_7) rfl) <| jA (kN rfl rfl) <| jD <| jB ?_
  by_cases h_9 : n_7 = 1
  · refine jP (cB (cN (dT h_9))) <| jU <| jB <| jC <| jC <| jE <| jA (jF (v := iv n) rfl) ?_
    refine jH rfl (jM [] Tryz.call40 rfl (C_l01In n 0 100) rfl (fun _ _ => trivial)) ?_
    rintro _ _ ⟨_, ⟨rfl, rfl⟩, rfl⟩
    refine jA (kP rfl) <| jD <| jB ?_
    rcases Bool.eq_false_or_eq_true (decide (0 ≤ n) && decide (n ≤ 100)) with h_10 | h_10
    · have h_10d := h_10
      simp only [Bool.and_eq_true, Bool.and_eq_false_iff, decide_eq_true_eq, decide_eq_false_iff_not] at h_10d
      refine jP (cB (cN h_10)) <| jU <| jB <| jC <| jr [mb b_1 x_5 m_6] 3 mixed (by simp) <| jh 0 rfl (jc 0 x_5 m_6 rfl rfl) <| jI 1 rfl (jF (v := iv id) rfl) <| jQ (i := 2) ?_
      refine jY rfl rfl (jM [] Tryz.call101 rfl (N_l09Key id [47, 115] (by omega) (show List.length ([47, 115] : Str) ≤ 2 by decide) (by omega)) rfl (fun _ _ => trivial)) ?_
      rintro _ _ ⟨_, ⟨u_17, e_15, f_18, rfl, rfl⟩, rfl⟩
      refine ⟨(by simp), ?_⟩
      refine jQ (i := 3) ?_
      refine kF rfl (jM [0, 0, 0] Tryz.call100 rfl (N_sSetNum x_5 m_6 k_4 (by omega) (by omega) u_17 2 (by omega) (by omega)) rfl (fun _ _ => trivial)) ?_
      rintro _ _ ⟨_, ⟨x_25, m_26, e_23, k_24, rfl, rfl⟩, rfl⟩
      refine jQ (i := 4) ?_
      refine jx rfl (jm 4 x_25 m_26 rfl rfl rfl rfl) ?_
      rintro _ _ rfl
      refine jB <| jC <| jr [mb b_1 x_25 m_26] 5 mixed (by simp) <| jh 0 rfl (jc 0 x_25 m_26 rfl rfl) <| jI 1 rfl (jF (v := iv id) rfl) <| jI 3 rfl (jF (v := iv n) rfl) <| jI 4 rfl (ji (c := n + 1) rfl rfl (wr (by omega))) <| jQ (i := 2) ?_
      refine jY rfl rfl (jM [] Tryz.call101 rfl (N_l09Key id [47, 120] (by omega) (show List.length ([47, 120] : Str) ≤ 2 by decide) (by omega)) rfl (fun _ _ => trivial)) ?_
      rintro _ _ ⟨_, ⟨u_41, e_39, f_42, rfl, rfl⟩, rfl⟩
      refine ⟨(by simp), ?_⟩
      refine jQ (i := 5) ?_
      refine kF rfl (jM [0, 0, 0] Tryz.call100 rfl (N_sSetNum x_25 m_26 k_24 (by omega) (by omega) u_41 (n + 1) (by omega) (by omega)) rfl (fun _ _ => trivial)) ?_
      rintro _ _ ⟨_, ⟨x_49, m_50, e_47, k_48, rfl, rfl⟩, rfl⟩
      refine jQ (i := 6) ?_
      refine kF rfl (jm 3 x_49 m_50 rfl rfl rfl rfl) ?_
      rintro _ _ rfl
      refine jI 7 rfl (jG (v := iv 0) rfl) <| kI (by kernel_rfl) <| jB <| jL <| kB (.inl rfl) rfl (je (jc 3 x_49 m_50 rfl rfl) ⟨_, rfl⟩) (jN (v := iv 0) rfl) (tS 3 _) ?_
      exact ⟨x_49, m_50, 0, (by simp only [MS.endProc, e_3, h_9, h_10, e_15, e_23, e_39, e_47, SB]; (repeat (first | rw [if_pos (by omega)] | rw [if_neg (by omega)])); all_goals (first | rfl | simp only [SB, e_3, h_9, h_10, e_15, e_23, e_39, e_47])), (k_48.mono (by omega) (by omega)), (by first | omega | (simp only [LE]; omega)), rfl, rfl⟩
    have h_10d := h_10
    simp only [Bool.and_eq_true, Bool.and_eq_false_iff, decide_eq_true_eq, decide_eq_false_iff_not] at h_10d
    refine jO (cB (cN h_10)) <| jC <| jE <| jK (jc 4 x_5 m_6 rfl rfl) ?_
    refine jH rfl (jm 3 x_5 m_6 rfl rfl rfl rfl) ?_
    rintro _ _ rfl
    refine jA (jG (v := iv 4) rfl) <| jD <| jB <| jL <| jW <| kB (.inl rfl) rfl (je (jc 3 x_5 m_6 rfl rfl) ⟨_, rfl⟩) (jN (v := iv 4) rfl) (tS 3 _) ?_
    exact ⟨x_5, m_6, 4, (by simp only [MS.endProc, e_3, h_9, h_10, SB]; (repeat (first | rw [if_pos (by omega)] | rw [if_neg (by omega)])); all_goals (first | rfl | simp only [SB, e_3, h_9, h_10])), (k_4.mono (by omega) (by omega)), (by first | omega | (simp only [LE]; omega)), rfl, rfl⟩
  refine jO (cB (cN (dF h_9))) <| jC <| jE <| jK (jc 4 x_5 m_6 rfl rfl) ?_
  refine jH rfl (jm 3 x_5 m_6 rfl rfl rfl rfl) ?_
  rintro _ _ rfl
  refine jA (jG (v := iv 2) rfl) <| jD <| jB <| jL <| jW <| kB (.inl rfl) rfl (je (jc 3 x_5 m_6 rfl rfl) ⟨_, rfl⟩) (jN (v := iv 2) rfl) (tS 3 _) ?_
  exact ⟨x_5, m_6, 2, (by simp only [MS.endProc, e_3, h_9, SB]; (repeat (first | rw [if_pos (by omega)] | rw [if_neg (by omega)])); all_goals (first | rfl | simp only [SB, e_3, h_9])), (k_4.mono (by omega) (by omega)), (by first | omega | (simp only [LE]; omega)), rfl, rfl⟩

theorem M_reap (x : MA) (m : MS) {S T : Nat} (hk : m.ok S T) (hS : S ≤ 300000000) (hT : T ≤ 300000000) (parent : Int) (id : Int) (hparent : -9223372036854775808 ≤ parent ∧ parent ≤ 9223372036854775807) (hid : -9223372036854775808 ≤ id ∧ id ≤ 9223372036854775807) :
    Ct Tryz.prog 226 [mv x m, .int .i64 parent, .int .i64 id] (mr x m) (fun _ => True) (fun v A' => ∃ x' m' r0 r1, MS.reap m parent id = (m', r0, r1) ∧ m'.ok (S) (T + S + 5) ∧ (-1 ≤ r0 ∧ r0 ≤ 999) ∧ (0 ≤ r1 ∧ r1 ≤ 9) ∧ v = .tuple #[mv x' m', .int .i64 r0, .int .i64 r1] ∧ A' = mr x' m') := by
  refine Ct.intro Tryz.func226 rfl Tryz.ntmps226 (lb rfl) fun w0 hpre => ?_
  refine jC <| jE ?_
  refine jH rfl (jy (cs := (mc x m)) rfl rfl) ?_
  rintro _ _ ⟨b_1, rfl, rfl⟩
  refine jH rfl (jn (z := zM) (cs := zC) gI rfl) ?_
  rintro _ _ ⟨b_2, rfl, rfl⟩
  refine jA (jG (v := iv 0) rfl) <| jA (jG (v := iv 0) rfl) <| jD <| jB <| jC <| jr [mb b_1 x m] 7 mixed (by simp) <| jh 0 rfl (jc 0 x m rfl rfl) <| jI 1 rfl (jF (v := iv id) rfl) <| jQ (i := 2) ?_
  refine jY rfl rfl (jM [] Tryz.call101 rfl (N_l09Key id [47, 112] (by omega) (show List.length ([47, 112] : Str) ≤ 2 by decide) (by omega)) rfl (fun _ _ => trivial)) ?_
  rintro _ _ ⟨_, ⟨u_9, e_7, f_10, rfl, rfl⟩, rfl⟩
  refine ⟨(by simp), ?_⟩
  refine jQ (i := 3) ?_
  refine jY rfl rfl (jM [2, 2, 2] Tryz.call98 rfl (N_sNumAt x m hk (by omega) (by omega) u_9) rfl (fun _ _ => trivial)) ?_
  rintro _ _ ⟨_, ⟨x_19, m_20, n_21, e_17, k_18, f_22, rfl, rfl⟩, rfl⟩
  refine ⟨(by simp), ?_⟩
  refine jI 4 rfl (jF (v := .tuple #[mv x_19 m_20, iv n_21]) rfl) <| jI 5 rfl (jb (v := mv x_19 m_20) rfl rfl) <| jI 6 rfl (jb (v := iv n_21) rfl rfl) <| jQ (i := 7) ?_
  refine kF rfl (jm 4 x_19 m_20 rfl rfl rfl rfl) ?_
  rintro _ _ rfl
  refine jI 8 rfl (jG (v := iv n_21) rfl) <| kI (by kernel_rfl) <| jB <| jC <| jC <| jE <| jA (jF (v := iv n_21) rfl) <| jA (jw rfl rfl) <| jA (jF (v := .bool (decide (n_21 = 0))) rfl) ?_
  by_cases h_23 : n_21 = 0
  · refine jS (b := true) rfl rfl rfl (cB (dT h_23)) <| jS (b := true) rfl rfl rfl (cB (dT h_23)) <| jS (b := true) rfl rfl rfl (cB (dT h_23)) <| jA (kG (v := .bool true) (cB (dT h_23)) rfl) <| jD <| jB <| jO (cB rfl) <| jC <| jE <| jK (jc 4 x_19 m_20 rfl rfl) ?_
    refine jH rfl (jm 3 x_19 m_20 rfl rfl rfl rfl) ?_
    rintro _ _ rfl
    refine jA (jG (v := iv 0) rfl) <| jA (jG (v := iv 2) rfl) <| jD <| jB <| jL <| jW <| ka (.inl rfl) rfl (je (jc 3 x_19 m_20 rfl rfl) ⟨_, rfl⟩) (jN (v := iv 0) rfl) (jN (v := iv 2) rfl) (tS 3 _) ?_
    exact ⟨x_19, m_20, 0, 2, (by simp only [MS.reap, e_7, e_17, h_23, SB]; (repeat (first | rw [if_pos (by omega)] | rw [if_neg (by omega)])); all_goals (first | rfl | simp only [SB, e_7, e_17, h_23])), (k_18.mono (by omega) (by omega)), (by first | omega | (simp only [LE]; omega)), (by first | omega | (simp only [LE]; omega)), rfl, rfl⟩
  refine jZ rfl rfl rfl (cB (dF h_23)) (ja (jf (jF (v := iv n_21) rfl))) ?_
  rintro _ _ ⟨rfl, rfl⟩
  refine jZ rfl rfl rfl (cB (dF h_23)) (ja (jf (jF (v := iv parent) rfl))) ?_
  rintro _ _ ⟨rfl, rfl⟩
  refine jZ rfl rfl rfl (cB (dF h_23)) (ja (jf (kN rfl rfl))) ?_
  rintro _ _ ⟨rfl, rfl⟩
  refine jA (jv (v := .bool (!(decide (n_21 = parent)))) (cB (dF h_23)) rfl) <| jD <| jB ?_
  by_cases h_24 : n_21 = parent
  · refine jP (cB (cN (dT h_24))) <| jU <| jB <| jC <| jE <| jK (jc 4 x_19 m_20 rfl rfl) <| jA (jF (v := iv id) rfl) ?_
    refine jH rfl (jM [0, 0, 0] Tryz.call149 rfl (M_state x_19 m_20 k_18 (by omega) (by omega) id (by omega)) rfl (fun _ _ => trivial)) ?_
    rintro _ _ ⟨_, ⟨x_27, m_28, n_29, e_25, k_26, f_30, rfl, rfl⟩, rfl⟩
    refine jA (jF (v := .tuple #[mv x_27 m_28, iv n_29]) rfl) <| jA (jb (v := mv x_27 m_28) rfl rfl) <| jA (jb (v := iv n_29) rfl rfl) ?_
    refine jH rfl (jm 4 x_27 m_28 rfl rfl rfl rfl) ?_
    rintro _ _ rfl
    refine jA (jG (v := iv n_29) rfl) <| jD <| jB <| jC <| jC <| jE <| jA (jF (v := iv n_29) rfl) <| jA (jw rfl rfl) <| jD <| jB ?_
    by_cases h_31 : n_29 = 1
    · refine jO (cB (dT h_31)) <| jC <| jE <| jK (jc 4 x_27 m_28 rfl rfl) ?_
      refine jH rfl (jm 3 x_27 m_28 rfl rfl rfl rfl) ?_
      rintro _ _ rfl
      refine jA (jG (v := iv 0) rfl) <| jA (jG (v := iv 5) rfl) <| jD <| jB <| jL <| jW <| ka (.inl rfl) rfl (je (jc 3 x_27 m_28 rfl rfl) ⟨_, rfl⟩) (jN (v := iv 0) rfl) (jN (v := iv 5) rfl) (tS 3 _) ?_
      exact ⟨x_27, m_28, 0, 5, (by simp only [MS.reap, e_7, e_17, h_23, h_24, e_25, h_31, SB]; (repeat (first | rw [if_pos (by omega)] | rw [if_neg (by omega)])); all_goals (first | rfl | simp only [SB, e_7, e_17, h_23, h_24, e_25, h_31])), (k_26.mono (by omega) (by omega)), (by first | omega | (simp only [LE]; omega)), (by first | omega | (simp only [LE]; omega)), rfl, rfl⟩
    refine jP (cB (dF h_31)) <| jU <| jB <| jC <| jC <| jE <| jA (jF (v := iv n_29) rfl) <| jA (kN rfl rfl) <| jD <| jB ?_
    by_cases h_32 : n_29 = 2
    · refine jP (cB (cN (dT h_32))) <| jU <| jB <| jC <| jr [mb b_1 x_27 m_28] 7 mixed (by simp) <| jh 0 rfl (jc 0 x_27 m_28 rfl rfl) <| jI 1 rfl (jF (v := iv id) rfl) <| jQ (i := 2) ?_
      refine jY rfl rfl (jM [] Tryz.call101 rfl (N_l09Key id [47, 120] (by omega) (show List.length ([47, 120] : Str) ≤ 2 by decide) (by omega)) rfl (fun _ _ => trivial)) ?_
      rintro _ _ ⟨_, ⟨u_39, e_37, f_40, rfl, rfl⟩, rfl⟩
      refine ⟨(by simp), ?_⟩
      refine jQ (i := 3) ?_
      refine jY rfl rfl (jM [0, 0, 0] Tryz.call98 rfl (N_sNumAt x_27 m_28 k_26 (by omega) (by omega) u_39) rfl (fun _ _ => trivial)) ?_
      rintro _ _ ⟨_, ⟨x_49, m_50, n_51, e_47, k_48, f_52, rfl, rfl⟩, rfl⟩
      refine ⟨(by simp), ?_⟩
      refine jI 4 rfl (jF (v := .tuple #[mv x_49 m_50, iv n_51]) rfl) <| jI 5 rfl (jb (v := mv x_49 m_50) rfl rfl) <| jI 6 rfl (jb (v := iv n_51) rfl rfl) <| jQ (i := 7) ?_
      refine kF rfl (jm 4 x_49 m_50 rfl rfl rfl rfl) ?_
      rintro _ _ rfl
      refine jI 8 rfl (jG (v := iv n_51) rfl) <| kI (by kernel_rfl) <| jB <| jC <| jr [mb b_1 x_49 m_50] 6 mixed (by simp) <| jh 0 rfl (jc 0 x_49 m_50 rfl rfl) <| jI 1 rfl (jF (v := iv id) rfl) <| jI 4 rfl (jF (v := iv n_51) rfl) <| jI 5 rfl (kW (c := n_51 - 1) rfl rfl (wr (by omega))) <| jQ (i := 2) ?_
      refine jY rfl rfl (jM [] Tryz.call101 rfl (N_l09Key id [47] (by omega) (show List.length ([47] : Str) ≤ 1 by decide) (by omega)) rfl (fun _ _ => trivial)) ?_
      rintro _ _ ⟨_, ⟨u_67, e_65, f_68, rfl, rfl⟩, rfl⟩
      refine ⟨(by simp), ?_⟩
      refine jQ (i := 3) ?_
      refine jY rfl rfl (jM [0, 0, 0] Tryz.call209 rfl (M_wipe x_49 m_50 k_48 (by omega) (by omega) u_67 (by omega)) rfl (fun _ _ => trivial)) ?_
      rintro _ _ ⟨_, ⟨x_75, m_76, e_73, k_74, rfl, rfl⟩, rfl⟩
      refine ⟨(by simp), ?_⟩
      refine jQ (i := 6) ?_
      refine kF rfl (jm 3 x_75 m_76 rfl rfl rfl rfl) ?_
      rintro _ _ rfl
      refine jI 7 rfl (jG (v := iv (n_51 - 1)) rfl) <| jI 8 rfl (jG (v := iv 0) rfl) <| kI (by kernel_rfl) <| jB <| jL <| ka (.inl rfl) rfl (je (jc 3 x_75 m_76 rfl rfl) ⟨_, rfl⟩) (jN (v := iv (n_51 - 1)) rfl) (jN (v := iv 0) rfl) (tS 3 _) ?_
      exact ⟨x_75, m_76, (n_51 - 1), 0, (by simp only [MS.reap, e_7, e_17, h_23, h_24, e_25, h_31, h_32, e_37, e_47, e_65, e_73, SB]; (repeat (first | rw [if_pos (by omega)] | rw [if_neg (by omega)])); all_goals (first | rfl | simp only [SB, e_7, e_17, h_23, h_24, e_25, h_31, h_32, e_37, e_47, e_65, e_73])), (k_74.mono (by omega) (by omega)), (by first | omega | (simp only [LE]; omega)), (by first | omega | (simp only [LE]; omega)), rfl, rfl⟩
    refine jO (cB (cN (dF h_32))) <| jC <| jE <| jK (jc 4 x_27 m_28 rfl rfl) ?_
    refine jH rfl (jm 3 x_27 m_28 rfl rfl rfl rfl) ?_
    rintro _ _ rfl
    refine jA (jG (v := iv 0) rfl) <| jA (jG (v := iv 2) rfl) <| jD <| jB <| jL <| jW <| ka (.inl rfl) rfl (je (jc 3 x_27 m_28 rfl rfl) ⟨_, rfl⟩) (jN (v := iv 0) rfl) (jN (v := iv 2) rfl) (tS 3 _) ?_
    exact ⟨x_27, m_28, 0, 2, (by simp only [MS.reap, e_7, e_17, h_23, h_24, e_25, h_31, h_32, SB]; (repeat (first | rw [if_pos (by omega)] | rw [if_neg (by omega)])); all_goals (first | rfl | simp only [SB, e_7, e_17, h_23, h_24, e_25, h_31, h_32])), (k_26.mono (by omega) (by omega)), (by first | omega | (simp only [LE]; omega)), (by first | omega | (simp only [LE]; omega)), rfl, rfl⟩
  refine jO (cB (cN (dF h_24))) <| jC <| jE <| jK (jc 4 x_19 m_20 rfl rfl) ?_
  refine jH rfl (jm 3 x_19 m_20 rfl rfl rfl rfl) ?_
  rintro _ _ rfl
  refine jA (jG (v := iv 0) rfl) <| jA (jG (v := iv 2) rfl) <| jD <| jB <| jL <| jW <| ka (.inl rfl) rfl (je (jc 3 x_19 m_20 rfl rfl) ⟨_, rfl⟩) (jN (v := iv 0) rfl) (jN (v := iv 2) rfl) (tS 3 _) ?_
  exact ⟨x_19, m_20, 0, 2, (by simp only [MS.reap, e_7, e_17, h_23, h_24, SB]; (repeat (first | rw [if_pos (by omega)] | rw [if_neg (by omega)])); all_goals (first | rfl | simp only [SB, e_7, e_17, h_23, h_24])), (k_18.mono (by omega) (by omega)), (by first | omega | (simp only [LE]; omega)), (by first | omega | (simp only [LE]; omega)), rfl, rfl⟩

theorem M_takeSignal (x : MA) (m : MS) {S T : Nat} (hk : m.ok S T) (hS : S ≤ 300000000) (hT : T ≤ 300000000) (id : Int) (hid : -9223372036854775808 ≤ id ∧ id ≤ 9223372036854775807) :
    Ct Tryz.prog 161 [mv x m, .int .i64 id] (mr x m) (fun _ => True) (fun v A' => ∃ x' m' r0 r1, MS.takeSignal m id = (m', r0, r1) ∧ m'.ok (S + 1) (T + 5) ∧ (0 ≤ r0 ∧ r0 ≤ 999) ∧ (0 ≤ r1 ∧ r1 ≤ 9) ∧ v = .tuple #[mv x' m', .int .i64 r0, .int .i64 r1] ∧ A' = mr x' m') := by
  refine Ct.intro Tryz.func161 rfl Tryz.ntmps161 (lb rfl) fun w0 hpre => ?_
  refine jC <| jE ?_
  refine jH rfl (jy (cs := (mc x m)) rfl rfl) ?_
  rintro _ _ ⟨b_1, rfl, rfl⟩
  refine jH rfl (jn (z := zM) (cs := zC) gI rfl) ?_
  rintro _ _ ⟨b_2, rfl, rfl⟩
  refine jA (jG (v := iv 0) rfl) <| jA (jG (v := iv 0) rfl) <| jD <| jB <| jC <| jr [mb b_1 x m] 7 mixed (by simp) <| jh 0 rfl (jc 0 x m rfl rfl) <| jI 1 rfl (jF (v := iv id) rfl) <| jQ (i := 2) ?_
  refine jY rfl rfl (jM [] Tryz.call219 rfl (N_l10Key id [47, 104] (by omega) (show List.length ([47, 104] : Str) ≤ 2 by decide) (by omega)) rfl (fun _ _ => trivial)) ?_
  rintro _ _ ⟨_, ⟨u_9, e_7, f_10, rfl, rfl⟩, rfl⟩
  refine ⟨(by simp), ?_⟩
  refine jQ (i := 3) ?_
  refine jY rfl rfl (jM [2, 2, 2] Tryz.call98 rfl (N_sNumAt x m hk (by omega) (by omega) u_9) rfl (fun _ _ => trivial)) ?_
  rintro _ _ ⟨_, ⟨x_19, m_20, n_21, e_17, k_18, f_22, rfl, rfl⟩, rfl⟩
  refine ⟨(by simp), ?_⟩
  refine jI 4 rfl (jF (v := .tuple #[mv x_19 m_20, iv n_21]) rfl) <| jI 5 rfl (jb (v := mv x_19 m_20) rfl rfl) <| jI 6 rfl (jb (v := iv n_21) rfl rfl) <| jQ (i := 7) ?_
  refine kF rfl (jm 4 x_19 m_20 rfl rfl rfl rfl) ?_
  rintro _ _ rfl
  refine jI 8 rfl (jG (v := iv n_21) rfl) <| kI (by kernel_rfl) <| jB <| jC <| jr [mb b_1 x_19 m_20] 7 mixed (by simp) <| jh 0 rfl (jc 0 x_19 m_20 rfl rfl) <| jI 1 rfl (jF (v := iv id) rfl) <| jQ (i := 2) ?_
  refine jY rfl rfl (jM [] Tryz.call219 rfl (N_l10Key id [47, 116] (by omega) (show List.length ([47, 116] : Str) ≤ 2 by decide) (by omega)) rfl (fun _ _ => trivial)) ?_
  rintro _ _ ⟨_, ⟨u_29, e_27, f_30, rfl, rfl⟩, rfl⟩
  refine ⟨(by simp), ?_⟩
  refine jQ (i := 3) ?_
  refine jY rfl rfl (jM [0, 0, 0] Tryz.call98 rfl (N_sNumAt x_19 m_20 k_18 (by omega) (by omega) u_29) rfl (fun _ _ => trivial)) ?_
  rintro _ _ ⟨_, ⟨x_39, m_40, n_41, e_37, k_38, f_42, rfl, rfl⟩, rfl⟩
  refine ⟨(by simp), ?_⟩
  refine jI 4 rfl (jF (v := .tuple #[mv x_39 m_40, iv n_41]) rfl) <| jI 5 rfl (jb (v := mv x_39 m_40) rfl rfl) <| jI 6 rfl (jb (v := iv n_41) rfl rfl) <| jQ (i := 7) ?_
  refine kF rfl (jm 4 x_39 m_40 rfl rfl rfl rfl) ?_
  rintro _ _ rfl
  refine jI 8 rfl (jG (v := iv n_41) rfl) <| kI (by kernel_rfl) <| jB <| jC <| jC <| jE <| jA (jF (v := iv n_21) rfl) <| jA (jF (v := iv n_41) rfl) <| jA (jw rfl rfl) <| jD ?_
  refine jB ?_
  by_cases h_43 : n_21 = n_41
  · refine jO (cB (dT h_43)) <| jC <| jE <| jK (jc 4 x_39 m_40 rfl rfl) ?_
    refine jH rfl (jm 3 x_39 m_40 rfl rfl rfl rfl) ?_
    rintro _ _ rfl
    refine jA (jG (v := iv 0) rfl) <| jA (jG (v := iv 5) rfl) <| jD <| jB <| jL <| jW <| ka (.inl rfl) rfl (je (jc 3 x_39 m_40 rfl rfl) ⟨_, rfl⟩) (jN (v := iv 0) rfl) (jN (v := iv 5) rfl) (tS 3 _) ?_
    exact ⟨x_39, m_40, 0, 5, (by simp only [MS.takeSignal, e_7, e_17, e_27, e_37, h_43, SB]; (repeat (first | rw [if_pos (by omega)] | rw [if_neg (by omega)])); all_goals (first | rfl | simp only [SB, e_7, e_17, e_27, e_37, h_43])), (k_38.mono (by omega) (by omega)), (by first | omega | (simp only [LE]; omega)), (by first | omega | (simp only [LE]; omega)), rfl, rfl⟩
  refine jP (cB (dF h_43)) <| jU <| jB <| jC <| jr [mb b_1 x_39 m_40] 9 mixed (by simp) <| jh 0 rfl (jc 0 x_39 m_40 rfl rfl) <| jI 1 rfl (jF (v := iv id) rfl) <| jI 2 rfl (jF (v := iv n_21) rfl) <| jI 3 rfl (ji (c := n_21 + 1) rfl rfl (wr (by omega))) <| jQ (i := 4) ?_
  refine jY rfl rfl (jM [] Tryz.call220 rfl (N_l10Signal id (n_21 + 1) (by omega) (by omega)) rfl (fun _ _ => trivial)) ?_
  rintro _ _ ⟨_, ⟨u_50, e_48, f_51, rfl, rfl⟩, rfl⟩
  refine ⟨(by simp), ?_⟩
  refine jQ (i := 5) ?_
  refine jY rfl rfl (jM [0, 0, 0] Tryz.call98 rfl (N_sNumAt x_39 m_40 k_38 (by omega) (by omega) u_50) rfl (fun _ _ => trivial)) ?_
  rintro _ _ ⟨_, ⟨x_60, m_61, n_62, e_58, k_59, f_63, rfl, rfl⟩, rfl⟩
  refine ⟨(by simp), ?_⟩
  refine jI 6 rfl (jF (v := .tuple #[mv x_60 m_61, iv n_62]) rfl) <| jI 7 rfl (jb (v := mv x_60 m_61) rfl rfl) <| jI 8 rfl (jb (v := iv n_62) rfl rfl) <| jQ (i := 9) ?_
  refine kF rfl (jm 4 x_60 m_61 rfl rfl rfl rfl) ?_
  rintro _ _ rfl
  refine jI 10 rfl (jG (v := iv n_62) rfl) <| kI (by kernel_rfl) <| jB <| jC <| jr [mb b_1 x_60 m_61] 5 mixed (by simp) <| jh 0 rfl (jc 0 x_60 m_61 rfl rfl) <| jI 1 rfl (jF (v := iv id) rfl) <| jI 2 rfl (jF (v := iv n_21) rfl) <| jI 3 rfl (ji (c := n_21 + 1) rfl rfl (wr (by omega))) <| jQ (i := 4) ?_
  refine jY rfl rfl (jM [] Tryz.call220 rfl (N_l10Signal id (n_21 + 1) (by omega) (by omega)) rfl (fun _ _ => trivial)) ?_
  rintro _ _ ⟨_, ⟨u_70, e_68, f_71, rfl, rfl⟩, rfl⟩
  have hqe_68 := e_48.symm.trans e_68
  subst hqe_68
  refine ⟨(by simp), ?_⟩
  refine jQ (i := 5) ?_
  refine kF rfl (jM [0, 0, 0] Tryz.call171 rfl (N_sLayNil x_60 m_61 k_59 (by omega) (by omega) u_50 (by omega)) rfl (fun _ _ => trivial)) ?_
  rintro _ _ ⟨_, ⟨x_78, m_79, e_76, k_77, rfl, rfl⟩, rfl⟩
  refine jQ (i := 6) ?_
  refine jx rfl (jm 4 x_78 m_79 rfl rfl rfl rfl) ?_
  rintro _ _ rfl
  refine jB <| jC <| jr [mb b_1 x_78 m_79] 7 mixed (by simp) <| jh 0 rfl (jc 0 x_78 m_79 rfl rfl) <| jI 1 rfl (jF (v := iv id) rfl) <| jI 3 rfl (jF (v := iv n_21) rfl) <| jI 4 rfl (ji (c := n_21 + 1) rfl rfl (wr (by omega))) <| jI 6 rfl (jF (v := iv n_62) rfl) <| jQ (i := 2) ?_
  refine jY rfl rfl (jM [] Tryz.call219 rfl (N_l10Key id [47, 104] (by omega) (show List.length ([47, 104] : Str) ≤ 2 by decide) (by omega)) rfl (fun _ _ => trivial)) ?_
  rintro _ _ ⟨_, ⟨u_98, e_96, f_99, rfl, rfl⟩, rfl⟩
  have hqe_96 := e_7.symm.trans e_96
  subst hqe_96
  refine ⟨(by simp), ?_⟩
  refine jQ (i := 5) ?_
  refine jY rfl rfl (jM [0, 0, 0] Tryz.call100 rfl (N_sSetNum x_78 m_79 k_77 (by omega) (by omega) u_9 (n_21 + 1) (by omega) (by omega)) rfl (fun _ _ => trivial)) ?_
  rintro _ _ ⟨_, ⟨x_106, m_107, e_104, k_105, rfl, rfl⟩, rfl⟩
  refine ⟨(by simp), ?_⟩
  refine jQ (i := 7) ?_
  refine kF rfl (jm 3 x_106 m_107 rfl rfl rfl rfl) ?_
  rintro _ _ rfl
  refine jI 8 rfl (jG (v := iv n_62) rfl) <| jI 9 rfl (jG (v := iv 0) rfl) <| kI (by kernel_rfl) <| jB <| jL <| ka (.inl rfl) rfl (je (jc 3 x_106 m_107 rfl rfl) ⟨_, rfl⟩) (jN (v := iv n_62) rfl) (jN (v := iv 0) rfl) (tS 3 _) ?_
  exact ⟨x_106, m_107, n_62, 0, (by simp only [MS.takeSignal, e_7, e_17, e_27, e_37, h_43, e_48, e_58, e_76, e_104, SB]; (repeat (first | rw [if_pos (by omega)] | rw [if_neg (by omega)])); all_goals (first | rfl | simp only [SB, e_7, e_17, e_27, e_37, h_43, e_48, e_58, e_76, e_104])), (k_105.mono (by omega) (by omega)), (by first | omega | (simp only [LE]; omega)), (by first | omega | (simp only [LE]; omega)), rfl, rfl⟩

theorem M_send (x : MA) (m : MS) {S T : Nat} (hk : m.ok S T) (hS : S ≤ 300000000) (hT : T ≤ 300000000) (to_ : Int) (n : Int) (hto_ : -9223372036854775808 ≤ to_ ∧ to_ ≤ 9223372036854775807) (hn : -9223372036854775808 ≤ n ∧ n ≤ 9223372036854775807) :
    Ct Tryz.prog 160 [mv x m, .int .i64 to_, .int .i64 n] (mr x m) (fun _ => True) (fun v A' => ∃ x' m' r0, MS.send m to_ n = (m', r0) ∧ m'.ok (S + 2) (T + 5) ∧ (0 ≤ r0 ∧ r0 ≤ 9) ∧ v = .tuple #[mv x' m', .int .i64 r0] ∧ A' = mr x' m') := by
  refine Ct.intro Tryz.func160 rfl Tryz.ntmps160 (lb rfl) fun w0 hpre => ?_
  refine jC <| jE ?_
  refine jH rfl (jy (cs := (mc x m)) rfl rfl) ?_
  rintro _ _ ⟨b_1, rfl, rfl⟩
  refine jH rfl (jn (z := zM) (cs := zC) gI rfl) ?_
  rintro _ _ ⟨b_2, rfl, rfl⟩
  refine jA (jG (v := iv 0) rfl) <| jD <| jB <| jC <| jE <| jK (jc 1 x m rfl rfl) <| jA (jF (v := iv to_) rfl) ?_
  refine jH rfl (jM [2, 2, 2] Tryz.call149 rfl (M_state x m hk (by omega) (by omega) to_ (by omega)) rfl (fun _ _ => trivial)) ?_
  rintro _ _ ⟨_, ⟨x_5, m_6, n_7, e_3, k_4, f_8, rfl, rfl⟩, rfl⟩
  refine jA (jF (v := .tuple #[mv x_5 m_6, iv n_7]) rfl) <| jA (jb (v := mv x_5 m_6) rfl rfl) <| jA (jb (v := iv n_7) rfl rfl) ?_
  refine jH rfl (jm 4 x_5 m_6 rfl rfl rfl rfl) ?_
  rintro _ _ rfl
  refine jA (jG (v := iv n_7) rfl) <| jD <| jB <| jC <| jC <| jE <| jA (jF (v := iv n_7) rfl) <| jA (kN rfl rfl) <| jD <| jB ?_
  by_cases h_9 : n_7 = 1
  · refine jP (cB (cN (dT h_9))) <| jU <| jB <| jC <| jC <| jE <| jA (jF (v := iv n) rfl) ?_
    refine jH rfl (jM [] Tryz.call40 rfl (C_l01In n 1 31) rfl (fun _ _ => trivial)) ?_
    rintro _ _ ⟨_, ⟨rfl, rfl⟩, rfl⟩
    refine jA (kP rfl) <| jD <| jB ?_
    rcases Bool.eq_false_or_eq_true (decide (1 ≤ n) && decide (n ≤ 31)) with h_10 | h_10
    · have h_10d := h_10
      simp only [Bool.and_eq_true, Bool.and_eq_false_iff, decide_eq_true_eq, decide_eq_false_iff_not] at h_10d
      refine jP (cB (cN h_10)) <| jU <| jB <| jC <| jr [mb b_1 x_5 m_6] 7 mixed (by simp) <| jh 0 rfl (jc 0 x_5 m_6 rfl rfl) <| jI 1 rfl (jF (v := iv to_) rfl) <| jQ (i := 2) ?_
      refine jY rfl rfl (jM [] Tryz.call219 rfl (N_l10Key to_ [47, 116] (by omega) (show List.length ([47, 116] : Str) ≤ 2 by decide) (by omega)) rfl (fun _ _ => trivial)) ?_
      rintro _ _ ⟨_, ⟨u_17, e_15, f_18, rfl, rfl⟩, rfl⟩
      refine ⟨(by simp), ?_⟩
      refine jQ (i := 3) ?_
      refine jY rfl rfl (jM [0, 0, 0] Tryz.call98 rfl (N_sNumAt x_5 m_6 k_4 (by omega) (by omega) u_17) rfl (fun _ _ => trivial)) ?_
      rintro _ _ ⟨_, ⟨x_27, m_28, n_29, e_25, k_26, f_30, rfl, rfl⟩, rfl⟩
      refine ⟨(by simp), ?_⟩
      refine jI 4 rfl (jF (v := .tuple #[mv x_27 m_28, iv n_29]) rfl) <| jI 5 rfl (jb (v := mv x_27 m_28) rfl rfl) <| jI 6 rfl (jb (v := iv n_29) rfl rfl) <| jQ (i := 7) ?_
      refine kF rfl (jm 4 x_27 m_28 rfl rfl rfl rfl) ?_
      rintro _ _ rfl
      refine jI 8 rfl (jG (v := iv n_29) rfl) <| kI (by kernel_rfl) <| jB <| jC <| jr [mb b_1 x_27 m_28] 7 mixed (by simp) <| jh 0 rfl (jc 0 x_27 m_28 rfl rfl) <| jI 1 rfl (jF (v := iv to_) rfl) <| jQ (i := 2) ?_
      refine jY rfl rfl (jM [] Tryz.call219 rfl (N_l10Key to_ [47, 104] (by omega) (show List.length ([47, 104] : Str) ≤ 2 by decide) (by omega)) rfl (fun _ _ => trivial)) ?_
      rintro _ _ ⟨_, ⟨u_37, e_35, f_38, rfl, rfl⟩, rfl⟩
      refine ⟨(by simp), ?_⟩
      refine jQ (i := 3) ?_
      refine jY rfl rfl (jM [0, 0, 0] Tryz.call98 rfl (N_sNumAt x_27 m_28 k_26 (by omega) (by omega) u_37) rfl (fun _ _ => trivial)) ?_
      rintro _ _ ⟨_, ⟨x_47, m_48, n_49, e_45, k_46, f_50, rfl, rfl⟩, rfl⟩
      refine ⟨(by simp), ?_⟩
      refine jI 4 rfl (jF (v := .tuple #[mv x_47 m_48, iv n_49]) rfl) <| jI 5 rfl (jb (v := mv x_47 m_48) rfl rfl) <| jI 6 rfl (jb (v := iv n_49) rfl rfl) <| jQ (i := 7) ?_
      refine kF rfl (jm 4 x_47 m_48 rfl rfl rfl rfl) ?_
      rintro _ _ rfl
      refine jI 8 rfl (jG (v := iv n_49) rfl) <| kI (by kernel_rfl) <| jB <| jC <| jC <| jE <| jA (jF (v := iv n_29) rfl) <| jA (jF (v := iv n_49) rfl) <| jA (kW (c := n_29 - n_49) rfl rfl (wr (by omega))) <| jA (kh rfl rfl) ?_
      refine jD <| jB ?_
      by_cases h_51 : 4 ≤ (n_29 - n_49)
      · refine jO (cB (dT h_51)) <| jC <| jE <| jK (jc 4 x_47 m_48 rfl rfl) ?_
        refine jH rfl (jm 3 x_47 m_48 rfl rfl rfl rfl) ?_
        rintro _ _ rfl
        refine jA (jG (v := iv 5) rfl) <| jD <| jB <| jL <| jW <| kB (.inl rfl) rfl (je (jc 3 x_47 m_48 rfl rfl) ⟨_, rfl⟩) (jN (v := iv 5) rfl) (tS 3 _) ?_
        exact ⟨x_47, m_48, 5, (by simp only [MS.send, e_3, h_9, h_10, e_15, e_25, e_35, e_45, h_51, SB]; (repeat (first | rw [if_pos (by omega)] | rw [if_neg (by omega)])); all_goals (first | rfl | simp only [SB, e_3, h_9, h_10, e_15, e_25, e_35, e_45, h_51])), (k_46.mono (by omega) (by omega)), (by first | omega | (simp only [LE]; omega)), rfl, rfl⟩
      refine jP (cB (dF h_51)) <| jU <| jB <| jC <| jC <| jE <| jA (jF (v := iv n_29) rfl) <| jA (kh rfl rfl) <| jD <| jB ?_
      by_cases h_52 : 999 ≤ n_29
      · refine jO (cB (dT h_52)) <| jC <| jE <| jK (jc 4 x_47 m_48 rfl rfl) ?_
        refine jH rfl (jm 3 x_47 m_48 rfl rfl rfl rfl) ?_
        rintro _ _ rfl
        refine jA (jG (v := iv 3) rfl) <| jD <| jB <| jL <| jW <| kB (.inl rfl) rfl (je (jc 3 x_47 m_48 rfl rfl) ⟨_, rfl⟩) (jN (v := iv 3) rfl) (tS 3 _) ?_
        exact ⟨x_47, m_48, 3, (by simp only [MS.send, e_3, h_9, h_10, e_15, e_25, e_35, e_45, h_51, h_52, SB]; (repeat (first | rw [if_pos (by omega)] | rw [if_neg (by omega)])); all_goals (first | rfl | simp only [SB, e_3, h_9, h_10, e_15, e_25, e_35, e_45, h_51, h_52])), (k_46.mono (by omega) (by omega)), (by first | omega | (simp only [LE]; omega)), rfl, rfl⟩
      refine jP (cB (dF h_52)) <| jU <| jB <| jC <| jr [mb b_1 x_47 m_48] 5 mixed (by simp) <| jh 0 rfl (jc 0 x_47 m_48 rfl rfl) <| jI 1 rfl (jF (v := iv to_) rfl) <| jI 3 rfl (jF (v := iv n_29) rfl) <| jI 4 rfl (ji (c := n_29 + 1) rfl rfl (wr (by omega))) <| jQ (i := 2) ?_
      refine jY rfl rfl (jM [] Tryz.call219 rfl (N_l10Key to_ [47, 116] (by omega) (show List.length ([47, 116] : Str) ≤ 2 by decide) (by omega)) rfl (fun _ _ => trivial)) ?_
      rintro _ _ ⟨_, ⟨u_67, e_65, f_68, rfl, rfl⟩, rfl⟩
      have hqe_65 := e_15.symm.trans e_65
      subst hqe_65
      refine ⟨(by simp), ?_⟩
      refine jQ (i := 5) ?_
      refine kF rfl (jM [0, 0, 0] Tryz.call100 rfl (N_sSetNum x_47 m_48 k_46 (by omega) (by omega) u_17 (n_29 + 1) (by omega) (by omega)) rfl (fun _ _ => trivial)) ?_
      rintro _ _ ⟨_, ⟨x_75, m_76, e_73, k_74, rfl, rfl⟩, rfl⟩
      refine jQ (i := 6) ?_
      refine jx rfl (jm 4 x_75 m_76 rfl rfl rfl rfl) ?_
      rintro _ _ rfl
      refine jB <| jC <| jr [mb b_1 x_75 m_76] 6 mixed (by simp) <| jh 0 rfl (jc 0 x_75 m_76 rfl rfl) <| jI 1 rfl (jF (v := iv to_) rfl) <| jI 2 rfl (jF (v := iv n_29) rfl) <| jI 3 rfl (ji (c := n_29 + 1) rfl rfl (wr (by omega))) <| jI 5 rfl (jF (v := iv n) rfl) <| jQ (i := 4) ?_
      refine jY rfl rfl (jM [] Tryz.call220 rfl (N_l10Signal to_ (n_29 + 1) (by omega) (by omega)) rfl (fun _ _ => trivial)) ?_
      rintro _ _ ⟨_, ⟨u_87, e_85, f_88, rfl, rfl⟩, rfl⟩
      refine ⟨(by simp), ?_⟩
      refine jQ (i := 6) ?_
      refine kF rfl (jM [0, 0, 0] Tryz.call100 rfl (N_sSetNum x_75 m_76 k_74 (by omega) (by omega) u_87 n (by omega) (by omega)) rfl (fun _ _ => trivial)) ?_
      rintro _ _ ⟨_, ⟨x_95, m_96, e_93, k_94, rfl, rfl⟩, rfl⟩
      refine jQ (i := 7) ?_
      refine kF rfl (jm 3 x_95 m_96 rfl rfl rfl rfl) ?_
      rintro _ _ rfl
      refine jI 8 rfl (jG (v := iv 0) rfl) <| kI (by kernel_rfl) <| jB <| jL <| kB (.inl rfl) rfl (je (jc 3 x_95 m_96 rfl rfl) ⟨_, rfl⟩) (jN (v := iv 0) rfl) (tS 3 _) ?_
      exact ⟨x_95, m_96, 0, (by simp only [MS.send, e_3, h_9, h_10, e_15, e_25, e_35, e_45, h_51, h_52, e_73, e_85, e_93, SB]; (repeat (first | rw [if_pos (by omega)] | rw [if_neg (by omega)])); all_goals (first | rfl | simp only [SB, e_3, h_9, h_10, e_15, e_25, e_35, e_45, h_51, h_52, e_73, e_85, e_93])), (k_94.mono (by omega) (by omega)), (by first | omega | (simp only [LE]; omega)), rfl, rfl⟩
    have h_10d := h_10
    simp only [Bool.and_eq_true, Bool.and_eq_false_iff, decide_eq_true_eq, decide_eq_false_iff_not] at h_10d
    refine jO (cB (cN h_10)) <| jC <| jE <| jK (jc 4 x_5 m_6 rfl rfl) ?_
    refine jH rfl (jm 3 x_5 m_6 rfl rfl rfl rfl) ?_
    rintro _ _ rfl
    refine jA (jG (v := iv 4) rfl) <| jD <| jB <| jL <| jW <| kB (.inl rfl) rfl (je (jc 3 x_5 m_6 rfl rfl) ⟨_, rfl⟩) (jN (v := iv 4) rfl) (tS 3 _) ?_
    exact ⟨x_5, m_6, 4, (by simp only [MS.send, e_3, h_9, h_10, SB]; (repeat (first | rw [if_pos (by omega)] | rw [if_neg (by omega)])); all_goals (first | rfl | simp only [SB, e_3, h_9, h_10])), (k_4.mono (by omega) (by omega)), (by first | omega | (simp only [LE]; omega)), rfl, rfl⟩
  refine jO (cB (cN (dF h_9))) <| jC <| jE <| jK (jc 4 x_5 m_6 rfl rfl) ?_
  refine jH rfl (jm 3 x_5 m_6 rfl rfl rfl rfl) ?_
  rintro _ _ rfl
  refine jA (jG (v := iv 2) rfl) <| jD <| jB <| jL <| jW <| kB (.inl rfl) rfl (je (jc 3 x_5 m_6 rfl rfl) ⟨_, rfl⟩) (jN (v := iv 2) rfl) (tS 3 _) ?_
  exact ⟨x_5, m_6, 2, (by simp only [MS.send, e_3, h_9, SB]; (repeat (first | rw [if_pos (by omega)] | rw [if_neg (by omega)])); all_goals (first | rfl | simp only [SB, e_3, h_9])), (k_4.mono (by omega) (by omega)), (by first | omega | (simp only [LE]; omega)), rfl, rfl⟩

theorem M_setTimer (x : MA) (m : MS) {S T : Nat} (hk : m.ok S T) (hS : S ≤ 300000000) (hT : T ≤ 300000000) (id : Int) (at_ : Int) (hid : -9223372036854775808 ≤ id ∧ id ≤ 9223372036854775807) (hat_ : -9223372036854775808 ≤ at_ ∧ at_ ≤ 9223372036854775807) :
    Ct Tryz.prog 162 [mv x m, .int .i64 id, .int .i64 at_] (mr x m) (fun _ => True) (fun v A' => ∃ x' m' r0, MS.setTimer m id at_ = (m', r0) ∧ m'.ok (S + 1) (T + 1) ∧ (0 ≤ r0 ∧ r0 ≤ 9) ∧ v = .tuple #[mv x' m', .int .i64 r0] ∧ A' = mr x' m') := by
  refine Ct.intro Tryz.func162 rfl Tryz.ntmps162 (lb rfl) fun w0 hpre => ?_
  refine jC <| jE ?_
  refine jH rfl (jy (cs := (mc x m)) rfl rfl) ?_
  rintro _ _ ⟨b_1, rfl, rfl⟩
  refine jH rfl (jn (z := zM) (cs := zC) gI rfl) ?_
  rintro _ _ ⟨b_2, rfl, rfl⟩
  refine jA (jG (v := iv 0) rfl) <| jD <| jB <| jC <| jC <| jE <| jA (jF (v := iv at_) rfl) ?_
  refine jH rfl (jM [] Tryz.call40 rfl (C_l01In at_ 0 999) rfl (fun _ _ => trivial)) ?_
  rintro _ _ ⟨_, ⟨rfl, rfl⟩, rfl⟩
  refine jA (kP rfl) <| jD <| jB ?_
  rcases Bool.eq_false_or_eq_true (decide (0 ≤ at_) && decide (at_ ≤ 999)) with h_3 | h_3
  · have h_3d := h_3
    simp only [Bool.and_eq_true, Bool.and_eq_false_iff, decide_eq_true_eq, decide_eq_false_iff_not] at h_3d
    refine jP (cB (cN h_3)) <| jU <| jB <| jC <| jr [mb b_1 x m] 4 mixed (by simp) <| jh 0 rfl (jc 0 x m rfl rfl) <| jI 1 rfl (jF (v := iv id) rfl) <| jI 3 rfl (jF (v := iv at_) rfl) <| jQ (i := 2) ?_
    refine jY rfl rfl (jM [] Tryz.call173 rfl (N_sKeyNum [116, 47] id [] (show List.length ([116, 47] : Str) ≤ 2 by decide) (by omega) (show List.length ([] : Str) ≤ 0 by decide) (by omega)) rfl (fun _ _ => trivial)) ?_
    rintro _ _ ⟨_, ⟨u_14, e_12, f_15, rfl, rfl⟩, rfl⟩
    refine ⟨(by simp), ?_⟩
    refine jQ (i := 4) ?_
    refine kF rfl (jM [2, 2, 2] Tryz.call100 rfl (N_sSetNum x m hk (by omega) (by omega) u_14 at_ (by omega) (by omega)) rfl (fun _ _ => trivial)) ?_
    rintro _ _ ⟨_, ⟨x_22, m_23, e_20, k_21, rfl, rfl⟩, rfl⟩
    refine jQ (i := 5) ?_
    refine kF rfl (jm 3 x_22 m_23 rfl rfl rfl rfl) ?_
    rintro _ _ rfl
    refine jI 6 rfl (jG (v := iv 0) rfl) <| kI (by kernel_rfl) <| jB <| jL <| kB (.inl rfl) rfl (je (jc 3 x_22 m_23 rfl rfl) ⟨_, rfl⟩) (jN (v := iv 0) rfl) (tS 3 _) ?_
    exact ⟨x_22, m_23, 0, (by simp only [MS.setTimer, h_3, e_12, e_20, SB]; (repeat (first | rw [if_pos (by omega)] | rw [if_neg (by omega)])); all_goals (first | rfl | simp only [SB, h_3, e_12, e_20])), (k_21.mono (by omega) (by omega)), (by first | omega | (simp only [LE]; omega)), rfl, rfl⟩
  have h_3d := h_3
  simp only [Bool.and_eq_true, Bool.and_eq_false_iff, decide_eq_true_eq, decide_eq_false_iff_not] at h_3d
  refine jO (cB (cN h_3)) <| jC <| jE <| jK (jc 1 x m rfl rfl) ?_
  refine jH rfl (jm 0 x m rfl rfl rfl rfl) ?_
  rintro _ _ rfl
  refine jA (jG (v := iv 4) rfl) <| jD <| jB <| jL <| jW <| kR (pick_perm [2, 2, 2] (A := [rC x.a0 x.c0 m.s, rS x.a1 x.c1 m.r, rS x.a2 x.c2 m.w]) (F := [mb b_2 x m, mb b_1 x m]) rfl).symm <| kB (.inl rfl) rfl (je (jc 3 x m rfl rfl) ⟨_, rfl⟩) (jN (v := iv 4) rfl) (tS 3 _) ?_
  exact ⟨x, m, 4, (by simp only [MS.setTimer, h_3, SB]; (repeat (first | rw [if_pos (by omega)] | rw [if_neg (by omega)])); all_goals (first | rfl | simp only [SB, h_3])), (hk.mono (by omega) (by omega)), (by first | omega | (simp only [LE]; omega)), rfl, rfl⟩

theorem M_kids (x : MA) (m : MS) {S T : Nat} (hk : m.ok S T) (hS : S ≤ 300000000) (hT : T ≤ 300000000) (parent : Int) (hparent : -9223372036854775808 ≤ parent ∧ parent ≤ 9223372036854775807) :
    Ct Tryz.prog 227 [mv x m, .int .i64 parent] (mr x m) (fun _ => True) (fun v A' => ∃ x' m' r0a r0c r0, MS.kids m parent = (m', r0) ∧ m'.ok (S) (T + S + 1) ∧ r0.length ≤ S ∧ v = .tuple #[mv x' m', .slice r0a r0.length r0c] ∧ A' = mr x' m' ++ [rI r0a r0c r0]) := by
  refine Ct.intro Tryz.func227 rfl Tryz.ntmps227 (lb rfl) fun w0 hpre => ?_
  refine jC <| jE ?_
  refine jH rfl (jy (cs := (mc x m)) rfl rfl) ?_
  rintro _ _ ⟨b_1, rfl, rfl⟩
  refine jH rfl (jn (z := zM) (cs := zC) gI rfl) ?_
  rintro _ _ ⟨b_2, rfl, rfl⟩
  refine jA (jG (v := .slice none 0 0) rfl) <| jD <| jB <| jC <| jE <| jK (jc 1 x m rfl rfl) ?_
  refine jH rfl (jM [2, 2, 2] Tryz.call221 rfl (N_sUnder x m hk (by omega) (by omega) [114, 47] (by decide)) rfl (fun _ _ => trivial)) ?_
  rintro _ _ ⟨_, ⟨x_5, m_6, l_7a, l_7c, l_7, e_3, k_4, f_8, rfl, rfl⟩, rfl⟩
  refine jA (jF (v := .tuple #[mv x_5 m_6, .slice l_7a l_7.length l_7c]) rfl) <| jA (jb (v := mv x_5 m_6) rfl rfl) <| jA (jb (v := .slice l_7a l_7.length l_7c) rfl rfl) ?_
  refine jH rfl (jm 5 x_5 m_6 rfl rfl rfl rfl) ?_
  rintro _ _ rfl
  refine jA (jG (v := .slice l_7a l_7.length l_7c) rfl) <| jD <| jB <| jC <| jE ?_
  refine jH rfl (kJ (ps := []) (cur := #[]) gB kt Tryz.zeroValue3 rfl (by kernel_rfl) (by decide) (by decide)) ?_
  rintro _ _ ⟨a_9, rfl, rfl⟩
  refine jA (jG (v := .slice a_9 0 0) rfl) <| jD <| jB <| jC <| jC <| jE <| jA (jG (v := iv 0) rfl) <| jD <| jB <| jg ?_
  have hll := f_8.1
  refine JC.perm (pick_perm [6, 1, 1, 1, 0, 0, 0] (A := [mb b_1 x_5 m_6, rC x_5.a0 x_5.c0 m_6.s, rS x_5.a1 x_5.c1 m_6.r, rS x_5.a2 x_5.c2 m_6.w, Res.row (.slice a_9 0 0) 3 1 0 (([] : List Int).map (Value.int .i64)), rS l_7a l_7c l_7, bk b_2 99 zC]) (F := []) rfl).symm <| kC (fun k_ e_ L_ => ∃ j : Nat, ∃ x : MA, ∃ mm : MS, ∃ out_a : Option Addr, ∃ out_c : Nat, ∃ out_ : List Int, (j ≤ l_7.length) ∧ (mm.ok (S) (T + 1 + j)) ∧ (out_.length ≤ j) ∧ (MS.kidsL parent (l_7.drop j) mm out_ = MS.kidsL parent l_7 m_6 ([] : List Int)) ∧ e_ 1 = iv parent ∧ e_ 2 = .pointer (some ⟨b_1, 0, none⟩) ∧ e_ 4 = .pointer (some ⟨b_2, 0, none⟩) ∧ e_ 5 = .slice none 0 0 ∧ e_ 6 = .slice l_7a l_7.length l_7c ∧ e_ 7 = .slice out_a out_.length out_c ∧ e_ 8 = nv j ∧ L_ = [mb b_1 x mm, rC x.a0 x.c0 mm.s, rS x.a1 x.c1 mm.r, rS x.a2 x.c2 mm.w, rI out_a out_c out_, rS l_7a l_7c l_7, bk b_2 99 zC] ∧ k_ = l_7.length - j) _ ⟨0, x_5, m_6, a_9, 0, ([] : List Int), by omega, (k_4.mono (by omega) (by omega)), (by first | omega | (simp only [LE]; omega)), rfl, rfl, rfl, rfl, rfl, rfl, rfl, rfl, rfl, rfl⟩ ?_
  rintro _ e_10 _ ⟨j, x, mm, out_a, out_c, out_, hj, hkmm, ho, hR, he_11, he_12, he_13, he_14, he_15, he_16, he_17, rfl, rfl⟩
  refine jC <| jC <| jE <| jA (jF (v := nv j) he_17) <| jA (jF (v := .slice l_7a l_7.length l_7c) he_15) <| jA (jp ks rfl) <| jA (jo rfl rfl) <| jD <| jB ?_
  by_cases h_18 : ((j : Nat) : Int) < ((l_7.length : Nat) : Int)
  · have hlt : j < l_7.length := by omega
    have hbj := f_8.2 j hlt
    try simp only [List.length_cons, List.length_nil] at hbj
    refine jO (cB (dT h_18)) <| jU <| jB <| jC <| jg <| jC <| jE <| jA (jF (v := .slice l_7a l_7.length l_7c) he_15) <| jA (jF (v := nv j) he_17) ?_
    refine kc fun hst => ?_
    obtain ⟨hr_19, hr_19b, -⟩ := row_some 5 rfl (by omega) hst
    refine jA (jl (i := j) ks kw hr_19 hr_19b rfl rfl (by omega)) <| jK (kl 5 (v := str (l_7.getD j [])) rfl rfl kv (atS (by omega))) <| jA (jG (v := str (l_7.getD j [])) rfl) <| jD <| jB <| jC <| jC <| jE <| jA (jF (v := str (l_7.getD j [])) rfl) <| jA (kV ky rfl) ?_
    refine jA (jo rfl rfl) <| jA (jF (v := .bool (decide (((l_7.getD j []).length : Int) < 5))) rfl) ?_
    by_cases h_20 : ((l_7.getD j []).length : Int) < 5
    · have hkid := isKid_short' h_20
      refine jS (b := true) rfl rfl rfl (cB (dT h_20)) <| jS (b := true) rfl rfl rfl (cB (dT h_20)) <| jS (b := true) rfl rfl rfl (cB (dT h_20)) <| jS (b := true) rfl rfl rfl (cB (dT h_20)) <| jS (b := true) rfl rfl rfl (cB (dT h_20)) <| jS (b := true) rfl rfl rfl (cB (dT h_20)) <| jA (kG (v := .bool true) (cB (dT h_20)) rfl) <| jD <| jB <| jO (cB rfl) ?_
      refine jz <| jj <| kA <| jB <| jE <| jA (jF (v := nv j) he_17) <| jA (ji (c := ((j + 1 : Nat) : Int)) rfl rfl (wr (by omega))) <| jA (jG (v := iv ((j + 1 : Nat) : Int)) rfl) <| jD <| kH [0, 0, 0, 0, 0, 0, 0] (A := [mb b_1 x mm, rC x.a0 x.c0 mm.s, rS x.a1 x.c1 mm.r, rS x.a2 x.c2 mm.w, rI out_a out_c out_, rS l_7a l_7c l_7, bk b_2 99 zC]) rfl ?_
      refine ju (l_7.length - (j + 1)) (by omega) ⟨j + 1, x, mm, out_a, out_c, out_, by omega, (hkmm.mono (by omega) (by omega)), (by first | omega | (simp only [LE]; omega)), (by rw [drop_at (getD_some (d := []) hlt)] at hR; simp only [MS.kidsL, drop_take2, e_3, h_18, h_20, hkid, SB] at hR; (repeat (first | rw [if_pos (by omega)] at hR | rw [if_neg (by omega)] at hR)); exact hR), he_11, he_12, he_13, he_14, he_15, he_16, rfl, rfl, rfl⟩
    refine jZ rfl rfl rfl (cB (dF h_20)) (ja (jf (jF (v := str (l_7.getD j [])) rfl))) ?_
    rintro _ _ ⟨rfl, rfl⟩
    refine jZ rfl rfl rfl (cB (dF h_20)) (ja (jf (jF (v := str (l_7.getD j [])) rfl))) ?_
    rintro _ _ ⟨rfl, rfl⟩
    refine jZ rfl rfl rfl (cB (dF h_20)) (ja (jf (kV ky rfl))) ?_
    rintro _ _ ⟨rfl, rfl⟩
    refine jZ rfl rfl rfl (cB (dF h_20)) (ja (jf (kW (c := ((((l_7.getD j []).length) - 2 : Nat) : Int)) rfl rfl (wr (by omega))))) ?_
    rintro _ _ ⟨rfl, rfl⟩
    refine jZ rfl rfl rfl (cB (dF h_20)) (ja (jf (PO.sliceSl (i := (((l_7.getD j []).length) - 2)) ky rfl rfl (by omega)))) ?_
    rintro _ _ ⟨rfl, rfl⟩
    refine jZ rfl rfl rfl (cB (dF h_20)) (ja (jf (kj rfl rfl))) ?_
    rintro _ _ ⟨rfl, rfl⟩
    refine jA (jv (v := .bool (!(decide (((l_7.getD j []).drop (((l_7.getD j []).length) - 2)) = [47, 112])))) (cB (dF h_20)) rfl) <| jD <| jB ?_
    by_cases h_21 : ((l_7.getD j []).drop (((l_7.getD j []).length) - 2)) = [47, 112]
    · have hkid := isKid_yes (by omega) h_21
      refine jP (cB (cN (dT h_21))) <| jU <| jB <| jC <| jE <| jA (jG (v := iv 0) rfl) <| jD <| jB <| jC <| jE ?_
      refine jK (jc 0 x mm rfl he_12) <| jA (jF (v := str (l_7.getD j [])) rfl) ?_
      refine jH rfl (jM [1, 1, 1] Tryz.call98 rfl (N_sNumAt x mm hkmm (by omega) (by omega) (l_7.getD j [])) rfl (fun _ _ => trivial)) ?_
      rintro _ _ ⟨_, ⟨x_24, m_25, n_26, e_22, k_23, f_27, rfl, rfl⟩, rfl⟩
      refine jA (jF (v := .tuple #[mv x_24 m_25, iv n_26]) rfl) <| jA (jb (v := mv x_24 m_25) rfl rfl) <| jA (jb (v := iv n_26) rfl rfl) ?_
      refine jH rfl (jm 3 x_24 m_25 rfl he_12 rfl rfl) ?_
      rintro _ _ rfl
      refine jA (jG (v := iv n_26) rfl) <| jD <| jB <| jC <| jE <| jA (jF (v := iv n_26) rfl) <| jA (jF (v := iv parent) he_11) <| jA (jw rfl rfl) <| jD <| jB ?_
      by_cases h_28 : n_26 = parent
      · refine jO (cB (dT h_28)) <| jE <| jA (jF (v := .slice out_a out_.length out_c) he_16) <| jA (jF (v := str (l_7.getD j [])) rfl) <| jA (jF (v := str (l_7.getD j [])) rfl) <| jA (kV ky rfl) <| jA (kW (c := ((((l_7.getD j []).length) - 2 : Nat) : Int)) rfl rfl (wr (by omega))) <| jA (PO.sliceS (i := 2) (j := (((l_7.getD j []).length) - 2)) ky rfl rfl rfl (by omega) (by omega)) ?_
        refine jH rfl (jM [] Tryz.call170 rfl (N_sNumOf (((l_7.getD j []).drop 2).take ((((l_7.getD j []).length) - 2) - 2)) (by first | omega | (simp only [LE]; omega))) rfl (fun _ _ => trivial)) ?_
        rintro _ _ ⟨_, ⟨n_31, e_29, f_32, rfl, rfl⟩, rfl⟩
        refine jH rfl (kJ (ps := [(0, iv n_31)]) (cur := #[iv n_31]) gB kt Tryz.zeroValue3 rfl (by kernel_rfl) (by decide) (by decide)) ?_
        rintro _ _ ⟨a_33, rfl, rfl⟩
        refine jH rfl (kM 5 (q := 1) (news := ([n_31] : List Int).map (Value.int .i64)) (n' := (out_ ++ ([n_31] : List Int)).length) (cs' := (out_ ++ ([n_31] : List Int)).map (Value.int .i64)) rfl gB gB Tryz.typeInfo3 rfl (by' := 8) rfl rfl rfl rfl rfl (fun w hw => Src.sees (hw.see (i := 0) rfl) (oneI _)) (by (try simp only [LE]); omega) (by (try simp only [LE]); omega) (by simp only [List.length_append, List.length_take, List.length_drop, List.length_cons, List.length_nil] <;> first | rfl | omega) (by simp only [List.map_append])) ?_
        rintro _ _ ⟨a_34, c_35, rfl, rfl⟩
        refine jA (jG (v := .slice a_34 ((out_ ++ ([n_31] : List Int)).length) c_35) rfl) <| jD <| jk <| jB <| jE <| jA (jF (v := nv j) he_17) <| jA (ji (c := ((j + 1 : Nat) : Int)) rfl rfl (wr (by omega))) <| jA (jG (v := iv ((j + 1 : Nat) : Int)) rfl) <| jD <| kH [4, 1, 1, 1, 1, 1, 1] (A := [mb b_1 x_24 m_25, rC x_24.a0 x_24.c0 m_25.s, rS x_24.a1 x_24.c1 m_25.r, rS x_24.a2 x_24.c2 m_25.w, rI a_34 c_35 (out_ ++ ([n_31] : List Int)), rS l_7a l_7c l_7, bk b_2 99 zC]) rfl ?_
        refine ju (l_7.length - (j + 1)) (by omega) ⟨j + 1, x_24, m_25, a_34, c_35, (out_ ++ ([n_31] : List Int)), by omega, (k_23.mono (by omega) (by omega)), (by first | omega | (simp only [LE]; omega)), (by rw [drop_at (getD_some (d := []) hlt)] at hR; simp only [MS.kidsL, drop_take2, e_3, h_18, h_20, h_21, hkid, e_22, h_28, e_29, SB] at hR; (repeat (first | rw [if_pos (by omega)] at hR | rw [if_neg (by omega)] at hR)); exact hR), he_11, he_12, he_13, he_14, he_15, rfl, rfl, rfl, rfl⟩
      refine jP (cB (dF h_28)) <| jU <| jk <| jB <| jE <| jA (jF (v := nv j) he_17) <| jA (ji (c := ((j + 1 : Nat) : Int)) rfl rfl (wr (by omega))) <| jA (jG (v := iv ((j + 1 : Nat) : Int)) rfl) <| jD <| kH [3, 0, 0, 0, 0, 0, 0] (A := [mb b_1 x_24 m_25, rC x_24.a0 x_24.c0 m_25.s, rS x_24.a1 x_24.c1 m_25.r, rS x_24.a2 x_24.c2 m_25.w, rI out_a out_c out_, rS l_7a l_7c l_7, bk b_2 99 zC]) rfl ?_
      refine ju (l_7.length - (j + 1)) (by omega) ⟨j + 1, x_24, m_25, out_a, out_c, out_, by omega, (k_23.mono (by omega) (by omega)), (by first | omega | (simp only [LE]; omega)), (by rw [drop_at (getD_some (d := []) hlt)] at hR; simp only [MS.kidsL, drop_take2, e_3, h_18, h_20, h_21, hkid, e_22, h_28, SB] at hR; (repeat (first | rw [if_pos (by omega)] at hR | rw [if_neg (by omega)] at hR)); exact hR), he_11, he_12, he_13, he_14, he_15, he_16, rfl, rfl, rfl⟩
    have hkid := isKid_no h_21
    refine jO (cB (cN (dF h_21))) <| jz <| jj <| kA <| jB <| jE <| jA (jF (v := nv j) he_17) <| jA (ji (c := ((j + 1 : Nat) : Int)) rfl rfl (wr (by omega))) <| jA (jG (v := iv ((j + 1 : Nat) : Int)) rfl) <| jD ?_
    refine kH [0, 0, 0, 0, 0, 0, 0] (A := [mb b_1 x mm, rC x.a0 x.c0 mm.s, rS x.a1 x.c1 mm.r, rS x.a2 x.c2 mm.w, rI out_a out_c out_, rS l_7a l_7c l_7, bk b_2 99 zC]) rfl ?_
    refine ju (l_7.length - (j + 1)) (by omega) ⟨j + 1, x, mm, out_a, out_c, out_, by omega, (hkmm.mono (by omega) (by omega)), (by first | omega | (simp only [LE]; omega)), (by rw [drop_at (getD_some (d := []) hlt)] at hR; simp only [MS.kidsL, drop_take2, e_3, h_18, h_20, h_21, hkid, SB] at hR; (repeat (first | rw [if_pos (by omega)] at hR | rw [if_neg (by omega)] at hR)); exact hR), he_11, he_12, he_13, he_14, he_15, he_16, rfl, rfl, rfl⟩
  rw [List.drop_of_length_le (by omega)] at hR
  simp only [MS.kidsL, drop_take2] at hR
  have hE := hR.symm
  refine jP (cB (dF h_18)) <| jz <| jj <| jj <| kA <| jB <| jC <| jE <| jK (jc 0 x mm rfl he_12) <| jA (jF (v := .slice out_a out_.length out_c) he_16) ?_
  refine jH rfl (jm 6 x mm rfl he_13 rfl rfl) ?_
  rintro _ _ rfl
  refine jA (jG (v := .slice out_a out_.length out_c) rfl) <| jD <| jB <| jL <| kR (pick_perm [1, 1, 1, 1] (A := [rC x.a0 x.c0 mm.s, rS x.a1 x.c1 mm.r, rS x.a2 x.c2 mm.w, rI out_a out_c out_]) (F := [mb b_1 x mm, rS l_7a l_7c l_7, mb b_2 x mm]) rfl).symm <| kB (.inl rfl) rfl (je (jc 6 x mm rfl he_13) ⟨_, he_13⟩) (jN (v := .slice out_a out_.length out_c) rfl) (tS 4 _) ?_
  exact ⟨x, mm, out_a, out_c, out_, (by simp only [MS.kids, e_3, h_18, hE, SB]; (repeat (first | rw [if_pos (by omega)] | rw [if_neg (by omega)])); all_goals (first | rfl | simp only [SB, e_3, h_18, hE])), (hkmm.mono (by omega) (by omega)), (by first | omega | (simp only [LE]; omega)), rfl, rfl⟩

end Go.Proofs.YtghfijncihbojaaGreat

set_option linter.unusedSimpArgs false
set_option linter.unusedVariables false
set_option linter.unnecessarySimpa false
namespace Go.Proofs.YtghfijncihbojaaGreat
open Go Go.RowKit

/-- What Hex hands back. -/
def hexP (s : Str) : Str × Bool := if 20000 < (s.length : Int) then ([], false) else (hexB s, true)
theorem hexS_P (s : Str) : hexS s = (hexP s).1 := by
  unfold hexS hexP
  by_cases h : 20000 < s.length
  · rw [if_pos h, if_pos (by omega)]
  · rw [if_neg h, if_neg (by omega)]
def hexAcc : Str → Str → Str
  | [], out => out
  | c :: s, out => hexAcc s (out ++ [hexFig (c.toNat / 16), hexFig (c.toNat % 16)])
theorem hexAcc_app : ∀ (s out : Str), hexAcc s out = out ++ hexB s
  | [], out => by simp [hexAcc, hexB]
  | c :: s, out => by rw [hexAcc, hexAcc_app s, hexB]; simp
def hexV (c : UInt8) : Int := match hexVal c with | some n => (n : Int) | none => -1
theorem unhexL_step {t out : Str} {j : Nat} (h : j + 1 < t.length) : (unhexL (t.drop j)).map (out ++ ·) = if hexV (t.getD j 0) < 0 ∨ hexV (t.getD (j + 1) 0) < 0 then none else
    (unhexL (t.drop (j + 2))).map ((out ++ [UInt8.ofNat (16 * hexV (t.getD j 0) + hexV (t.getD (j + 1) 0)).toNat]) ++ ·) := by
  rw [drop_at (getD_some (d := (0 : UInt8)) (by omega : j < t.length)), drop_at (getD_some (d := (0 : UInt8)) h), unhexL]
  unfold hexV
  cases h1 : hexVal (t.getD j 0) with
  | none => simp
  | some a =>
    cases h2 : hexVal (t.getD (j + 1) 0) with
    | none => simp
    | some b =>
      rw [if_neg (by simp only; omega)]
      have e : (16 * (a : Int) + (b : Int)).toNat = 16 * a + b := by omega
      simp only [e]
      cases unhexL (t.drop (j + 2)) with
      | none => rfl
      | some r => simp
theorem unhex_some {t r : Str} (h : unhexL t = some r) (h1 : ¬ (40000 : Int) < (t.length : Int)) : unhex t = (r, true) := by
  unfold unhex
  rw [if_neg (by omega), h]
theorem unhex_none {t : Str} (h : unhexL t = none) : unhex t = ([], false) := by
  unfold unhex
  rw [h]
  split <;> rfl
theorem unhexL_odd : ∀ (t : Str), t.length % 2 = 1 → unhexL t = none
  | [], h => by simp at h
  | [_], _ => rfl
  | a :: b :: t, h => by
    unfold unhexL
    rw [unhexL_odd t (by simp only [List.length_cons] at h; omega)]
    cases hexVal a <;> cases hexVal b <;> rfl
theorem unhex_bad {t : Str} (h : (40000 : Int) < (t.length : Int) ∨ ¬ ((t.length % 2 : Nat) : Int) = 0) : unhex t = ([], false) := by
  rcases h with h | h
  · unfold unhex
    rw [if_pos (by omega)]
  · exact unhex_none (unhexL_odd t (by omega))
theorem unhex_fst {t : Str} {u : Str} (h : unhex t = (u, false)) : u = [] := by
  unfold unhex at h
  split at h
  · simp at h; exact h
  · split at h <;> simp at h
    exact h
theorem messageOf_nil {v : Str} (h : v = []) : messageOf v = [] := by subst h; rfl
theorem messageOf_one {v : Str} (h : ¬ v = []) (h2 : ((v.getD 0 0).toNat : Int) = 45) : messageOf v = (unhex (v.drop 1)).1 := by
  cases v with
  | nil => exact absurd rfl h
  | cons c t =>
    have hc : c = 45 := by
      simp only [List.getD_cons_zero] at h2
      apply UInt8.toNat.inj
      show c.toNat = 45
      omega
    unfold messageOf
    simp [hc]
theorem messageOf_no {v : Str} (h2 : ¬ ((v.getD 0 0).toNat : Int) = 45) : messageOf v = [] := by
  cases v with
  | nil => rfl
  | cons c t =>
    have hc : ¬ c = 45 := by
      intro e
      subst e
      simp at h2
    unfold messageOf
    simp [hc]
theorem hexAcc_nil (s : Str) : hexAcc s [] = hexB s := by rw [hexAcc_app]; rfl
theorem hexP_no {s : Str} (h : ¬ (20000 : Int) < (s.length : Int)) : hexP s = (hexB s, true) := by unfold hexP; rw [if_neg h]
theorem hexP_yes {s : Str} (h : (20000 : Int) < (s.length : Int)) : hexP s = ([], false) := by unfold hexP; rw [if_pos h]
theorem hexFig_lo {k : Nat} (h : k < 10) : (hexFig k).toNat = 48 + k := by
  unfold hexFig
  rw [if_pos h, UInt8.toNat_ofNat_of_lt' (by show _ < 256; omega)]
theorem hexFig_hi {k : Nat} (h : ¬ k < 10) (h2 : k < 16) : (hexFig k).toNat = 87 + k := by
  unfold hexFig
  rw [if_neg h, UInt8.toNat_ofNat_of_lt' (by show _ < 256; omega)]
theorem hexV_a {c : UInt8} (h1 : 48 ≤ c.toNat) (h2 : c.toNat ≤ 57) : hexV c = (c.toNat : Int) - 48 := by
  unfold hexV hexVal
  rw [if_pos ⟨h1, h2⟩]
  simp only
  omega
theorem hexV_b {c : UInt8} (h1 : 97 ≤ c.toNat) (h2 : c.toNat ≤ 102) : hexV c = (c.toNat : Int) - 97 + 10 := by
  unfold hexV hexVal
  rw [if_neg (by omega), if_pos ⟨h1, h2⟩]
  simp only
  omega
theorem hexV_c {c : UInt8} (h1 : c.toNat < 48 ∨ 57 < c.toNat) (h2 : c.toNat < 97 ∨ 102 < c.toNat) : hexV c = -1 := by
  unfold hexV hexVal
  rw [if_neg (by omega), if_neg (by omega)]
end Go.Proofs.YtghfijncihbojaaGreat

set_option linter.unusedSimpArgs false
set_option linter.unusedVariables false
set_option linter.unnecessarySimpa false
namespace Go.Proofs.YtghfijncihbojaaGreat
open Go Go.RowKit

theorem wr8u {x : Int} {c : UInt8} (h : 0 ≤ x ∧ x < 256) (hc : c = UInt8.ofNat x.toNat) : IntKind.u8.wrap x = ((c.toNat : Nat) : Int) := by
  subst hc
  refine wr8 ⟨?_, by omega, by omega⟩
  rw [UInt8.toNat_ofNat_of_lt' (by show _ < 256; omega)]
  omega
theorem setB {l : Str} {i : Nat} {c : UInt8} (h : i < l.length) : (l.map encB).take (i * 1) ++ [.int .u8 (c.toNat : Int)] ++ (l.map encB).drop (i * 1 + 1) = (l.set i c).map encB := by
  have e : ∀ q : Str, q.flatMap (fun s => [encB s]) = q.map encB := fun q => by
    induction q with
    | nil => rfl
    | cons x q ih => rw [List.flatMap_cons, ih]; rfl
  have := flat_set (enc := fun s => [encB s]) (k := 1) (fun _ => rfl) l i c h
  rw [e, e] at this
  exact this
section
variable {P : Program} {ops : Array Oper} {Q : Exit → Act → World → Prop} {n : Nat} {w0 w : World} {D : List Nat} {L : List Res} {e : Env}
variable {d : Option Tmp} {ty : TypeId} {pos : String} {aft : Array Edge} {gd : Option (Nat × Bool)}
/-- A text's bytes, copied into a row of their own. -/
theorem JO.toBytes {src dst : TypeId} {x : Operand} {s : Str} (hs : P.underlying src = some .string) (hd : P.underlying dst = some (.slice TB)) (he : P.underlying TB = some (.int .u8)) (hx : rd n e x = str s) (hm : s.length ≤ maxLen) :
    JO P n w0 D L e ⟨d, .convert src dst x, ty, pos, aft, gd⟩ (fun u L' => ∃ a c, u = .slice a s.length c ∧ L' = .row (.slice a s.length c) TB 1 s.length (s.map encB) :: L) := JO.ofRun fun w hw => by
  have hsz : (ByteArray.mk s.toArray).size = s.length := size_mk s
  have hrun := Lib.run_convert_string_bytes (P := P) w src dst TB ⟨s.toArray⟩ hs hd he
  have hge := grownCap_ge w s.length 0 TB
  have hle := grownCap_le_maxLen w s.length 0 TB hm
  have hcs : (Lib.bytesCells w TB ⟨s.toArray⟩).size = grownCap w s.length 0 TB := by
    unfold Lib.bytesCells
    rw [hsz]
    simp
    omega
  have hcl : (Lib.bytesCells w TB ⟨s.toArray⟩).toList.take s.length = s.map encB := by
    unfold Lib.bytesCells
    simp only [Array.toList_append, Array.toList_map]
    rw [List.take_append_of_le_length (by simp), List.take_of_length_le (by simp)]
  refine ⟨_, .row (.slice (some ⟨w.heap.size, 0, none⟩) s.length (grownCap w s.length 0 TB)) TB 1 s.length (s.map encB) :: L, Lib.bytesWorld w TB ⟨s.toArray⟩, ?_, ⟨_, _, rfl, rfl⟩, ?_⟩
  · simp only [execOp, hx, str, Sem.run_bind, hrun, Result.andThen_ok, hsz]
    rfl
  · refine hw.turn (A := []) (A' := [.row (.slice (some ⟨w.heap.size, 0, none⟩) s.length (grownCap w s.length 0 TB)) TB 1 s.length (s.map encB)]) (F := L) (List.Perm.refl _) rfl rfl rfl (by rw [Lib.bytesWorld_size]; omega)
      (fun k hk _ => Lib.bytesWorld_at_old w _ _ k hk) ?_ (by simp [idsOf, Res.ids, Value.ownBlock]) ?_
    · intro r hr
      simp only [List.mem_singleton] at hr
      subst hr
      refine ⟨by simp, .inr ⟨w.heap.size, _, _, rfl, Nat.zero_le _, ⟨_, Lib.bytesWorld_at_new w TB ⟨s.toArray⟩, .inr ⟨Nat.le_refl _, rfl⟩⟩, hge, hle, by rw [hcs, Nat.mul_one]; exact Nat.le_refl _, by rw [Nat.mul_one]; exact hcl⟩⟩
    · intro i hi
      simp only [idsOf, Res.ids, Value.ownBlock, List.flatMap_cons, List.flatMap_nil, List.append_nil, Option.mem_toList, Option.some.injEq] at hi
      exact .inr (by omega)
end

end Go.Proofs.YtghfijncihbojaaGreat

set_option linter.unusedSimpArgs false
set_option linter.unusedVariables false
set_option linter.unnecessarySimpa false
namespace Go.Proofs.YtghfijncihbojaaGreat
open Go Go.RowKit
@[reducible] def cb (b : Nat) (a : Option Addr) (c : Nat) (l : Str) (p : Nat) (s : Int) : Res := bk b 130 [.slice a l.length c, .int .i64 ((p : Nat) : Int), .int .i64 s]
/-- The bytes that a cursor goes over can be read, and none of these resources holds them. -/
def seesC (w : World) (a : Option Addr) (c : Nat) (l : Str) (A : List Res) : Prop := Sees w (.slice a l.length c) 1 l.length (l.map encB) ∧ ∀ i, (Value.slice a l.length c).ownBlock = some i → i ∉ idsOf A
theorem atB {l : Str} {i : Nat} (h : i < l.length) : (l.map encB)[i * 1]? = some (.int .u8 (((l.getD i 0).toNat : Nat) : Int)) := by simp [h, encB]
theorem and_bnd (x m : Int) (h0 : 0 ≤ m) (h1 : m < 9223372036854775808) : 0 ≤ bits .and .i64 x m ∧ bits .and .i64 x m ≤ m := by
  have hm : (BitVec.ofInt 64 m).toNat = m.toNat := by
    rw [BitVec.toNat_ofInt]
    congr 1
    omega
  have hle : ((BitVec.ofInt 64 x) &&& (BitVec.ofInt 64 m)).toNat ≤ m.toNat := by
    rw [BitVec.toNat_and, hm]
    exact Nat.and_le_right
  have hw : bits .and .i64 x m = ((((BitVec.ofInt 64 x) &&& (BitVec.ofInt 64 m)).toNat : Nat) : Int) := by
    unfold bits
    show IntKind.i64.wrap ((((BitVec.ofInt 64 x) &&& (BitVec.ofInt 64 m)).toNat : Nat) : Int) = _
    exact wr (by omega)
  rw [hw]
  omega
theorem St.apart {w0 w : World} {D : List Nat} {L A : List Res} {v : Value} {k m : Nat} {vs : List Value} (hw : St w0 D L w) (hs : Sees w0 v k m vs) (hD : ∀ b, v.ownBlock = some b → b ∉ D) (hA : ∀ r ∈ A, r ∈ L) :
    ∀ j, v.ownBlock = some j → j ∉ idsOf A := fun j hj hin => by
  obtain ⟨r, hr, hjr⟩ := mem_idsOf.1 hin
  rcases hs.2 with ⟨rfl, _⟩ | ⟨b, o, cap, hv, h1, h2, h3, h4⟩
  · simp [Value.ownBlock] at hj
  · rcases hw.fresh j (mem_idsOf.2 ⟨r, hA r hr, hjr⟩) with h | h
    · exact hD j hj h
    · subst hv
      simp [Value.ownBlock] at hj
      omega
/-- What PutKey keeps. -/
def okC' (n k : Nat) (s : List Cell) : Prop := s.length ≤ n ∧ ∀ c ∈ s, c.1.length ≤ k ∧ c.2.length ≤ k
theorem okC'.put {n k : Nat} {s : List Cell} (h : okC' n k s) (key val : Str) (h1 : key.length ≤ k) (h2 : val.length ≤ k) : okC' (n + 1) k (putKey s key val) := by
  refine ⟨Nat.le_trans (putKey_len s key val) (by have := h.1; omega), fun c hc => ?_⟩
  rcases putKey_mem (s := s) hc with hc | ⟨rfl, _, _⟩
  · exact h.2 c hc
  · exact ⟨h1, h2⟩
theorem okC'.mono {n n' k : Nat} {s : List Cell} (h : okC' n k s) (hn : n ≤ n') : okC' n' k s := ⟨Nat.le_trans h.1 hn, h.2⟩
attribute [local irreducible] JL JC JQ JO LO PO JA JX Ct

theorem D_byte (qb : Nat) (qa : Option Addr) (qc : Nat) (ql : Str) (qp : Nat) (qs : Int) (hql : ql.length ≤ 1048576) (hqp : qp ≤ ql.length)  :
    Ct Tryz.prog 90 [.pointer (some ⟨qb, 0, none⟩)] [cb qb qa qc ql qp qs] (fun w => seesC w qa qc ql [cb qb qa qc ql qp qs]) (fun v A' => ∃ qp' qs' r0, qp' ≤ ql.length ∧ (r0 ≤ 255) ∧ v = .int .i64 ((r0 : Nat) : Int) ∧ A' = [cb qb qa qc ql qp' qs']) := by
  refine Ct.intro Tryz.func90 rfl Tryz.ntmps90 (lb rfl) fun w0 hpre => ?_
  have hs_qa : Sees w0 _ _ _ _ := hpre.1
  refine jC <| jE <| jA (jG (v := iv 0) rfl) <| jD <| jB <| jC <| jE <| jA (jF (v := .pointer (some ⟨qb, 0, none⟩)) rfl) <| jA (jF (v := .pointer (some ⟨qb, 0, none⟩)) rfl) <| jA (PO.nilCheck rfl) ?_
  refine jA (jJ fo130_2 rfl) <| jK (jV 0 (v := iv qs) rfl rfl kp rfl) <| jA (PO.mulW rfl rfl) <| jA (PO.addW rfl rfl) <| jA (PO.nilCheck rfl) <| jA (jJ fo130_2 rfl) ?_
  refine jH rfl (jT 0 (vs := [iv (IntKind.i64.wrap ((IntKind.i64.wrap (qs * 6364136223846793005)) + 1442695040888963407))]) (cs' := [.slice qa ql.length qc, nv qp, iv (IntKind.i64.wrap ((IntKind.i64.wrap (qs * 6364136223846793005)) + 1442695040888963407))]) rfl rfl rfl rfl kt rfl rfl (lb rfl) rfl) ?_
  rintro _ _ rfl
  refine jD <| jB <| jC <| jr [cb qb qa qc ql qp (IntKind.i64.wrap ((IntKind.i64.wrap (qs * 6364136223846793005)) + 1442695040888963407))] 12 mixed (by simp) <| jI 0 rfl (jF (v := .pointer (some ⟨qb, 0, none⟩)) rfl) <| jI 1 rfl (PO.nilCheck rfl) <| jI 2 rfl (jJ fo130_2 rfl) <| jh 3 rfl (jV 0 (v := iv (IntKind.i64.wrap ((IntKind.i64.wrap (qs * 6364136223846793005)) + 1442695040888963407))) rfl rfl kp rfl) <| jI 4 rfl (PO.shr rfl rfl (by decide) (by decide)) <| jI 5 rfl (jF (v := .pointer (some ⟨qb, 0, none⟩)) rfl) ?_
  refine jI 6 rfl (PO.nilCheck rfl) <| jI 7 rfl (jJ fo130_2 rfl) <| jh 8 rfl (jV 0 (v := iv (IntKind.i64.wrap ((IntKind.i64.wrap (qs * 6364136223846793005)) + 1442695040888963407))) rfl rfl kp rfl) <| jI 9 rfl (PO.shr rfl rfl (by decide) (by decide)) <| jI 10 rfl (PO.bits (by simp) rfl rfl) <| jI 11 rfl (PO.bits (by simp) rfl rfl) <| jI 12 rfl (jG (v := iv (Go.bits .and .i64 (Go.bits .xor .i64 ((IntKind.i64.wrap ((IntKind.i64.wrap (qs * 6364136223846793005)) + 1442695040888963407)) / 2 ^ (33 : Int).toNat) ((IntKind.i64.wrap ((IntKind.i64.wrap (qs * 6364136223846793005)) + 1442695040888963407)) / 2 ^ (45 : Int).toNat)) 255)) rfl) <| kI (by kernel_rfl) <| jB <| jC ?_
  refine jC <| jr [cb qb qa qc ql qp (IntKind.i64.wrap ((IntKind.i64.wrap (qs * 6364136223846793005)) + 1442695040888963407))] 1000 mixed (by simp) <| jI 0 rfl (jF (v := .pointer (some ⟨qb, 0, none⟩)) rfl) <| jI 1 rfl (PO.nilCheck rfl) <| jI 2 rfl (jJ fo130_1 rfl) <| jh 3 rfl (jV 0 (v := nv qp) rfl rfl kp rfl) <| jI 4 rfl (jF (v := .pointer (some ⟨qb, 0, none⟩)) rfl) <| jI 5 rfl (PO.nilCheck rfl) <| jI 6 rfl (jJ fo130_0 rfl) <| jh 7 rfl (jV 0 (v := .slice qa ql.length qc) rfl rfl Tryz.isAgg22 rfl) ?_
  refine jI 8 rfl (jp gM rfl) <| jI 9 rfl (jo rfl rfl) <| kI (by kernel_rfl) <| jB ?_
  by_cases h_1 : ((qp : Nat) : Int) < ((ql.length : Nat) : Int)
  · have hu8 := UInt8.toNat_lt (ql.getD qp 0)
    refine jO (cB (dT h_1)) <| jC <| jr [cb qb qa qc ql qp (IntKind.i64.wrap ((IntKind.i64.wrap (qs * 6364136223846793005)) + 1442695040888963407))] 14 mixed (by simp) <| jI 0 rfl (jF (v := iv (Go.bits .and .i64 (Go.bits .xor .i64 ((IntKind.i64.wrap ((IntKind.i64.wrap (qs * 6364136223846793005)) + 1442695040888963407)) / 2 ^ (33 : Int).toNat) ((IntKind.i64.wrap ((IntKind.i64.wrap (qs * 6364136223846793005)) + 1442695040888963407)) / 2 ^ (45 : Int).toNat)) 255)) rfl) <| jI 1 rfl (jF (v := .pointer (some ⟨qb, 0, none⟩)) rfl) <| jI 2 rfl (PO.nilCheck rfl) <| jI 3 rfl (jJ fo130_0 rfl) <| jh 4 rfl (jV 0 (v := .slice qa ql.length qc) rfl rfl Tryz.isAgg22 rfl) <| jI 5 rfl (jF (v := .pointer (some ⟨qb, 0, none⟩)) rfl) <| jI 6 rfl (PO.nilCheck rfl) ?_
    refine jI 7 rfl (jJ fo130_1 rfl) <| jh 8 rfl (jV 0 (v := nv qp) rfl rfl kp rfl) ?_
    obtain ⟨hr_2, hr_2b, -⟩ := sees_some hs_qa (by omega)
    refine jI 9 rfl (jl (i := qp) gM gi hr_2 hr_2b rfl rfl (by omega)) <| jh 10 rfl (kK (v := .int .u8 (((ql.getD qp 0).toNat : Nat) : Int)) hs_qa (hpre.2) rfl Tryz.isAgg5 (atB (by omega))) <| jI 11 rfl (PO.convI (c := (((ql.getD qp 0).toNat : Nat) : Int)) gZ gg rfl (wr (by omega))) <| jI 12 rfl (PO.addW rfl rfl) <| jI 13 rfl (PO.bits (by simp) rfl rfl) <| jI 14 rfl (jG (v := iv (Go.bits .and .i64 (IntKind.i64.wrap ((Go.bits .and .i64 (Go.bits .xor .i64 ((IntKind.i64.wrap ((IntKind.i64.wrap (qs * 6364136223846793005)) + 1442695040888963407)) / 2 ^ (33 : Int).toNat) ((IntKind.i64.wrap ((IntKind.i64.wrap (qs * 6364136223846793005)) + 1442695040888963407)) / 2 ^ (45 : Int).toNat)) 255) + (((ql.getD qp 0).toNat : Nat) : Int))) 255)) rfl) <| kI (by kernel_rfl) <| jB <| jE <| jA (jF (v := .pointer (some ⟨qb, 0, none⟩)) rfl) ?_
    refine jA (jF (v := .pointer (some ⟨qb, 0, none⟩)) rfl) <| jA (PO.nilCheck rfl) <| jA (jJ fo130_1 rfl) <| jK (jV 0 (v := nv qp) rfl rfl kp rfl) <| jA (ji (c := ((qp + 1 : Nat) : Int)) rfl rfl (wr (by omega))) <| jA (PO.nilCheck rfl) <| jA (jJ fo130_1 rfl) ?_
    refine jH rfl (jT 0 (vs := [iv ((qp + 1 : Nat) : Int)]) (cs' := [.slice qa ql.length qc, iv ((qp + 1 : Nat) : Int), iv (IntKind.i64.wrap ((IntKind.i64.wrap (qs * 6364136223846793005)) + 1442695040888963407))]) rfl rfl rfl rfl kt rfl rfl (lb rfl) rfl) ?_
    rintro _ _ rfl
    refine jD <| jB <| jC <| jE <| jA (jF (v := iv (Go.bits .and .i64 (IntKind.i64.wrap ((Go.bits .and .i64 (Go.bits .xor .i64 ((IntKind.i64.wrap ((IntKind.i64.wrap (qs * 6364136223846793005)) + 1442695040888963407)) / 2 ^ (33 : Int).toNat) ((IntKind.i64.wrap ((IntKind.i64.wrap (qs * 6364136223846793005)) + 1442695040888963407)) / 2 ^ (45 : Int).toNat)) 255) + (((ql.getD qp 0).toNat : Nat) : Int))) 255)) rfl) <| jA (jG (v := iv (Go.bits .and .i64 (IntKind.i64.wrap ((Go.bits .and .i64 (Go.bits .xor .i64 ((IntKind.i64.wrap ((IntKind.i64.wrap (qs * 6364136223846793005)) + 1442695040888963407)) / 2 ^ (33 : Int).toNat) ((IntKind.i64.wrap ((IntKind.i64.wrap (qs * 6364136223846793005)) + 1442695040888963407)) / 2 ^ (45 : Int).toNat)) 255) + (((ql.getD qp 0).toNat : Nat) : Int))) 255)) rfl) <| jD <| jB <| jL <| jR (.inl rfl) rfl (jN (v := iv (Go.bits .and .i64 (IntKind.i64.wrap ((Go.bits .and .i64 (Go.bits .xor .i64 ((IntKind.i64.wrap ((IntKind.i64.wrap (qs * 6364136223846793005)) + 1442695040888963407)) / 2 ^ (33 : Int).toNat) ((IntKind.i64.wrap ((IntKind.i64.wrap (qs * 6364136223846793005)) + 1442695040888963407)) / 2 ^ (45 : Int).toNat)) 255) + (((ql.getD qp 0).toNat : Nat) : Int))) 255)) rfl) (List.Sublist.refl _) ?_
    have hbb := and_bnd (IntKind.i64.wrap ((Go.bits .and .i64 (Go.bits .xor .i64 ((IntKind.i64.wrap ((IntKind.i64.wrap (qs * 6364136223846793005)) + 1442695040888963407)) / 2 ^ (33 : Int).toNat) ((IntKind.i64.wrap ((IntKind.i64.wrap (qs * 6364136223846793005)) + 1442695040888963407)) / 2 ^ (45 : Int).toNat)) 255) + (((ql.getD qp 0).toNat : Nat) : Int))) 255 (by decide) (by decide)
    obtain ⟨r0, hr0⟩ : ∃ r0 : Nat, Go.bits .and .i64 (IntKind.i64.wrap ((Go.bits .and .i64 (Go.bits .xor .i64 ((IntKind.i64.wrap ((IntKind.i64.wrap (qs * 6364136223846793005)) + 1442695040888963407)) / 2 ^ (33 : Int).toNat) ((IntKind.i64.wrap ((IntKind.i64.wrap (qs * 6364136223846793005)) + 1442695040888963407)) / 2 ^ (45 : Int).toNat)) 255) + (((ql.getD qp 0).toNat : Nat) : Int))) 255 = ((r0 : Nat) : Int) := ⟨(Go.bits .and .i64 (IntKind.i64.wrap ((Go.bits .and .i64 (Go.bits .xor .i64 ((IntKind.i64.wrap ((IntKind.i64.wrap (qs * 6364136223846793005)) + 1442695040888963407)) / 2 ^ (33 : Int).toNat) ((IntKind.i64.wrap ((IntKind.i64.wrap (qs * 6364136223846793005)) + 1442695040888963407)) / 2 ^ (45 : Int).toNat)) 255) + (((ql.getD qp 0).toNat : Nat) : Int))) 255).toNat, by omega⟩
    rw [hr0] at hbb
    exact ⟨(qp + 1), (IntKind.i64.wrap ((IntKind.i64.wrap (qs * 6364136223846793005)) + 1442695040888963407)), r0, by omega, by omega, congrArg (Value.int .i64) hr0, rfl⟩
  refine jP (cB (dF h_1)) <| jU <| jB <| jC <| jE <| jA (jF (v := iv (Go.bits .and .i64 (Go.bits .xor .i64 ((IntKind.i64.wrap ((IntKind.i64.wrap (qs * 6364136223846793005)) + 1442695040888963407)) / 2 ^ (33 : Int).toNat) ((IntKind.i64.wrap ((IntKind.i64.wrap (qs * 6364136223846793005)) + 1442695040888963407)) / 2 ^ (45 : Int).toNat)) 255)) rfl) <| jA (jG (v := iv (Go.bits .and .i64 (Go.bits .xor .i64 ((IntKind.i64.wrap ((IntKind.i64.wrap (qs * 6364136223846793005)) + 1442695040888963407)) / 2 ^ (33 : Int).toNat) ((IntKind.i64.wrap ((IntKind.i64.wrap (qs * 6364136223846793005)) + 1442695040888963407)) / 2 ^ (45 : Int).toNat)) 255)) rfl) <| jD <| jB <| jL ?_
  refine jR (.inl rfl) rfl (jN (v := iv (Go.bits .and .i64 (Go.bits .xor .i64 ((IntKind.i64.wrap ((IntKind.i64.wrap (qs * 6364136223846793005)) + 1442695040888963407)) / 2 ^ (33 : Int).toNat) ((IntKind.i64.wrap ((IntKind.i64.wrap (qs * 6364136223846793005)) + 1442695040888963407)) / 2 ^ (45 : Int).toNat)) 255)) rfl) (List.Sublist.refl _) ?_
  have hbb := and_bnd (Go.bits .xor .i64 ((IntKind.i64.wrap ((IntKind.i64.wrap (qs * 6364136223846793005)) + 1442695040888963407)) / 2 ^ (33 : Int).toNat) ((IntKind.i64.wrap ((IntKind.i64.wrap (qs * 6364136223846793005)) + 1442695040888963407)) / 2 ^ (45 : Int).toNat)) 255 (by decide) (by decide)
  obtain ⟨r0, hr0⟩ : ∃ r0 : Nat, Go.bits .and .i64 (Go.bits .xor .i64 ((IntKind.i64.wrap ((IntKind.i64.wrap (qs * 6364136223846793005)) + 1442695040888963407)) / 2 ^ (33 : Int).toNat) ((IntKind.i64.wrap ((IntKind.i64.wrap (qs * 6364136223846793005)) + 1442695040888963407)) / 2 ^ (45 : Int).toNat)) 255 = ((r0 : Nat) : Int) := ⟨(Go.bits .and .i64 (Go.bits .xor .i64 ((IntKind.i64.wrap ((IntKind.i64.wrap (qs * 6364136223846793005)) + 1442695040888963407)) / 2 ^ (33 : Int).toNat) ((IntKind.i64.wrap ((IntKind.i64.wrap (qs * 6364136223846793005)) + 1442695040888963407)) / 2 ^ (45 : Int).toNat)) 255).toNat, by omega⟩
  rw [hr0] at hbb
  exact ⟨qp, (IntKind.i64.wrap ((IntKind.i64.wrap (qs * 6364136223846793005)) + 1442695040888963407)), r0, by omega, by omega, congrArg (Value.int .i64) hr0, rfl⟩

theorem D_below (qb : Nat) (qa : Option Addr) (qc : Nat) (ql : Str) (qp : Nat) (qs : Int) (hql : ql.length ≤ 1048576) (hqp : qp ≤ ql.length) (k : Int) (hk : -9223372036854775808 ≤ k ∧ k ≤ 9223372036854775807) :
    Ct Tryz.prog 33 [.pointer (some ⟨qb, 0, none⟩), .int .i64 k] [cb qb qa qc ql qp qs] (fun w => seesC w qa qc ql [cb qb qa qc ql qp qs]) (fun v A' => ∃ qp' qs' r0, qp' ≤ ql.length ∧ (((r0 : Nat) : Int) < k ∨ r0 = 0) ∧ v = .int .i64 ((r0 : Nat) : Int) ∧ A' = [cb qb qa qc ql qp' qs']) := by
  refine Ct.intro Tryz.func33 rfl Tryz.ntmps33 (lb rfl) fun w0 hpre => ?_
  have hs_qa : Sees w0 _ _ _ _ := hpre.1
  refine jC <| jE <| jA (jG (v := iv 0) rfl) <| jD <| jB <| jC <| jC <| jE <| jA (jF (v := iv k) rfl) <| jA (PO.leq rfl rfl) ?_
  refine jD <| jB ?_
  by_cases h_1 : k ≤ 0
  · refine jO (cB (dT h_1)) <| jC <| jE <| jA (jG (v := iv 0) rfl) <| jD <| jB <| jL <| jW <| jR (.inl rfl) rfl (jN (v := iv 0) rfl) (List.Sublist.refl _) ?_
    exact ⟨qp, qs, 0, (by omega), (.inr rfl), rfl, rfl⟩
  obtain ⟨kk, hkk⟩ : ∃ kk : Nat, k = ((kk : Nat) : Int) := ⟨k.toNat, by omega⟩
  refine jP (cB (dF h_1)) <| jU <| jB <| jC <| jC <| jE <| jA (jF (v := nv kk) (congrArg (Value.int .i64) hkk)) <| jA (PO.leq rfl rfl) <| jD <| jB ?_
  by_cases h_2 : ((kk : Nat) : Int) ≤ 256
  · refine jO (cB (dT h_2)) <| jC <| jE <| jA (jF (v := .pointer (some ⟨qb, 0, none⟩)) rfl) ?_
    refine jH rfl (jM [0] Tryz.call90 rfl (D_byte qb qa qc ql qp qs (by omega) (by omega)) rfl (fun w hw => ⟨hw.seeOut_ hs_qa (hpre.2), hw.apart hs_qa (hpre.2) (by simp)⟩)) ?_
    rintro _ _ ⟨_, ⟨qp_3, qs_4, n_6, fq_5, f_7, rfl, rfl⟩, rfl⟩
    refine jA (jF (v := nv kk) (congrArg (Value.int .i64) hkk)) <| jA (PO.remN (c := ((n_6 % kk : Nat) : Int)) rfl rfl (by omega) (by omega) (by omega)) <| jA (jG (v := iv ((n_6 % kk : Nat) : Int)) rfl) <| jD <| jB <| jL <| jW <| jR (.inl rfl) rfl (jN (v := iv ((n_6 % kk : Nat) : Int)) rfl) (List.Sublist.refl _) ?_
    exact ⟨qp_3, qs_4, (n_6 % kk), (by omega), (.inl (by have hm_ := Nat.mod_lt (n_6) (show 0 < kk by omega); omega)), rfl, rfl⟩
  refine jP (cB (dF h_2)) <| jU <| jB <| jC <| jE <| jA (jF (v := .pointer (some ⟨qb, 0, none⟩)) rfl) ?_
  refine jH rfl (jM [0] Tryz.call90 rfl (D_byte qb qa qc ql qp qs (by omega) (by omega)) rfl (fun w hw => ⟨hw.seeOut_ hs_qa (hpre.2), hw.apart hs_qa (hpre.2) (by simp)⟩)) ?_
  rintro _ _ ⟨_, ⟨qp_9, qs_10, n_12, fq_11, f_13, rfl, rfl⟩, rfl⟩
  refine jA (jG (v := nv n_12) rfl) <| jD <| jB <| jC <| jE <| jA (jF (v := .pointer (some ⟨qb, 0, none⟩)) rfl) ?_
  refine jH rfl (jM [0] Tryz.call90 rfl (D_byte qb qa qc ql qp_9 qs_10 (by omega) (by omega)) rfl (fun w hw => ⟨hw.seeOut_ hs_qa (hpre.2), hw.apart hs_qa (hpre.2) (by simp)⟩)) ?_
  rintro _ _ ⟨_, ⟨qp_15, qs_16, n_18, fq_17, f_19, rfl, rfl⟩, rfl⟩
  refine jA (jG (v := nv n_18) rfl) <| jD <| jB <| jC <| jE <| jA (jF (v := .pointer (some ⟨qb, 0, none⟩)) rfl) ?_
  refine jH rfl (jM [0] Tryz.call90 rfl (D_byte qb qa qc ql qp_15 qs_16 (by omega) (by omega)) rfl (fun w hw => ⟨hw.seeOut_ hs_qa (hpre.2), hw.apart hs_qa (hpre.2) (by simp)⟩)) ?_
  rintro _ _ ⟨_, ⟨qp_21, qs_22, n_24, fq_23, f_25, rfl, rfl⟩, rfl⟩
  refine jA (jG (v := nv n_24) rfl) <| jD <| jB <| jC <| jE <| jA (jF (v := .pointer (some ⟨qb, 0, none⟩)) rfl) ?_
  refine jH rfl (jM [0] Tryz.call90 rfl (D_byte qb qa qc ql qp_21 qs_22 (by omega) (by omega)) rfl (fun w hw => ⟨hw.seeOut_ hs_qa (hpre.2), hw.apart hs_qa (hpre.2) (by simp)⟩)) ?_
  rintro _ _ ⟨_, ⟨qp_27, qs_28, n_30, fq_29, f_31, rfl, rfl⟩, rfl⟩
  refine jA (jG (v := nv n_30) rfl) <| jD <| jB <| jC <| jE <| jA (jF (v := nv n_12) rfl) <| jA (PO.mul (c := ((n_12 * 16777216 : Nat) : Int)) rfl rfl (wr (by omega))) <| jA (jF (v := nv n_18) rfl) <| jA (PO.mul (c := ((n_18 * 65536 : Nat) : Int)) rfl rfl (wr (by omega))) <| jA (ji (c := (((n_12 * 16777216) + (n_18 * 65536) : Nat) : Int)) rfl rfl (wr (by omega))) ?_
  refine jA (jF (v := nv n_24) rfl) <| jA (PO.mul (c := ((n_24 * 256 : Nat) : Int)) rfl rfl (wr (by omega))) <| jA (ji (c := ((((n_12 * 16777216) + (n_18 * 65536)) + (n_24 * 256) : Nat) : Int)) rfl rfl (wr (by omega))) <| jA (jF (v := nv n_30) rfl) <| jA (ji (c := (((((n_12 * 16777216) + (n_18 * 65536)) + (n_24 * 256)) + n_30 : Nat) : Int)) rfl rfl (wr (by omega))) <| jA (jF (v := nv kk) (congrArg (Value.int .i64) hkk)) <| jA (PO.remN (c := ((((((n_12 * 16777216) + (n_18 * 65536)) + (n_24 * 256)) + n_30) % kk : Nat) : Int)) rfl rfl (by omega) (by omega) (by omega)) <| jA (jG (v := iv ((((((n_12 * 16777216) + (n_18 * 65536)) + (n_24 * 256)) + n_30) % kk : Nat) : Int)) rfl) <| jD <| jB ?_
  refine jL <| jR (.inl rfl) rfl (jN (v := iv ((((((n_12 * 16777216) + (n_18 * 65536)) + (n_24 * 256)) + n_30) % kk : Nat) : Int)) rfl) (List.Sublist.refl _) ?_
  exact ⟨qp_27, qs_28, (((((n_12 * 16777216) + (n_18 * 65536)) + (n_24 * 256)) + n_30) % kk), (by omega), (.inl (by have hm_ := Nat.mod_lt (((((n_12 * 16777216) + (n_18 * 65536)) + (n_24 * 256)) + n_30)) (show 0 < kk by omega); omega)), rfl, rfl⟩

theorem D_once (qb : Nat) (qa : Option Addr) (qc : Nat) (ql : Str) (qp : Nat) (qs : Int) (hql : ql.length ≤ 1048576) (hqp : qp ≤ ql.length) (k : Int) (hk : -9223372036854775808 ≤ k ∧ k ≤ 9223372036854775807) :
    Ct Tryz.prog 146 [.pointer (some ⟨qb, 0, none⟩), .int .i64 k] [cb qb qa qc ql qp qs] (fun w => seesC w qa qc ql [cb qb qa qc ql qp qs]) (fun v A' => ∃ qp' qs' r0, qp' ≤ ql.length ∧ v = .bool r0 ∧ A' = [cb qb qa qc ql qp' qs']) := by
  refine Ct.intro Tryz.func146 rfl Tryz.ntmps146 (lb rfl) fun w0 hpre => ?_
  have hs_qa : Sees w0 _ _ _ _ := hpre.1
  refine jC <| jE <| jA (jG (v := .bool false) rfl) <| jD <| jB <| jC <| jE <| jA (jF (v := .pointer (some ⟨qb, 0, none⟩)) rfl) <| jA (jF (v := iv k) rfl) ?_
  refine jH rfl (jM [0] Tryz.call33 rfl (D_below qb qa qc ql qp qs (by omega) (by omega) k (by omega)) rfl (fun w hw => ⟨hw.seeOut_ hs_qa (hpre.2), hw.apart hs_qa (hpre.2) (by simp)⟩)) ?_
  rintro _ _ ⟨_, ⟨qp_1, qs_2, n_4, fq_3, f_5, rfl, rfl⟩, rfl⟩
  refine jA (jw rfl rfl) <| jA (jG (v := .bool (decide (((n_4 : Nat) : Int) = 0))) rfl) <| jD <| jB <| jL <| jR (.inl rfl) rfl (jN (v := .bool (decide (((n_4 : Nat) : Int) = 0))) rfl) (List.Sublist.refl _) ?_
  exact ⟨qp_1, qs_2, (decide (((n_4 : Nat) : Int) = 0)), (by omega), rfl, rfl⟩

theorem D_pick (qb : Nat) (qa : Option Addr) (qc : Nat) (ql : Str) (qp : Nat) (qs : Int) (la : Option Addr) (lc : Nat) (l : List Str) (hql : ql.length ≤ 1048576) (hqp : qp ≤ ql.length)  (hl0 : 0 < l.length) (hl1 : l.length ≤ 1000) :
    Ct Tryz.prog 206 [.pointer (some ⟨qb, 0, none⟩), .slice la l.length lc] [cb qb qa qc ql qp qs, rS la lc l] (fun w => seesC w qa qc ql [cb qb qa qc ql qp qs, rS la lc l]) (fun v A' => ∃ qp' qs' r0, qp' ≤ ql.length ∧ (r0 ∈ l) ∧ v = str r0 ∧ A' = [cb qb qa qc ql qp' qs']) := by
  refine Ct.intro Tryz.func206 rfl Tryz.ntmps206 (lb rfl) fun w0 hpre => ?_
  have hs_qa : Sees w0 _ _ _ _ := hpre.1
  refine jC <| jE <| jA (jG (v := str []) rfl) <| jD <| jB <| jC <| jE <| jA (jF (v := .slice la l.length lc) rfl) <| jA (jF (v := .pointer (some ⟨qb, 0, none⟩)) rfl) <| jA (jF (v := .slice la l.length lc) rfl) ?_
  refine jA (jp ks rfl) ?_
  refine jH rfl (jM [0] Tryz.call33 rfl (D_below qb qa qc ql qp qs (by omega) (by omega) ((l.length : Nat) : Int) (by omega)) rfl (fun w hw => ⟨hw.seeOut_ hs_qa (hpre.2), hw.apart hs_qa (hpre.2) (by simp)⟩)) ?_
  rintro _ _ ⟨_, ⟨qp_1, qs_2, n_4, fq_3, f_5, rfl, rfl⟩, rfl⟩
  refine kc fun hst => ?_
  obtain ⟨hr_7, hr_7b, -⟩ := row_some 1 rfl (by omega) hst
  refine jA (jl (i := n_4) ks kw hr_7 hr_7b rfl rfl (by omega)) <| jK (kl 1 (v := str (l.getD n_4 [])) rfl rfl kv (atS (by omega))) <| jA (jG (v := str (l.getD n_4 [])) rfl) <| jD <| jB <| jL <| jR (.inl rfl) rfl (jN (v := str (l.getD n_4 [])) rfl) (tS 1 _) ?_
  exact ⟨qp_1, qs_2, (l.getD n_4 []), (by omega), (getD_mem (by omega)), rfl, rfl⟩

theorem D_pickInt (qb : Nat) (qa : Option Addr) (qc : Nat) (ql : Str) (qp : Nat) (qs : Int) (la : Option Addr) (lc : Nat) (l : List Int) (hql : ql.length ≤ 1048576) (hqp : qp ≤ ql.length)  (hl0 : 0 < l.length) (hl1 : l.length ≤ 1000) :
    Ct Tryz.prog 242 [.pointer (some ⟨qb, 0, none⟩), .slice la l.length lc] [cb qb qa qc ql qp qs, rI la lc l] (fun w => seesC w qa qc ql [cb qb qa qc ql qp qs, rI la lc l]) (fun v A' => ∃ qp' qs' r0, qp' ≤ ql.length ∧ (r0 ∈ l) ∧ v = .int .i64 r0 ∧ A' = [cb qb qa qc ql qp' qs']) := by
  refine Ct.intro Tryz.func242 rfl Tryz.ntmps242 (lb rfl) fun w0 hpre => ?_
  have hs_qa : Sees w0 _ _ _ _ := hpre.1
  refine jC <| jE <| jA (jG (v := iv 0) rfl) <| jD <| jB <| jC <| jE <| jA (jF (v := .slice la l.length lc) rfl) <| jA (jF (v := .pointer (some ⟨qb, 0, none⟩)) rfl) <| jA (jF (v := .slice la l.length lc) rfl) ?_
  refine jA (jp gB rfl) ?_
  refine jH rfl (jM [0] Tryz.call33 rfl (D_below qb qa qc ql qp qs (by omega) (by omega) ((l.length : Nat) : Int) (by omega)) rfl (fun w hw => ⟨hw.seeOut_ hs_qa (hpre.2), hw.apart hs_qa (hpre.2) (by simp)⟩)) ?_
  rintro _ _ ⟨_, ⟨qp_1, qs_2, n_4, fq_3, f_5, rfl, rfl⟩, rfl⟩
  refine kc fun hst => ?_
  obtain ⟨hr_7, hr_7b, -⟩ := row_some 1 rfl (by omega) hst
  refine jA (jl (i := n_4) gB kt hr_7 hr_7b rfl rfl (by omega)) <| jK (kl 1 (v := iv (l.getD n_4 0)) rfl rfl kp (atI (by omega))) <| jA (jG (v := iv (l.getD n_4 0)) rfl) <| jD <| jB <| jL <| jR (.inl rfl) rfl (jN (v := iv (l.getD n_4 0)) rfl) (tS 1 _) ?_
  exact ⟨qp_1, qs_2, (l.getD n_4 0), (by omega), (getD_mem (by omega)), rfl, rfl⟩

theorem D_new (pa : Option Addr) (pc : Nat) (p : Str) (hp : p.length ≤ 1048576)  :
    Ct Tryz.prog 34 [.slice pa p.length pc] [] (fun w => Sees w (.slice pa p.length pc) 1 p.length (p.map encB)) (fun v A' => ∃ r0 r0s, True ∧ v = .pointer (some ⟨r0, 0, none⟩) ∧ A' = [cb r0 pa pc p 0 r0s]) := by
  refine Ct.intro Tryz.func34 rfl Tryz.ntmps34 (lb rfl) fun w0 hpre => ?_
  have hs_pa : Sees w0 _ _ _ _ := hpre
  refine jC <| jE <| jA (jG (v := .pointer none) rfl) <| jD <| jB <| jC <| jE <| jA (jF (v := .slice pa p.length pc) rfl) <| jA (jp gM rfl) <| jA (ji (c := ((94701 + p.length : Nat) : Int)) rfl rfl (wr (by omega))) ?_
  refine jA (jG (v := iv ((94701 + p.length : Nat) : Int)) rfl) <| jD <| jB <| jC <| jC <| jE <| jA (jG (v := iv 0) rfl) <| jD <| jB <| jg ?_
  refine kC (fun k_ e_ L_ => ∃ i_ : Nat, ∃ s_ : Int, (i_ ≤ p.length) ∧ (0 ≤ s_ ∧ s_ ≤ 1073741823) ∧ e_ 0 = .slice pa p.length pc ∧ e_ 2 = .pointer none ∧ e_ 3 = iv s_ ∧ e_ 4 = nv i_ ∧ L_ = [] ∧ k_ = 1048577 - i_) _ ⟨0, ((94701 + p.length : Nat) : Int), (by omega), (by omega), rfl, rfl, rfl, rfl, rfl, rfl⟩ ?_
  rintro _ e_1 _ ⟨i_, s_, hi, hs, he_2, he_3, he_4, he_5, rfl, rfl⟩
  refine jC <| jC <| jE <| jA (jF (v := nv i_) he_5) <| jA (jF (v := .slice pa p.length pc) he_2) <| jA (jp gM rfl) <| jA (jo rfl rfl) <| jA (jF (v := .bool (decide (((i_ : Nat) : Int) < ((p.length : Nat) : Int)))) rfl) ?_
  by_cases h_6 : ((i_ : Nat) : Int) < ((p.length : Nat) : Int)
  · have hu8 := UInt8.toNat_lt (p.getD i_ 0)
    refine jZ rfl rfl rfl (cB (dT h_6)) (ja (jf (jF (v := nv i_) he_5))) ?_
    rintro _ _ ⟨rfl, rfl⟩
    refine jZ rfl rfl rfl (cB (dT h_6)) (ja (jf (jo rfl rfl))) ?_
    rintro _ _ ⟨rfl, rfl⟩
    refine jA (kG (v := .bool (decide (((i_ : Nat) : Int) < 4000))) (cB (dT h_6)) rfl) <| jD <| jB ?_
    by_cases h_7 : ((i_ : Nat) : Int) < 4000
    · refine jO (cB (dT h_7)) <| jU <| jB <| jC <| jg <| jE <| jA (jF (v := iv s_) he_4) <| jA (PO.mul (c := s_ * 131) rfl rfl (wr (by omega))) <| jA (jF (v := .slice pa p.length pc) he_2) <| jA (jF (v := nv i_) he_5) ?_
      obtain ⟨hr_8, hr_8b, -⟩ := sees_some hs_pa (by omega)
      refine jA (jl (i := i_) gM gi hr_8 hr_8b rfl rfl (by omega)) <| jK (kK (v := .int .u8 (((p.getD i_ 0).toNat : Nat) : Int)) hs_pa nM rfl Tryz.isAgg5 (atB (by omega))) <| jA (PO.convI (c := (((p.getD i_ 0).toNat : Nat) : Int)) gZ gg rfl (wr (by omega))) <| jA (ji (c := (s_ * 131) + (((p.getD i_ 0).toNat : Nat) : Int)) rfl rfl (wr (by omega))) <| jA (ji (c := ((s_ * 131) + (((p.getD i_ 0).toNat : Nat) : Int)) + 7) rfl rfl (wr (by omega))) <| jA (PO.bits (by simp) rfl rfl) <| jA (jG (v := iv (Go.bits .and .i64 (((s_ * 131) + (((p.getD i_ 0).toNat : Nat) : Int)) + 7) 1073741823)) rfl) <| jD <| jk <| jB ?_
      refine jE <| jA (jF (v := nv i_) he_5) <| jA (ji (c := ((i_ + 1 : Nat) : Int)) rfl rfl (wr (by omega))) <| jA (jG (v := iv ((i_ + 1 : Nat) : Int)) rfl) <| jD <| kH [] (A := []) rfl ?_
      refine ju (1048577 - (i_ + 1)) (by omega) ⟨(i_ + 1), (Go.bits .and .i64 (((s_ * 131) + (((p.getD i_ 0).toNat : Nat) : Int)) + 7) 1073741823), (by omega), (and_bnd _ _ (by decide) (by decide)), he_2, he_3, rfl, rfl, rfl, rfl⟩
    refine jP (cB (dF h_7)) <| jz <| jj <| jj <| kA <| jB <| jC <| jE <| jA (jF (v := .slice pa p.length pc) he_2) <| jA (jF (v := iv s_) he_4) ?_
    refine jA (kY (ps := [(0, .slice pa p.length pc), (2, iv s_)]) (cs := [.slice pa p.length pc, iv 0, iv s_]) rfl (by kernel_rfl)) ?_
    refine jH rfl (jy (cs := [.slice pa p.length pc, iv 0, iv s_]) rfl rfl) ?_
    rintro _ _ ⟨b_9, rfl, rfl⟩
    refine jA (jG (v := .pointer (some ⟨b_9, 0, none⟩)) rfl) <| jD <| jB <| jL <| jR (.inl rfl) rfl (jN (v := .pointer (some ⟨b_9, 0, none⟩)) rfl) (List.Sublist.refl _) ?_
    exact ⟨b_9, s_, trivial, rfl, rfl⟩
  refine jS (b := false) rfl rfl rfl (cB (dF h_6)) <| jS (b := false) rfl rfl rfl (cB (dF h_6)) <| jA (jv (v := .bool false) (cB (dF h_6)) rfl) <| jD <| jB <| jP (cB rfl) <| jz <| jj <| jj <| kA ?_
  refine jB <| jC <| jE <| jA (jF (v := .slice pa p.length pc) he_2) <| jA (jF (v := iv s_) he_4) <| jA (kY (ps := [(0, .slice pa p.length pc), (2, iv s_)]) (cs := [.slice pa p.length pc, iv 0, iv s_]) rfl (by kernel_rfl)) ?_
  refine jH rfl (jy (cs := [.slice pa p.length pc, iv 0, iv s_]) rfl rfl) ?_
  rintro _ _ ⟨b_10, rfl, rfl⟩
  refine jA (jG (v := .pointer (some ⟨b_10, 0, none⟩)) rfl) <| jD <| jB <| jL <| jR (.inl rfl) rfl (jN (v := .pointer (some ⟨b_10, 0, none⟩)) rfl) (List.Sublist.refl _) ?_
  exact ⟨b_10, s_, trivial, rfl, rfl⟩

theorem D_text (qb : Nat) (qa : Option Addr) (qc : Nat) (ql : Str) (qp : Nat) (qs : Int) (hql : ql.length ≤ 1048576) (hqp : qp ≤ ql.length) (k : Int) (hk : -9223372036854775808 ≤ k ∧ k ≤ 9223372036854775807) :
    Ct Tryz.prog 243 [.pointer (some ⟨qb, 0, none⟩), .int .i64 k] [cb qb qa qc ql qp qs] (fun w => seesC w qa qc ql [cb qb qa qc ql qp qs]) (fun v A' => ∃ qp' qs' r0, qp' ≤ ql.length ∧ (r0.length ≤ 5000 ∧ (((r0.length : Nat) : Int) ≤ k ∨ r0.length = 0)) ∧ v = str r0 ∧ A' = [cb qb qa qc ql qp' qs']) := by
  refine Ct.intro Tryz.func243 rfl Tryz.ntmps243 (lb rfl) fun w0 hpre => ?_
  have hs_qa : Sees w0 _ _ _ _ := hpre.1
  refine jC <| jE <| jA (jG (v := str []) rfl) <| jD <| jB <| jC <| jC <| jE <| jA (jF (v := iv k) rfl) <| jA (ke rfl rfl) ?_
  refine jD <| jB ?_
  by_cases h_1 : 5000 < k
  · refine jO (cB (dT h_1)) <| jE <| jA (jG (v := iv 5000) rfl) <| jD <| jB <| jC <| jE ?_
    refine jH rfl (kJ (ps := []) (cur := #[]) gM gi gp rfl (by kernel_rfl) (by decide) (by decide)) ?_
    rintro _ _ ⟨a_2, rfl, rfl⟩
    refine jA (jG (v := .slice a_2 0 0) rfl) <| jD <| jB <| jC <| jC <| jE <| jA (jG (v := iv 0) rfl) <| jD <| jB <| jg ?_
    refine kC (fun k_ e_ L_ => ∃ i_ : Nat, ∃ p_q : Nat, ∃ s_q : Int, ∃ o_a : Option Addr, ∃ o_c : Nat, ∃ o_n : Nat, ∃ o_ : Str, (p_q ≤ ql.length) ∧ (o_.length = o_n) ∧ (i_ ≤ 5000 ∧ (((i_ : Nat) : Int) ≤ k ∨ i_ = 0)) ∧ (o_.length = i_) ∧ e_ 0 = .pointer (some ⟨qb, 0, none⟩) ∧ e_ 1 = iv 5000 ∧ e_ 4 = str [] ∧ e_ 5 = .slice o_a o_n o_c ∧ e_ 6 = nv i_ ∧ L_ = [Res.row (.slice o_a o_n o_c) 5 1 o_n (o_.map encB), cb qb qa qc ql p_q s_q] ∧ k_ = 5001 - i_) _ ⟨0, qp, qs, a_2, 0, 0, ([] : List UInt8), (by omega), (by first | rfl | omega | (simp only [List.length_append, List.length_cons, List.length_nil, List.length_set]; omega) | simp), (by omega), (by rfl), rfl, rfl, rfl, rfl, rfl, rfl, rfl⟩ ?_
    rintro _ e_3 _ ⟨i_, p_q, s_q, o_a, o_c, o_n, o_, hpq_, ho_n, hi, ho, he_4, he_5, he_6, he_7, he_8, rfl, rfl⟩
    refine jC <| jC <| jE <| jA (jF (v := nv i_) he_8) <| jA (jF (v := iv 5000) he_5) <| jA (jo rfl rfl) <| jD <| jB ?_
    by_cases h_9 : ((i_ : Nat) : Int) < 5000
    · refine jO (cB (dT h_9)) <| jU <| jB <| jC <| jg <| jE <| jA (jF (v := .slice o_a o_n o_c) he_7) <| jA (jF (v := .pointer (some ⟨qb, 0, none⟩)) he_4) ?_
      refine jH rfl (jM [1] Tryz.call90 rfl (D_byte qb qa qc ql p_q s_q (by omega) (by omega)) rfl (fun w hw => ⟨hw.seeOut_ hs_qa (hpre.2), hw.apart hs_qa (hpre.2) (by simp)⟩)) ?_
      rintro _ _ ⟨_, ⟨qp_10, qs_11, n_13, fq_12, f_14, rfl, rfl⟩, rfl⟩
      refine jA (PO.convI (c := (((UInt8.ofNat n_13).toNat : Nat) : Int)) gg gZ rfl (wr8u (c := UInt8.ofNat n_13) (by omega) (by rw [Int.toNat_natCast]))) ?_
      refine jH rfl (kJ (ps := [(0, .int .u8 (((UInt8.ofNat n_13).toNat : Nat) : Int))]) (cur := #[.int .u8 (((UInt8.ofNat n_13).toNat : Nat) : Int)]) gM gi gp rfl (by kernel_rfl) (by decide) (by decide)) ?_
      rintro _ _ ⟨a_16, rfl, rfl⟩
      refine jH rfl (kM 2 (q := 1) (news := ([UInt8.ofNat n_13] : List UInt8).map encB) (n' := (o_ ++ ([UInt8.ofNat n_13] : List UInt8)).length) (cs' := (o_ ++ ([UInt8.ofNat n_13] : List UInt8)).map encB) rfl gM gM Tryz.typeInfo5 rfl (by' := 1) rfl rfl rfl rfl rfl (fun w hw => Src.sees (hw.see (i := 0) rfl) (oneB _)) (by (try simp only [LE]); omega) (by (try simp only [LE]); omega) (by simp only [List.length_append, List.length_take, List.length_drop, List.length_cons, List.length_nil] <;> first | rfl | omega) (by simp only [List.map_append])) ?_
      rintro _ _ ⟨a_17, c_18, rfl, rfl⟩
      refine jA (jG (v := .slice a_17 ((o_ ++ ([UInt8.ofNat n_13] : List UInt8)).length) c_18) rfl) <| jD <| jk <| jB <| jE <| jA (jF (v := nv i_) he_8) <| jA (ji (c := ((i_ + 1 : Nat) : Int)) rfl rfl (wr (by omega))) <| jA (jG (v := iv ((i_ + 1 : Nat) : Int)) rfl) <| jD <| kH [2, 1] (A := [Res.row (.slice a_17 ((o_ ++ ([UInt8.ofNat n_13] : List UInt8)).length) c_18) 5 1 ((o_ ++ ([UInt8.ofNat n_13] : List UInt8)).length) ((o_ ++ ([UInt8.ofNat n_13] : List UInt8)).map encB), cb qb qa qc ql qp_10 qs_11]) rfl ?_
      refine ju (5001 - (i_ + 1)) (by omega) ⟨(i_ + 1), qp_10, qs_11, a_17, c_18, ((o_ ++ ([UInt8.ofNat n_13] : List UInt8)).length), (o_ ++ ([UInt8.ofNat n_13] : List UInt8)), (by omega), (by first | rfl | omega | (simp only [List.length_append, List.length_cons, List.length_nil, List.length_set]; omega) | simp), (by omega), (by first | omega | (simp only [List.length_append, List.length_cons, List.length_nil, List.length_set]; omega)), he_4, he_5, he_6, rfl, rfl, rfl, rfl⟩
    refine jP (cB (dF h_9)) <| jz <| jj <| jj <| kA <| jB <| jC <| jE <| jA (jF (v := .slice o_a o_n o_c) he_7) <| jK (LO.toStr 0 o_ rfl gM gZ ky rfl rfl) ?_
    refine jA (jG (v := str o_) rfl) <| jD <| jB <| jL <| kR (pick_perm [1] (A := [cb qb qa qc ql p_q s_q]) (F := [Res.row (.slice o_a o_n o_c) 5 1 o_n (o_.map encB)]) rfl).symm <| jR (.inl rfl) rfl (jN (v := str o_) rfl) (tS 1 _) ?_
    exact ⟨p_q, s_q, o_, (by omega), (by first | omega | (simp only [LE]; omega)), rfl, rfl⟩
  refine jP (cB (dF h_1)) <| jU <| jB <| jC <| jE ?_
  refine jH rfl (kJ (ps := []) (cur := #[]) gM gi gp rfl (by kernel_rfl) (by decide) (by decide)) ?_
  rintro _ _ ⟨a_19, rfl, rfl⟩
  refine jA (jG (v := .slice a_19 0 0) rfl) <| jD <| jB <| jC <| jC <| jE <| jA (jG (v := iv 0) rfl) <| jD <| jB <| jg ?_
  refine kC (fun k_ e_ L_ => ∃ i_ : Nat, ∃ p_q : Nat, ∃ s_q : Int, ∃ o_a : Option Addr, ∃ o_c : Nat, ∃ o_n : Nat, ∃ o_ : Str, (p_q ≤ ql.length) ∧ (o_.length = o_n) ∧ (i_ ≤ 5000 ∧ (((i_ : Nat) : Int) ≤ k ∨ i_ = 0)) ∧ (o_.length = i_) ∧ e_ 0 = .pointer (some ⟨qb, 0, none⟩) ∧ e_ 1 = iv k ∧ e_ 4 = str [] ∧ e_ 5 = .slice o_a o_n o_c ∧ e_ 6 = nv i_ ∧ L_ = [Res.row (.slice o_a o_n o_c) 5 1 o_n (o_.map encB), cb qb qa qc ql p_q s_q] ∧ k_ = 5001 - i_) _ ⟨0, qp, qs, a_19, 0, 0, ([] : List UInt8), (by omega), (by first | rfl | omega | (simp only [List.length_append, List.length_cons, List.length_nil, List.length_set]; omega) | simp), (by omega), (by rfl), rfl, rfl, rfl, rfl, rfl, rfl, rfl⟩ ?_
  rintro _ e_20 _ ⟨i_, p_q, s_q, o_a, o_c, o_n, o_, hpq_, ho_n, hi, ho, he_21, he_22, he_23, he_24, he_25, rfl, rfl⟩
  refine jC <| jC <| jE <| jA (jF (v := nv i_) he_25) <| jA (jF (v := iv k) he_22) <| jA (jo rfl rfl) <| jD <| jB ?_
  by_cases h_26 : ((i_ : Nat) : Int) < k
  · refine jO (cB (dT h_26)) <| jU <| jB <| jC <| jg <| jE <| jA (jF (v := .slice o_a o_n o_c) he_24) <| jA (jF (v := .pointer (some ⟨qb, 0, none⟩)) he_21) ?_
    refine jH rfl (jM [1] Tryz.call90 rfl (D_byte qb qa qc ql p_q s_q (by omega) (by omega)) rfl (fun w hw => ⟨hw.seeOut_ hs_qa (hpre.2), hw.apart hs_qa (hpre.2) (by simp)⟩)) ?_
    rintro _ _ ⟨_, ⟨qp_27, qs_28, n_30, fq_29, f_31, rfl, rfl⟩, rfl⟩
    refine jA (PO.convI (c := (((UInt8.ofNat n_30).toNat : Nat) : Int)) gg gZ rfl (wr8u (c := UInt8.ofNat n_30) (by omega) (by rw [Int.toNat_natCast]))) ?_
    refine jH rfl (kJ (ps := [(0, .int .u8 (((UInt8.ofNat n_30).toNat : Nat) : Int))]) (cur := #[.int .u8 (((UInt8.ofNat n_30).toNat : Nat) : Int)]) gM gi gp rfl (by kernel_rfl) (by decide) (by decide)) ?_
    rintro _ _ ⟨a_33, rfl, rfl⟩
    refine jH rfl (kM 2 (q := 1) (news := ([UInt8.ofNat n_30] : List UInt8).map encB) (n' := (o_ ++ ([UInt8.ofNat n_30] : List UInt8)).length) (cs' := (o_ ++ ([UInt8.ofNat n_30] : List UInt8)).map encB) rfl gM gM Tryz.typeInfo5 rfl (by' := 1) rfl rfl rfl rfl rfl (fun w hw => Src.sees (hw.see (i := 0) rfl) (oneB _)) (by (try simp only [LE]); omega) (by (try simp only [LE]); omega) (by simp only [List.length_append, List.length_take, List.length_drop, List.length_cons, List.length_nil] <;> first | rfl | omega) (by simp only [List.map_append])) ?_
    rintro _ _ ⟨a_34, c_35, rfl, rfl⟩
    refine jA (jG (v := .slice a_34 ((o_ ++ ([UInt8.ofNat n_30] : List UInt8)).length) c_35) rfl) <| jD <| jk <| jB <| jE <| jA (jF (v := nv i_) he_25) <| jA (ji (c := ((i_ + 1 : Nat) : Int)) rfl rfl (wr (by omega))) <| jA (jG (v := iv ((i_ + 1 : Nat) : Int)) rfl) <| jD <| kH [2, 1] (A := [Res.row (.slice a_34 ((o_ ++ ([UInt8.ofNat n_30] : List UInt8)).length) c_35) 5 1 ((o_ ++ ([UInt8.ofNat n_30] : List UInt8)).length) ((o_ ++ ([UInt8.ofNat n_30] : List UInt8)).map encB), cb qb qa qc ql qp_27 qs_28]) rfl ?_
    refine ju (5001 - (i_ + 1)) (by omega) ⟨(i_ + 1), qp_27, qs_28, a_34, c_35, ((o_ ++ ([UInt8.ofNat n_30] : List UInt8)).length), (o_ ++ ([UInt8.ofNat n_30] : List UInt8)), (by omega), (by first | rfl | omega | (simp only [List.length_append, List.length_cons, List.length_nil, List.length_set]; omega) | simp), (by omega), (by first | omega | (simp only [List.length_append, List.length_cons, List.length_nil, List.length_set]; omega)), he_21, he_22, he_23, rfl, rfl, rfl, rfl⟩
  refine jP (cB (dF h_26)) <| jz <| jj <| jj <| kA <| jB <| jC <| jE <| jA (jF (v := .slice o_a o_n o_c) he_24) <| jK (LO.toStr 0 o_ rfl gM gZ ky rfl rfl) ?_
  refine jA (jG (v := str o_) rfl) <| jD <| jB <| jL <| kR (pick_perm [1] (A := [cb qb qa qc ql p_q s_q]) (F := [Res.row (.slice o_a o_n o_c) 5 1 o_n (o_.map encB)]) rfl).symm <| jR (.inl rfl) rfl (jN (v := str o_) rfl) (tS 1 _) ?_
  exact ⟨p_q, s_q, o_, (by omega), (by first | omega | (simp only [LE]; omega)), rfl, rfl⟩

theorem D_key (qb : Nat) (qa : Option Addr) (qc : Nat) (ql : Str) (qp : Nat) (qs : Int) (hql : ql.length ≤ 1048576) (hqp : qp ≤ ql.length)  :
    Ct Tryz.prog 247 [.pointer (some ⟨qb, 0, none⟩)] [cb qb qa qc ql qp qs] (fun w => seesC w qa qc ql [cb qb qa qc ql qp qs]) (fun v A' => ∃ qp' qs' r0, qp' ≤ ql.length ∧ (r0.length ≤ 64) ∧ v = str r0 ∧ A' = [cb qb qa qc ql qp' qs']) := by
  refine Ct.intro Tryz.func247 rfl Tryz.ntmps247 (lb rfl) fun w0 hpre => ?_
  have hs_qa : Sees w0 _ _ _ _ := hpre.1
  refine jC <| jE <| jA (jG (v := str []) rfl) <| jD <| jB <| jC <| jE <| jA (jF (v := .pointer (some ⟨qb, 0, none⟩)) rfl) ?_
  refine jH rfl (kJ (ps := [(0, str [97]), (1, str [98]), (2, str [110, 47, 120]), (3, str [110, 47, 121]), (4, str [110, 47, 121, 121]), (5, str [105, 47, 49, 47, 115]), (6, str [105, 47, 49, 47, 98, 47, 48]), (7, str [105, 47, 49, 50, 47, 115]), (8, str [99, 47, 112, 105, 112, 101]), (9, str [112, 47, 49, 47, 104])]) (cur := #[str [97], str [98], str [110, 47, 120], str [110, 47, 121], str [110, 47, 121, 121], str [105, 47, 49, 47, 115], str [105, 47, 49, 47, 98, 47, 48], str [105, 47, 49, 50, 47, 115], str [99, 47, 112, 105, 112, 101], str [112, 47, 49, 47, 104]]) ks kw gQ rfl (by kernel_rfl) (by decide) (by decide)) ?_
  rintro _ _ ⟨a_1, rfl, rfl⟩
  refine jH rfl (jM [1, 0] Tryz.call206 rfl (D_pick qb qa qc ql qp qs a_1 10 ([[97], [98], [110, 47, 120], [110, 47, 121], [110, 47, 121, 121], [105, 47, 49, 47, 115], [105, 47, 49, 47, 98, 47, 48], [105, 47, 49, 50, 47, 115], [99, 47, 112, 105, 112, 101], [112, 47, 49, 47, 104]] : List Str) (by omega) (by omega) (by simp) (by simp)) rfl (fun w hw => ⟨hw.seeOut_ hs_qa (hpre.2), hw.apart hs_qa (hpre.2) (by simp)⟩)) ?_
  rintro _ _ ⟨_, ⟨qp_2, qs_3, u_5, fq_4, f_6, rfl, rfl⟩, rfl⟩
  have hlu_5 : u_5.length ≤ 64 := by have hx_ := f_6; simp only [List.mem_cons, List.not_mem_nil, or_false] at hx_; rcases hx_ with hx_ | hx_ | hx_ | hx_ | hx_ | hx_ | hx_ | hx_ | hx_ | hx_ <;> first | (rw [hx_]; decide) | (rw [hx_]; omega)
  refine jA (jG (v := str u_5) rfl) <| jD <| jB <| jL <| jR (.inl rfl) rfl (jN (v := str u_5) rfl) (List.Sublist.refl _) ?_
  exact ⟨qp_2, qs_3, u_5, (by omega), (by first | omega | (simp only [LE]; omega)), rfl, rfl⟩

end Go.Proofs.YtghfijncihbojaaGreat

set_option linter.unusedSimpArgs false
set_option linter.unusedVariables false
set_option linter.unnecessarySimpa false
namespace Go.Proofs.YtghfijncihbojaaGreat
open Go Go.RowKit

def MS.empty : MS := ⟨[], [], []⟩
end Go.Proofs.YtghfijncihbojaaGreat

set_option linter.unusedSimpArgs false
set_option linter.unusedVariables false
set_option linter.unnecessarySimpa false
namespace Go.Proofs.YtghfijncihbojaaGreat
open Go Go.RowKit
theorem Ct.toMach {P : Program} {f : FuncId} {args : List Value} {A : List Res} {Pre : World → Prop} {s : List Cell} {n : Nat} (h : Ct P f args A Pre (fun v A' => ∃ a c, v = .agg #[.slice a s.length c, .slice none 0 0, .slice none 0 0] ∧ A' = [rC a c s])) (hO : okC' n 64 s) :
    Ct P f args A Pre (fun v A' => ∃ r0x r0, (fun s => (⟨s, [], []⟩ : MS)) s = r0 ∧ r0.ok n 0 ∧ v = mv r0x r0 ∧ A' = mr r0x r0) := fun w hA hp => by
  refine (h w hA hp).mono fun e w' h => ?_
  obtain ⟨v, A', rfl, ⟨a, c, rfl, rfl⟩, hst⟩ := h
  refine ⟨_, mr ⟨a, c, none, 0, none, 0⟩ ⟨s, [], []⟩, rfl, ⟨⟨a, c, none, 0, none, 0⟩, _, rfl, ⟨hO.1, Nat.le_refl _, Nat.le_refl _, fun c hc => ⟨Nat.le_trans (hO.2 c hc).1 (by decide), Nat.le_trans (hO.2 c hc).2 (by decide)⟩⟩, rfl, rfl⟩, ?_⟩
  exact ((hst.nilRow 9 1).nilRow 9 1).perm (List.perm_append_comm (l₁ := [rS none 0 [], rS none 0 []]) (l₂ := [rC a c s])).symm
attribute [local irreducible] JL JC JQ JO LO PO JA JX Ct

theorem D_machOf0 (sa : Option Addr) (sc : Nat) (s : List Cell) (hs : s.length ≤ 1000000000) :
    Ct Tryz.prog 54 [.slice sa s.length sc] [] (fun w => Sees w (.slice sa s.length sc) 2 s.length (s.flatMap encC)) (fun v A' => ∃ a c, v = .agg #[.slice a s.length c, .slice none 0 0, .slice none 0 0] ∧ A' = [rC a c s]) := by
  refine Ct.intro Tryz.func54 rfl Tryz.ntmps54 (lb rfl) fun w0 hpre => ?_
  have hs_sa : Sees w0 _ _ _ _ := hpre
  refine jC <| jE ?_
  refine jH rfl (jn (z := zM) (cs := zC) gI rfl) ?_
  rintro _ _ ⟨b_1, rfl, rfl⟩
  refine jD <| jB <| jC <| jE ?_
  refine jH rfl (kJ (ps := []) (cur := #[]) gC gJ gn rfl (by kernel_rfl) (by decide) (by decide)) ?_
  rintro _ _ ⟨a_2, rfl, rfl⟩
  refine jA (jF (v := .slice sa s.length sc) rfl) ?_
  refine jH rfl (kM 0 (q := s.length) (news := s.flatMap encC) (n' := s.length) (cs' := s.flatMap encC) rfl gC gC gq rfl (by' := 32) rfl rfl rfl rfl rfl (fun w hw => Src.sees (hw.seeOut_ hs_sa nM) (oneC _)) (by (try simp only [LE]); omega) (by (try simp only [LE]); omega) (by (try simp only [List.length_take, List.length_drop]); first | rfl | omega) rfl) ?_
  rintro _ _ ⟨a_3, c_4, rfl, rfl⟩
  refine jA (kY (ps := [(0, .slice a_3 s.length c_4)]) (cs := [.slice a_3 s.length c_4, .slice none 0 0, .slice none 0 0]) rfl (by kernel_rfl)) ?_
  refine jH rfl (jT 1 (vs := [.slice a_3 s.length c_4, .slice none 0 0, .slice none 0 0]) (cs' := [.slice a_3 s.length c_4, .slice none 0 0, .slice none 0 0]) rfl rfl rfl rfl gk rfl rfl (lb rfl) rfl) ?_
  rintro _ _ rfl
  refine jD <| jB <| jL <| jR (.inl rfl) rfl (je (jX 1 (vs := [.slice a_3 s.length c_4, .slice none 0 0, .slice none 0 0]) rfl rfl gy gk rfl rfl) ⟨_, rfl⟩) (tS 1 _) ?_
  exact ⟨a_3, c_4, rfl, rfl⟩

theorem D_machOf (sa : Option Addr) (sc : Nat) (s : List Cell) (hs : s.length ≤ 1000000000) (n : Nat) (hO : okC' n 64 s) :
    Ct Tryz.prog 54 [.slice sa s.length sc] [] (fun w => Sees w (.slice sa s.length sc) 2 s.length (s.flatMap encC)) (fun v A' => ∃ r0x r0, (fun s => (⟨s, [], []⟩ : MS)) s = r0 ∧ r0.ok n 0 ∧ v = mv r0x r0 ∧ A' = mr r0x r0) := (D_machOf0 sa sc s hs).toMach hO

end Go.Proofs.YtghfijncihbojaaGreat

set_option linter.unusedSimpArgs false
set_option linter.unusedVariables false
set_option linter.unnecessarySimpa false
namespace Go.Proofs.YtghfijncihbojaaGreat
open Go Go.RowKit
attribute [local irreducible] JL JC JQ JO LO PO JA JX Ct

theorem M_fileOf (x : MA) (m : MS) {S T : Nat} (hk : m.ok S T) (hS : S ≤ 600000000) (hT : T ≤ 600000000) (name : Str) (hname : name.length ≤ 100000000) :
    Ct Tryz.prog 208 [mv x m, str name] (mr x m) (fun _ => True) (fun v A' => ∃ x' m' r0, MS.fileOf m name = (m', r0) ∧ m'.ok (S) (T + 1) ∧ (0 ≤ r0 ∧ r0 ≤ 999) ∧ v = .tuple #[mv x' m', .int .i64 r0] ∧ A' = mr x' m') := by
  refine Ct.intro Tryz.func208 rfl Tryz.ntmps208 (lb rfl) fun w0 hpre => ?_
  refine jC <| jE ?_
  refine jH rfl (jy (cs := (mc x m)) rfl rfl) ?_
  rintro _ _ ⟨b_1, rfl, rfl⟩
  refine jH rfl (jn (z := zM) (cs := zC) gI rfl) ?_
  rintro _ _ ⟨b_2, rfl, rfl⟩
  refine jA (jG (v := iv 0) rfl) <| jD <| jB <| jC <| jC <| jE <| jA (jF (v := str name) rfl) ?_
  refine jH rfl (jM [] Tryz.call207 rfl (N_sNameOk name (by omega)) rfl (fun _ _ => trivial)) ?_
  rintro _ _ ⟨_, ⟨b_5, e_3, rfl, rfl⟩, rfl⟩
  refine jA (kP rfl) <| jD <| jB ?_
  rcases Bool.eq_false_or_eq_true (b_5) with h_6 | h_6
  · refine jP (cB (cN h_6)) <| jU <| jB <| jC <| jE <| jK (jc 1 x m rfl rfl) <| jA (jF (v := str name) rfl) <| jA (ki rfl rfl (by (try simp only [List.length_append, List.length_cons, List.length_nil, List.length_drop, List.length_take]); omega)) ?_
    refine jH rfl (jM [2, 2, 2] Tryz.call98 rfl (N_sNumAt x m hk (by omega) (by omega) ([110, 47] ++ name)) rfl (fun _ _ => trivial)) ?_
    rintro _ _ ⟨_, ⟨x_9, m_10, n_11, e_7, k_8, f_12, rfl, rfl⟩, rfl⟩
    refine jA (jb (v := mv x_9 m_10) rfl rfl) <| jA (jb (v := iv n_11) rfl rfl) ?_
    refine jH rfl (jm 3 x_9 m_10 rfl rfl rfl rfl) ?_
    rintro _ _ rfl
    refine jA (jG (v := iv n_11) rfl) <| jD <| jB <| jL <| kB (.inl rfl) rfl (je (jc 3 x_9 m_10 rfl rfl) ⟨_, rfl⟩) (jN (v := iv n_11) rfl) (tS 3 _) ?_
    exact ⟨x_9, m_10, n_11, (by simp only [MS.fileOf, e_3, h_6, e_7, SB]; (repeat (first | rw [if_pos (by omega)] | rw [if_neg (by omega)])); all_goals (first | rfl | simp only [SB, e_3, h_6, e_7])), (k_8.mono (by omega) (by omega)), (by first | omega | (simp only [LE]; omega)), rfl, rfl⟩
  refine jO (cB (cN h_6)) <| jC <| jE <| jK (jc 1 x m rfl rfl) ?_
  refine jH rfl (jm 0 x m rfl rfl rfl rfl) ?_
  rintro _ _ rfl
  refine jA (jG (v := iv 0) rfl) <| jD <| jB <| jL <| jW <| kR (pick_perm [2, 2, 2] (A := [rC x.a0 x.c0 m.s, rS x.a1 x.c1 m.r, rS x.a2 x.c2 m.w]) (F := [mb b_2 x m, mb b_1 x m]) rfl).symm <| kB (.inl rfl) rfl (je (jc 3 x m rfl rfl) ⟨_, rfl⟩) (jN (v := iv 0) rfl) (tS 3 _) ?_
  exact ⟨x, m, 0, (by simp only [MS.fileOf, e_3, h_6, SB]; (repeat (first | rw [if_pos (by omega)] | rw [if_neg (by omega)])); all_goals (first | rfl | simp only [SB, e_3, h_6])), (hk.mono (by omega) (by omega)), (by first | omega | (simp only [LE]; omega)), rfl, rfl⟩

theorem M_makeName (x : MA) (m : MS) {S T : Nat} (hk : m.ok S T) (hS : S ≤ 250000000) (hT : T ≤ 250000000) (name : Str) (hname : name.length ≤ 100000000) :
    Ct Tryz.prog 151 [mv x m, str name] (mr x m) (fun _ => True) (fun v A' => ∃ x' m' r0 r1, MS.makeName m name = (m', r0, r1) ∧ m'.ok (S + 3) (T + 5) ∧ (0 ≤ r0 ∧ r0 ≤ 999) ∧ (0 ≤ r1 ∧ r1 ≤ 9) ∧ v = .tuple #[mv x' m', .int .i64 r0, .int .i64 r1] ∧ A' = mr x' m') := by
  refine Ct.intro Tryz.func151 rfl Tryz.ntmps151 (lb rfl) fun w0 hpre => ?_
  refine jC <| jE ?_
  refine jH rfl (jy (cs := (mc x m)) rfl rfl) ?_
  rintro _ _ ⟨b_1, rfl, rfl⟩
  refine jH rfl (jn (z := zM) (cs := zC) gI rfl) ?_
  rintro _ _ ⟨b_2, rfl, rfl⟩
  refine jA (jG (v := iv 0) rfl) <| jA (jG (v := iv 0) rfl) <| jD <| jB <| jC <| jC <| jE <| jA (jF (v := str name) rfl) ?_
  refine jH rfl (jM [] Tryz.call207 rfl (N_sNameOk name (by omega)) rfl (fun _ _ => trivial)) ?_
  rintro _ _ ⟨_, ⟨b_5, e_3, rfl, rfl⟩, rfl⟩
  refine jA (kP rfl) <| jD <| jB ?_
  rcases Bool.eq_false_or_eq_true (b_5) with h_6 | h_6
  · refine jP (cB (cN h_6)) <| jU <| jB <| jC <| jE <| jK (jc 1 x m rfl rfl) <| jA (jF (v := str name) rfl) ?_
    refine jH rfl (jM [2, 2, 2] Tryz.call208 rfl (M_fileOf x m hk (by omega) (by omega) name (by omega)) rfl (fun _ _ => trivial)) ?_
    rintro _ _ ⟨_, ⟨x_9, m_10, n_11, e_7, k_8, f_12, rfl, rfl⟩, rfl⟩
    refine jA (jF (v := .tuple #[mv x_9 m_10, iv n_11]) rfl) <| jA (jb (v := mv x_9 m_10) rfl rfl) <| jA (jb (v := iv n_11) rfl rfl) ?_
    refine jH rfl (jm 4 x_9 m_10 rfl rfl rfl rfl) ?_
    rintro _ _ rfl
    refine jA (jG (v := iv n_11) rfl) <| jD <| jB <| jC <| jC <| jE <| jA (jF (v := iv n_11) rfl) <| jA (kN rfl rfl) <| jD <| jB ?_
    by_cases h_13 : n_11 = 0
    · refine jP (cB (cN (dT h_13))) <| jU <| jB <| jC <| jE <| jK (jc 4 x_9 m_10 rfl rfl) ?_
      refine jH rfl (jM [0, 0, 0] Tryz.call98 rfl (N_sNumAt x_9 m_10 k_8 (by omega) (by omega) [99, 47, 102, 105, 108, 101]) rfl (fun _ _ => trivial)) ?_
      rintro _ _ ⟨_, ⟨x_16, m_17, n_18, e_14, k_15, f_19, rfl, rfl⟩, rfl⟩
      refine jA (jF (v := .tuple #[mv x_16 m_17, iv n_18]) rfl) <| jA (jb (v := mv x_16 m_17) rfl rfl) <| jA (jb (v := iv n_18) rfl rfl) ?_
      refine jH rfl (jm 4 x_16 m_17 rfl rfl rfl rfl) ?_
      rintro _ _ rfl
      refine jA (jG (v := iv n_18) rfl) <| jD <| jB <| jC <| jC <| jE <| jA (jF (v := iv n_18) rfl) <| jA (kh rfl rfl) <| jD <| jB ?_
      by_cases h_20 : 20 ≤ n_18
      · refine jO (cB (dT h_20)) <| jC <| jE <| jK (jc 4 x_16 m_17 rfl rfl) ?_
        refine jH rfl (jm 3 x_16 m_17 rfl rfl rfl rfl) ?_
        rintro _ _ rfl
        refine jA (jG (v := iv 0) rfl) <| jA (jG (v := iv 3) rfl) <| jD <| jB <| jL <| jW <| ka (.inl rfl) rfl (je (jc 3 x_16 m_17 rfl rfl) ⟨_, rfl⟩) (jN (v := iv 0) rfl) (jN (v := iv 3) rfl) (tS 3 _) ?_
        exact ⟨x_16, m_17, 0, 3, (by simp only [MS.makeName, e_3, h_6, e_7, h_13, e_14, h_20, SB]; (repeat (first | rw [if_pos (by omega)] | rw [if_neg (by omega)])); all_goals (first | rfl | simp only [SB, e_3, h_6, e_7, h_13, e_14, h_20])), (k_15.mono (by omega) (by omega)), (by first | omega | (simp only [LE]; omega)), (by first | omega | (simp only [LE]; omega)), rfl, rfl⟩
      refine jP (cB (dF h_20)) <| jU <| jB <| jC <| jE <| jK (jc 4 x_16 m_17 rfl rfl) ?_
      refine jH rfl (jM [0, 0, 0] Tryz.call99 rfl (N_sBump x_16 m_17 k_15 (by omega) (by omega) [99, 47, 102, 105, 108, 101] (by decide)) rfl (fun _ _ => trivial)) ?_
      rintro _ _ ⟨_, ⟨x_23, m_24, n_25, e_21, k_22, f_26, rfl, rfl⟩, rfl⟩
      refine jA (jF (v := .tuple #[mv x_23 m_24, iv n_25]) rfl) <| jA (jb (v := mv x_23 m_24) rfl rfl) <| jA (jb (v := iv n_25) rfl rfl) ?_
      refine jH rfl (jm 4 x_23 m_24 rfl rfl rfl rfl) ?_
      rintro _ _ rfl
      refine jA (jG (v := iv n_25) rfl) <| jD <| jB <| jC <| jE <| jK (jc 4 x_23 m_24 rfl rfl) <| jA (jF (v := str name) rfl) <| jA (ki rfl rfl (by (try simp only [List.length_append, List.length_cons, List.length_nil, List.length_drop, List.length_take]); omega)) <| jA (jF (v := iv n_25) rfl) ?_
      refine jH rfl (jM [0, 0, 0] Tryz.call100 rfl (N_sSetNum x_23 m_24 k_22 (by omega) (by omega) ([110, 47] ++ name) n_25 (by first | omega | (simp only [LE]; omega)) (by omega)) rfl (fun _ _ => trivial)) ?_
      rintro _ _ ⟨_, ⟨x_29, m_30, e_27, k_28, rfl, rfl⟩, rfl⟩
      refine jH rfl (jm 4 x_29 m_30 rfl rfl rfl rfl) ?_
      rintro _ _ rfl
      refine jD <| jB <| jC <| jr [mb b_1 x_29 m_30] 5 mixed (by simp) <| jh 0 rfl (jc 0 x_29 m_30 rfl rfl) <| jI 1 rfl (jF (v := iv n_25) rfl) <| jI 4 rfl (jF (v := iv n_25) rfl) <| jQ (i := 2) ?_
      refine jY rfl rfl (jM [] Tryz.call173 rfl (N_sKeyNum [105, 47] n_25 [47, 108] (show List.length ([105, 47] : Str) ≤ 2 by decide) (by omega) (show List.length ([47, 108] : Str) ≤ 2 by decide) (by omega)) rfl (fun _ _ => trivial)) ?_
      rintro _ _ ⟨_, ⟨u_41, e_39, f_42, rfl, rfl⟩, rfl⟩
      refine ⟨(by simp), ?_⟩
      refine jQ (i := 3) ?_
      refine jY rfl rfl (jM [0, 0, 0] Tryz.call100 rfl (N_sSetNum x_29 m_30 k_28 (by omega) (by omega) u_41 1 (by omega) (by omega)) rfl (fun _ _ => trivial)) ?_
      rintro _ _ ⟨_, ⟨x_49, m_50, e_47, k_48, rfl, rfl⟩, rfl⟩
      refine ⟨(by simp), ?_⟩
      refine jQ (i := 5) ?_
      refine kF rfl (jm 3 x_49 m_50 rfl rfl rfl rfl) ?_
      rintro _ _ rfl
      refine jI 6 rfl (jG (v := iv n_25) rfl) <| jI 7 rfl (jG (v := iv 0) rfl) <| kI (by kernel_rfl) <| jB <| jL <| ka (.inl rfl) rfl (je (jc 3 x_49 m_50 rfl rfl) ⟨_, rfl⟩) (jN (v := iv n_25) rfl) (jN (v := iv 0) rfl) (tS 3 _) ?_
      exact ⟨x_49, m_50, n_25, 0, (by simp only [MS.makeName, e_3, h_6, e_7, h_13, e_14, h_20, e_21, e_27, e_39, e_47, SB]; (repeat (first | rw [if_pos (by omega)] | rw [if_neg (by omega)])); all_goals (first | rfl | simp only [SB, e_3, h_6, e_7, h_13, e_14, h_20, e_21, e_27, e_39, e_47])), (k_48.mono (by omega) (by omega)), (by first | omega | (simp only [LE]; omega)), (by first | omega | (simp only [LE]; omega)), rfl, rfl⟩
    refine jO (cB (cN (dF h_13))) <| jC <| jE <| jK (jc 4 x_9 m_10 rfl rfl) ?_
    refine jH rfl (jm 3 x_9 m_10 rfl rfl rfl rfl) ?_
    rintro _ _ rfl
    refine jA (jG (v := iv 0) rfl) <| jA (jG (v := iv 1) rfl) <| jD <| jB <| jL <| jW <| ka (.inl rfl) rfl (je (jc 3 x_9 m_10 rfl rfl) ⟨_, rfl⟩) (jN (v := iv 0) rfl) (jN (v := iv 1) rfl) (tS 3 _) ?_
    exact ⟨x_9, m_10, 0, 1, (by simp only [MS.makeName, e_3, h_6, e_7, h_13, SB]; (repeat (first | rw [if_pos (by omega)] | rw [if_neg (by omega)])); all_goals (first | rfl | simp only [SB, e_3, h_6, e_7, h_13])), (k_8.mono (by omega) (by omega)), (by first | omega | (simp only [LE]; omega)), (by first | omega | (simp only [LE]; omega)), rfl, rfl⟩
  refine jO (cB (cN h_6)) <| jC <| jE <| jK (jc 1 x m rfl rfl) ?_
  refine jH rfl (jm 0 x m rfl rfl rfl rfl) ?_
  rintro _ _ rfl
  refine jA (jG (v := iv 0) rfl) <| jA (jG (v := iv 4) rfl) <| jD <| jB <| jL <| jW <| kR (pick_perm [2, 2, 2] (A := [rC x.a0 x.c0 m.s, rS x.a1 x.c1 m.r, rS x.a2 x.c2 m.w]) (F := [mb b_2 x m, mb b_1 x m]) rfl).symm <| ka (.inl rfl) rfl (je (jc 3 x m rfl rfl) ⟨_, rfl⟩) (jN (v := iv 0) rfl) (jN (v := iv 4) rfl) (tS 3 _) ?_
  exact ⟨x, m, 0, 4, (by simp only [MS.makeName, e_3, h_6, SB]; (repeat (first | rw [if_pos (by omega)] | rw [if_neg (by omega)])); all_goals (first | rfl | simp only [SB, e_3, h_6])), (hk.mono (by omega) (by omega)), (by first | omega | (simp only [LE]; omega)), (by first | omega | (simp only [LE]; omega)), rfl, rfl⟩

theorem M_linkName (x : MA) (m : MS) {S T : Nat} (hk : m.ok S T) (hS : S ≤ 250000000) (hT : T ≤ 250000000) (from_ : Str) (to_ : Str) (hfrom_ : from_.length ≤ 100000000) (hto_ : to_.length ≤ 100000000) :
    Ct Tryz.prog 152 [mv x m, str from_, str to_] (mr x m) (fun _ => True) (fun v A' => ∃ x' m' r0, MS.linkName m from_ to_ = (m', r0) ∧ m'.ok (S + 2) (T + 5) ∧ (0 ≤ r0 ∧ r0 ≤ 9) ∧ v = .tuple #[mv x' m', .int .i64 r0] ∧ A' = mr x' m') := by
  refine Ct.intro Tryz.func152 rfl Tryz.ntmps152 (lb rfl) fun w0 hpre => ?_
  refine jC <| jE ?_
  refine jH rfl (jy (cs := (mc x m)) rfl rfl) ?_
  rintro _ _ ⟨b_1, rfl, rfl⟩
  refine jH rfl (jn (z := zM) (cs := zC) gI rfl) ?_
  rintro _ _ ⟨b_2, rfl, rfl⟩
  refine jA (jG (v := iv 0) rfl) <| jD <| jB <| jC <| jC <| jE <| jA (jF (v := str from_) rfl) ?_
  refine jH rfl (jM [] Tryz.call207 rfl (N_sNameOk from_ (by omega)) rfl (fun _ _ => trivial)) ?_
  rintro _ _ ⟨_, ⟨b_5, e_3, rfl, rfl⟩, rfl⟩
  refine jA (kP rfl) <| jA (jF (v := .bool (!b_5)) rfl) ?_
  rcases Bool.eq_false_or_eq_true (b_5) with h_6 | h_6
  · refine jZ rfl rfl rfl (cB (cN h_6)) (ja (jf (jF (v := str to_) rfl))) ?_
    rintro _ _ ⟨rfl, rfl⟩
    refine jZ rfl rfl rfl (cB (cN h_6)) (jM [] Tryz.call207 rfl (N_sNameOk to_ (by omega)) rfl (fun _ _ => trivial)) ?_
    rintro _ _ ⟨_, ⟨b_9, e_7, rfl, rfl⟩, rfl⟩
    refine jZ rfl rfl rfl (cB (cN h_6)) (ja (jf (kP rfl))) ?_
    rintro _ _ ⟨rfl, rfl⟩
    refine jA (jv (v := .bool (!b_9)) (cB (cN h_6)) rfl) <| jD <| jB ?_
    rcases Bool.eq_false_or_eq_true (b_9) with h_10 | h_10
    · refine jP (cB (cN h_10)) <| jU <| jB <| jC <| jE <| jK (jc 1 x m rfl rfl) <| jA (jF (v := str from_) rfl) ?_
      refine jH rfl (jM [2, 2, 2] Tryz.call208 rfl (M_fileOf x m hk (by omega) (by omega) from_ (by omega)) rfl (fun _ _ => trivial)) ?_
      rintro _ _ ⟨_, ⟨x_13, m_14, n_15, e_11, k_12, f_16, rfl, rfl⟩, rfl⟩
      refine jA (jF (v := .tuple #[mv x_13 m_14, iv n_15]) rfl) <| jA (jb (v := mv x_13 m_14) rfl rfl) <| jA (jb (v := iv n_15) rfl rfl) ?_
      refine jH rfl (jm 4 x_13 m_14 rfl rfl rfl rfl) ?_
      rintro _ _ rfl
      refine jA (jG (v := iv n_15) rfl) <| jD <| jB <| jC <| jC <| jE <| jA (jF (v := iv n_15) rfl) <| jA (jw rfl rfl) <| jD <| jB ?_
      by_cases h_17 : n_15 = 0
      · refine jO (cB (dT h_17)) <| jC <| jE <| jK (jc 4 x_13 m_14 rfl rfl) ?_
        refine jH rfl (jm 3 x_13 m_14 rfl rfl rfl rfl) ?_
        rintro _ _ rfl
        refine jA (jG (v := iv 2) rfl) <| jD <| jB <| jL <| jW <| kB (.inl rfl) rfl (je (jc 3 x_13 m_14 rfl rfl) ⟨_, rfl⟩) (jN (v := iv 2) rfl) (tS 3 _) ?_
        exact ⟨x_13, m_14, 2, (by simp only [MS.linkName, e_3, h_6, e_7, h_10, e_11, h_17, SB]; (repeat (first | rw [if_pos (by omega)] | rw [if_neg (by omega)])); all_goals (first | rfl | simp only [SB, e_3, h_6, e_7, h_10, e_11, h_17])), (k_12.mono (by omega) (by omega)), (by first | omega | (simp only [LE]; omega)), rfl, rfl⟩
      refine jP (cB (dF h_17)) <| jU <| jB <| jC <| jE <| jK (jc 4 x_13 m_14 rfl rfl) <| jA (jF (v := str to_) rfl) ?_
      refine jH rfl (jM [0, 0, 0] Tryz.call208 rfl (M_fileOf x_13 m_14 k_12 (by omega) (by omega) to_ (by omega)) rfl (fun _ _ => trivial)) ?_
      rintro _ _ ⟨_, ⟨x_20, m_21, n_22, e_18, k_19, f_23, rfl, rfl⟩, rfl⟩
      refine jA (jF (v := .tuple #[mv x_20 m_21, iv n_22]) rfl) <| jA (jb (v := mv x_20 m_21) rfl rfl) <| jA (jb (v := iv n_22) rfl rfl) ?_
      refine jH rfl (jm 4 x_20 m_21 rfl rfl rfl rfl) ?_
      rintro _ _ rfl
      refine jA (jG (v := iv n_22) rfl) <| jD <| jB <| jC <| jC <| jE <| jA (jF (v := iv n_22) rfl) <| jA (kN rfl rfl) <| jD <| jB ?_
      by_cases h_24 : n_22 = 0
      · refine jP (cB (cN (dT h_24))) <| jU <| jB <| jC <| jr [mb b_1 x_20 m_21] 7 mixed (by simp) <| jh 0 rfl (jc 0 x_20 m_21 rfl rfl) <| jI 1 rfl (jF (v := iv n_15) rfl) <| jQ (i := 2) ?_
        refine jY rfl rfl (jM [] Tryz.call173 rfl (N_sKeyNum [105, 47] n_15 [47, 108] (show List.length ([105, 47] : Str) ≤ 2 by decide) (by omega) (show List.length ([47, 108] : Str) ≤ 2 by decide) (by omega)) rfl (fun _ _ => trivial)) ?_
        rintro _ _ ⟨_, ⟨u_31, e_29, f_32, rfl, rfl⟩, rfl⟩
        refine ⟨(by simp), ?_⟩
        refine jQ (i := 3) ?_
        refine jY rfl rfl (jM [0, 0, 0] Tryz.call98 rfl (N_sNumAt x_20 m_21 k_19 (by omega) (by omega) u_31) rfl (fun _ _ => trivial)) ?_
        rintro _ _ ⟨_, ⟨x_41, m_42, n_43, e_39, k_40, f_44, rfl, rfl⟩, rfl⟩
        refine ⟨(by simp), ?_⟩
        refine jI 4 rfl (jF (v := .tuple #[mv x_41 m_42, iv n_43]) rfl) <| jI 5 rfl (jb (v := mv x_41 m_42) rfl rfl) <| jI 6 rfl (jb (v := iv n_43) rfl rfl) <| jQ (i := 7) ?_
        refine kF rfl (jm 4 x_41 m_42 rfl rfl rfl rfl) ?_
        rintro _ _ rfl
        refine jI 8 rfl (jG (v := iv n_43) rfl) <| kI (by kernel_rfl) <| jB <| jC <| jC <| jE <| jA (jF (v := iv n_43) rfl) <| jA (kh rfl rfl) <| jD <| jB ?_
        by_cases h_45 : 4 ≤ n_43
        · refine jO (cB (dT h_45)) <| jC <| jE <| jK (jc 4 x_41 m_42 rfl rfl) ?_
          refine jH rfl (jm 3 x_41 m_42 rfl rfl rfl rfl) ?_
          rintro _ _ rfl
          refine jA (jG (v := iv 3) rfl) <| jD <| jB <| jL <| jW <| kB (.inl rfl) rfl (je (jc 3 x_41 m_42 rfl rfl) ⟨_, rfl⟩) (jN (v := iv 3) rfl) (tS 3 _) ?_
          exact ⟨x_41, m_42, 3, (by simp only [MS.linkName, e_3, h_6, e_7, h_10, e_11, h_17, e_18, h_24, e_29, e_39, h_45, SB]; (repeat (first | rw [if_pos (by omega)] | rw [if_neg (by omega)])); all_goals (first | rfl | simp only [SB, e_3, h_6, e_7, h_10, e_11, h_17, e_18, h_24, e_29, e_39, h_45])), (k_40.mono (by omega) (by omega)), (by first | omega | (simp only [LE]; omega)), rfl, rfl⟩
        refine jP (cB (dF h_45)) <| jU <| jB <| jC <| jE <| jK (jc 4 x_41 m_42 rfl rfl) <| jA (jF (v := str to_) rfl) <| jA (ki rfl rfl (by (try simp only [List.length_append, List.length_cons, List.length_nil, List.length_drop, List.length_take]); omega)) <| jA (jF (v := iv n_15) rfl) ?_
        refine jH rfl (jM [0, 0, 0] Tryz.call100 rfl (N_sSetNum x_41 m_42 k_40 (by omega) (by omega) ([110, 47] ++ to_) n_15 (by first | omega | (simp only [LE]; omega)) (by omega)) rfl (fun _ _ => trivial)) ?_
        rintro _ _ ⟨_, ⟨x_48, m_49, e_46, k_47, rfl, rfl⟩, rfl⟩
        refine jH rfl (jm 4 x_48 m_49 rfl rfl rfl rfl) ?_
        rintro _ _ rfl
        refine jD <| jB <| jC <| jr [mb b_1 x_48 m_49] 5 mixed (by simp) <| jh 0 rfl (jc 0 x_48 m_49 rfl rfl) <| jI 1 rfl (jF (v := iv n_15) rfl) <| jI 3 rfl (jF (v := iv n_43) rfl) <| jI 4 rfl (ji (c := n_43 + 1) rfl rfl (wr (by omega))) <| jQ (i := 2) ?_
        refine jY rfl rfl (jM [] Tryz.call173 rfl (N_sKeyNum [105, 47] n_15 [47, 108] (show List.length ([105, 47] : Str) ≤ 2 by decide) (by omega) (show List.length ([47, 108] : Str) ≤ 2 by decide) (by omega)) rfl (fun _ _ => trivial)) ?_
        rintro _ _ ⟨_, ⟨u_64, e_62, f_65, rfl, rfl⟩, rfl⟩
        have hqe_62 := e_29.symm.trans e_62
        subst hqe_62
        refine ⟨(by simp), ?_⟩
        refine jQ (i := 5) ?_
        refine kF rfl (jM [0, 0, 0] Tryz.call100 rfl (N_sSetNum x_48 m_49 k_47 (by omega) (by omega) u_31 (n_43 + 1) (by omega) (by omega)) rfl (fun _ _ => trivial)) ?_
        rintro _ _ ⟨_, ⟨x_72, m_73, e_70, k_71, rfl, rfl⟩, rfl⟩
        refine jQ (i := 6) ?_
        refine kF rfl (jm 3 x_72 m_73 rfl rfl rfl rfl) ?_
        rintro _ _ rfl
        refine jI 7 rfl (jG (v := iv 0) rfl) <| kI (by kernel_rfl) <| jB <| jL <| kB (.inl rfl) rfl (je (jc 3 x_72 m_73 rfl rfl) ⟨_, rfl⟩) (jN (v := iv 0) rfl) (tS 3 _) ?_
        exact ⟨x_72, m_73, 0, (by simp only [MS.linkName, e_3, h_6, e_7, h_10, e_11, h_17, e_18, h_24, e_29, e_39, h_45, e_46, e_70, SB]; (repeat (first | rw [if_pos (by omega)] | rw [if_neg (by omega)])); all_goals (first | rfl | simp only [SB, e_3, h_6, e_7, h_10, e_11, h_17, e_18, h_24, e_29, e_39, h_45, e_46, e_70])), (k_71.mono (by omega) (by omega)), (by first | omega | (simp only [LE]; omega)), rfl, rfl⟩
      refine jO (cB (cN (dF h_24))) <| jC <| jE <| jK (jc 4 x_20 m_21 rfl rfl) ?_
      refine jH rfl (jm 3 x_20 m_21 rfl rfl rfl rfl) ?_
      rintro _ _ rfl
      refine jA (jG (v := iv 1) rfl) <| jD <| jB <| jL <| jW <| kB (.inl rfl) rfl (je (jc 3 x_20 m_21 rfl rfl) ⟨_, rfl⟩) (jN (v := iv 1) rfl) (tS 3 _) ?_
      exact ⟨x_20, m_21, 1, (by simp only [MS.linkName, e_3, h_6, e_7, h_10, e_11, h_17, e_18, h_24, SB]; (repeat (first | rw [if_pos (by omega)] | rw [if_neg (by omega)])); all_goals (first | rfl | simp only [SB, e_3, h_6, e_7, h_10, e_11, h_17, e_18, h_24])), (k_19.mono (by omega) (by omega)), (by first | omega | (simp only [LE]; omega)), rfl, rfl⟩
    refine jO (cB (cN h_10)) <| jC <| jE <| jK (jc 1 x m rfl rfl) ?_
    refine jH rfl (jm 0 x m rfl rfl rfl rfl) ?_
    rintro _ _ rfl
    refine jA (jG (v := iv 4) rfl) <| jD <| jB <| jL <| jW <| kR (pick_perm [2, 2, 2] (A := [rC x.a0 x.c0 m.s, rS x.a1 x.c1 m.r, rS x.a2 x.c2 m.w]) (F := [mb b_2 x m, mb b_1 x m]) rfl).symm <| kB (.inl rfl) rfl (je (jc 3 x m rfl rfl) ⟨_, rfl⟩) (jN (v := iv 4) rfl) (tS 3 _) ?_
    exact ⟨x, m, 4, (by simp only [MS.linkName, e_3, h_6, e_7, h_10, SB]; (repeat (first | rw [if_pos (by omega)] | rw [if_neg (by omega)])); all_goals (first | rfl | simp only [SB, e_3, h_6, e_7, h_10])), (hk.mono (by omega) (by omega)), (by first | omega | (simp only [LE]; omega)), rfl, rfl⟩
  refine jS (b := true) rfl rfl rfl (cB (cN h_6)) <| jS (b := true) rfl rfl rfl (cB (cN h_6)) <| jS (b := true) rfl rfl rfl (cB (cN h_6)) <| jA (kG (v := .bool true) (cB (cN h_6)) rfl) <| jD <| jB <| jO (cB rfl) <| jC <| jE <| jK (jc 1 x m rfl rfl) ?_
  refine jH rfl (jm 0 x m rfl rfl rfl rfl) ?_
  rintro _ _ rfl
  refine jA (jG (v := iv 4) rfl) <| jD <| jB <| jL <| jW <| kR (pick_perm [2, 2, 2] (A := [rC x.a0 x.c0 m.s, rS x.a1 x.c1 m.r, rS x.a2 x.c2 m.w]) (F := [mb b_2 x m, mb b_1 x m]) rfl).symm <| kB (.inl rfl) rfl (je (jc 3 x m rfl rfl) ⟨_, rfl⟩) (jN (v := iv 4) rfl) (tS 3 _) ?_
  exact ⟨x, m, 4, (by simp only [MS.linkName, e_3, h_6, SB]; (repeat (first | rw [if_pos (by omega)] | rw [if_neg (by omega)])); all_goals (first | rfl | simp only [SB, e_3, h_6])), (hk.mono (by omega) (by omega)), (by first | omega | (simp only [LE]; omega)), rfl, rfl⟩

theorem M_unlinkName (x : MA) (m : MS) {S T : Nat} (hk : m.ok S T) (hS : S ≤ 250000000) (hT : T ≤ 250000000) (name : Str) (hname : name.length ≤ 100000000) :
    Ct Tryz.prog 153 [mv x m, str name] (mr x m) (fun _ => True) (fun v A' => ∃ x' m' r0, MS.unlinkName m name = (m', r0) ∧ m'.ok (S + 1) (T + S + 4) ∧ (0 ≤ r0 ∧ r0 ≤ 9) ∧ v = .tuple #[mv x' m', .int .i64 r0] ∧ A' = mr x' m') := by
  refine Ct.intro Tryz.func153 rfl Tryz.ntmps153 (lb rfl) fun w0 hpre => ?_
  refine jC <| jE ?_
  refine jH rfl (jy (cs := (mc x m)) rfl rfl) ?_
  rintro _ _ ⟨b_1, rfl, rfl⟩
  refine jH rfl (jn (z := zM) (cs := zC) gI rfl) ?_
  rintro _ _ ⟨b_2, rfl, rfl⟩
  refine jA (jG (v := iv 0) rfl) <| jD <| jB <| jC <| jC <| jE <| jA (jF (v := str name) rfl) ?_
  refine jH rfl (jM [] Tryz.call207 rfl (N_sNameOk name (by omega)) rfl (fun _ _ => trivial)) ?_
  rintro _ _ ⟨_, ⟨b_5, e_3, rfl, rfl⟩, rfl⟩
  refine jA (kP rfl) <| jD <| jB ?_
  rcases Bool.eq_false_or_eq_true (b_5) with h_6 | h_6
  · refine jP (cB (cN h_6)) <| jU <| jB <| jC <| jE <| jK (jc 1 x m rfl rfl) <| jA (jF (v := str name) rfl) ?_
    refine jH rfl (jM [2, 2, 2] Tryz.call208 rfl (M_fileOf x m hk (by omega) (by omega) name (by omega)) rfl (fun _ _ => trivial)) ?_
    rintro _ _ ⟨_, ⟨x_9, m_10, n_11, e_7, k_8, f_12, rfl, rfl⟩, rfl⟩
    refine jA (jF (v := .tuple #[mv x_9 m_10, iv n_11]) rfl) <| jA (jb (v := mv x_9 m_10) rfl rfl) <| jA (jb (v := iv n_11) rfl rfl) ?_
    refine jH rfl (jm 4 x_9 m_10 rfl rfl rfl rfl) ?_
    rintro _ _ rfl
    refine jA (jG (v := iv n_11) rfl) <| jD <| jB <| jC <| jC <| jE <| jA (jF (v := iv n_11) rfl) <| jA (jw rfl rfl) <| jD <| jB ?_
    by_cases h_13 : n_11 = 0
    · refine jO (cB (dT h_13)) <| jC <| jE <| jK (jc 4 x_9 m_10 rfl rfl) ?_
      refine jH rfl (jm 3 x_9 m_10 rfl rfl rfl rfl) ?_
      rintro _ _ rfl
      refine jA (jG (v := iv 2) rfl) <| jD <| jB <| jL <| jW <| kB (.inl rfl) rfl (je (jc 3 x_9 m_10 rfl rfl) ⟨_, rfl⟩) (jN (v := iv 2) rfl) (tS 3 _) ?_
      exact ⟨x_9, m_10, 2, (by simp only [MS.unlinkName, e_3, h_6, e_7, h_13, SB]; (repeat (first | rw [if_pos (by omega)] | rw [if_neg (by omega)])); all_goals (first | rfl | simp only [SB, e_3, h_6, e_7, h_13])), (k_8.mono (by omega) (by omega)), (by first | omega | (simp only [LE]; omega)), rfl, rfl⟩
    refine jP (cB (dF h_13)) <| jU <| jB <| jC <| jE <| jK (jc 4 x_9 m_10 rfl rfl) <| jA (jF (v := str name) rfl) <| jA (ki rfl rfl (by (try simp only [List.length_append, List.length_cons, List.length_nil, List.length_drop, List.length_take]); omega)) ?_
    refine jH rfl (jM [0, 0, 0] Tryz.call171 rfl (N_sLayNil x_9 m_10 k_8 (by omega) (by omega) ([110, 47] ++ name) (by first | omega | (simp only [LE]; omega))) rfl (fun _ _ => trivial)) ?_
    rintro _ _ ⟨_, ⟨x_16, m_17, e_14, k_15, rfl, rfl⟩, rfl⟩
    refine jH rfl (jm 4 x_16 m_17 rfl rfl rfl rfl) ?_
    rintro _ _ rfl
    refine jD <| jB <| jC <| jr [mb b_1 x_16 m_17] 7 mixed (by simp) <| jh 0 rfl (jc 0 x_16 m_17 rfl rfl) <| jI 1 rfl (jF (v := iv n_11) rfl) <| jQ (i := 2) ?_
    refine jY rfl rfl (jM [] Tryz.call173 rfl (N_sKeyNum [105, 47] n_11 [47, 108] (show List.length ([105, 47] : Str) ≤ 2 by decide) (by omega) (show List.length ([47, 108] : Str) ≤ 2 by decide) (by omega)) rfl (fun _ _ => trivial)) ?_
    rintro _ _ ⟨_, ⟨u_24, e_22, f_25, rfl, rfl⟩, rfl⟩
    refine ⟨(by simp), ?_⟩
    refine jQ (i := 3) ?_
    refine jY rfl rfl (jM [0, 0, 0] Tryz.call98 rfl (N_sNumAt x_16 m_17 k_15 (by omega) (by omega) u_24) rfl (fun _ _ => trivial)) ?_
    rintro _ _ ⟨_, ⟨x_34, m_35, n_36, e_32, k_33, f_37, rfl, rfl⟩, rfl⟩
    refine ⟨(by simp), ?_⟩
    refine jI 4 rfl (jF (v := .tuple #[mv x_34 m_35, iv n_36]) rfl) <| jI 5 rfl (jb (v := mv x_34 m_35) rfl rfl) <| jI 6 rfl (jb (v := iv n_36) rfl rfl) <| jQ (i := 7) ?_
    refine kF rfl (jm 4 x_34 m_35 rfl rfl rfl rfl) ?_
    rintro _ _ rfl
    refine jI 8 rfl (jG (v := iv n_36) rfl) <| kI (by kernel_rfl) <| jB <| jC <| jC <| jE <| jA (jF (v := iv n_36) rfl) <| jA (ke rfl rfl) <| jD <| jB ?_
    by_cases h_38 : 1 < n_36
    · refine jO (cB (dT h_38)) <| jC <| jr [mb b_1 x_34 m_35] 5 mixed (by simp) <| jh 0 rfl (jc 0 x_34 m_35 rfl rfl) <| jI 1 rfl (jF (v := iv n_11) rfl) <| jI 3 rfl (jF (v := iv n_36) rfl) <| jI 4 rfl (kW (c := n_36 - 1) rfl rfl (wr (by omega))) <| jQ (i := 2) ?_
      refine jY rfl rfl (jM [] Tryz.call173 rfl (N_sKeyNum [105, 47] n_11 [47, 108] (show List.length ([105, 47] : Str) ≤ 2 by decide) (by omega) (show List.length ([47, 108] : Str) ≤ 2 by decide) (by omega)) rfl (fun _ _ => trivial)) ?_
      rintro _ _ ⟨_, ⟨u_53, e_51, f_54, rfl, rfl⟩, rfl⟩
      have hqe_51 := e_22.symm.trans e_51
      subst hqe_51
      refine ⟨(by simp), ?_⟩
      refine jQ (i := 5) ?_
      refine kF rfl (jM [0, 0, 0] Tryz.call100 rfl (N_sSetNum x_34 m_35 k_33 (by omega) (by omega) u_24 (n_36 - 1) (by omega) (by omega)) rfl (fun _ _ => trivial)) ?_
      rintro _ _ ⟨_, ⟨x_61, m_62, e_59, k_60, rfl, rfl⟩, rfl⟩
      refine jQ (i := 6) ?_
      refine kF rfl (jm 3 x_61 m_62 rfl rfl rfl rfl) ?_
      rintro _ _ rfl
      refine jI 7 rfl (jG (v := iv 0) rfl) <| kI (by kernel_rfl) <| jB <| jL <| jW <| kB (.inl rfl) rfl (je (jc 3 x_61 m_62 rfl rfl) ⟨_, rfl⟩) (jN (v := iv 0) rfl) (tS 3 _) ?_
      exact ⟨x_61, m_62, 0, (by simp only [MS.unlinkName, e_3, h_6, e_7, h_13, e_14, e_22, e_32, h_38, e_59, SB]; (repeat (first | rw [if_pos (by omega)] | rw [if_neg (by omega)])); all_goals (first | rfl | simp only [SB, e_3, h_6, e_7, h_13, e_14, e_22, e_32, h_38, e_59])), (k_60.mono (by omega) (by omega)), (by first | omega | (simp only [LE]; omega)), rfl, rfl⟩
    refine jP (cB (dF h_38)) <| jU <| jB <| jC <| jr [mb b_1 x_34 m_35] 3 mixed (by simp) <| jh 0 rfl (jc 0 x_34 m_35 rfl rfl) <| jI 1 rfl (jF (v := iv n_11) rfl) <| jQ (i := 2) ?_
    refine jY rfl rfl (jM [] Tryz.call173 rfl (N_sKeyNum [105, 47] n_11 [47] (show List.length ([105, 47] : Str) ≤ 2 by decide) (by omega) (show List.length ([47] : Str) ≤ 1 by decide) (by omega)) rfl (fun _ _ => trivial)) ?_
    rintro _ _ ⟨_, ⟨u_69, e_67, f_70, rfl, rfl⟩, rfl⟩
    refine ⟨(by simp), ?_⟩
    refine jQ (i := 3) ?_
    refine kF rfl (jM [0, 0, 0] Tryz.call209 rfl (M_wipe x_34 m_35 k_33 (by omega) (by omega) u_69 (by omega)) rfl (fun _ _ => trivial)) ?_
    rintro _ _ ⟨_, ⟨x_77, m_78, e_75, k_76, rfl, rfl⟩, rfl⟩
    refine jQ (i := 4) ?_
    refine kF rfl (jm 3 x_77 m_78 rfl rfl rfl rfl) ?_
    rintro _ _ rfl
    refine jI 5 rfl (jG (v := iv 0) rfl) <| kI (by kernel_rfl) <| jB <| jL <| kB (.inl rfl) rfl (je (jc 3 x_77 m_78 rfl rfl) ⟨_, rfl⟩) (jN (v := iv 0) rfl) (tS 3 _) ?_
    exact ⟨x_77, m_78, 0, (by simp only [MS.unlinkName, e_3, h_6, e_7, h_13, e_14, e_22, e_32, h_38, e_67, e_75, SB]; (repeat (first | rw [if_pos (by omega)] | rw [if_neg (by omega)])); all_goals (first | rfl | simp only [SB, e_3, h_6, e_7, h_13, e_14, e_22, e_32, h_38, e_67, e_75])), (k_76.mono (by omega) (by omega)), (by first | omega | (simp only [LE]; omega)), rfl, rfl⟩
  refine jO (cB (cN h_6)) <| jC <| jE <| jK (jc 1 x m rfl rfl) ?_
  refine jH rfl (jm 0 x m rfl rfl rfl rfl) ?_
  rintro _ _ rfl
  refine jA (jG (v := iv 4) rfl) <| jD <| jB <| jL <| jW <| kR (pick_perm [2, 2, 2] (A := [rC x.a0 x.c0 m.s, rS x.a1 x.c1 m.r, rS x.a2 x.c2 m.w]) (F := [mb b_2 x m, mb b_1 x m]) rfl).symm <| kB (.inl rfl) rfl (je (jc 3 x m rfl rfl) ⟨_, rfl⟩) (jN (v := iv 4) rfl) (tS 3 _) ?_
  exact ⟨x, m, 4, (by simp only [MS.unlinkName, e_3, h_6, SB]; (repeat (first | rw [if_pos (by omega)] | rw [if_neg (by omega)])); all_goals (first | rfl | simp only [SB, e_3, h_6])), (hk.mono (by omega) (by omega)), (by first | omega | (simp only [LE]; omega)), rfl, rfl⟩

theorem M_renameName (x : MA) (m : MS) {S T : Nat} (hk : m.ok S T) (hS : S ≤ 200000000) (hT : T ≤ 200000000) (from_ : Str) (to_ : Str) (hfrom_ : from_.length ≤ 100000000) (hto_ : to_.length ≤ 100000000) :
    Ct Tryz.prog 154 [mv x m, str from_, str to_] (mr x m) (fun _ => True) (fun v A' => ∃ x' m' r0, MS.renameName m from_ to_ = (m', r0) ∧ m'.ok (S + 2) (T + S + 8) ∧ (0 ≤ r0 ∧ r0 ≤ 9) ∧ v = .tuple #[mv x' m', .int .i64 r0] ∧ A' = mr x' m') := by
  refine Ct.intro Tryz.func154 rfl Tryz.ntmps154 (lb rfl) fun w0 hpre => ?_
  refine jC <| jE ?_
  refine jH rfl (jy (cs := (mc x m)) rfl rfl) ?_
  rintro _ _ ⟨b_1, rfl, rfl⟩
  refine jH rfl (jn (z := zM) (cs := zC) gI rfl) ?_
  rintro _ _ ⟨b_2, rfl, rfl⟩
  refine jA (jG (v := iv 0) rfl) <| jD <| jB <| jC <| jC <| jE <| jA (jF (v := str from_) rfl) ?_
  refine jH rfl (jM [] Tryz.call207 rfl (N_sNameOk from_ (by omega)) rfl (fun _ _ => trivial)) ?_
  rintro _ _ ⟨_, ⟨b_5, e_3, rfl, rfl⟩, rfl⟩
  refine jA (kP rfl) <| jA (jF (v := .bool (!b_5)) rfl) ?_
  rcases Bool.eq_false_or_eq_true (b_5) with h_6 | h_6
  · refine jZ rfl rfl rfl (cB (cN h_6)) (ja (jf (jF (v := str to_) rfl))) ?_
    rintro _ _ ⟨rfl, rfl⟩
    refine jZ rfl rfl rfl (cB (cN h_6)) (jM [] Tryz.call207 rfl (N_sNameOk to_ (by omega)) rfl (fun _ _ => trivial)) ?_
    rintro _ _ ⟨_, ⟨b_9, e_7, rfl, rfl⟩, rfl⟩
    refine jZ rfl rfl rfl (cB (cN h_6)) (ja (jf (kP rfl))) ?_
    rintro _ _ ⟨rfl, rfl⟩
    refine jA (jv (v := .bool (!b_9)) (cB (cN h_6)) rfl) <| jD <| jB ?_
    rcases Bool.eq_false_or_eq_true (b_9) with h_10 | h_10
    · refine jP (cB (cN h_10)) <| jU <| jB <| jC <| jE <| jK (jc 1 x m rfl rfl) <| jA (jF (v := str from_) rfl) ?_
      refine jH rfl (jM [2, 2, 2] Tryz.call208 rfl (M_fileOf x m hk (by omega) (by omega) from_ (by omega)) rfl (fun _ _ => trivial)) ?_
      rintro _ _ ⟨_, ⟨x_13, m_14, n_15, e_11, k_12, f_16, rfl, rfl⟩, rfl⟩
      refine jA (jF (v := .tuple #[mv x_13 m_14, iv n_15]) rfl) <| jA (jb (v := mv x_13 m_14) rfl rfl) <| jA (jb (v := iv n_15) rfl rfl) ?_
      refine jH rfl (jm 4 x_13 m_14 rfl rfl rfl rfl) ?_
      rintro _ _ rfl
      refine jA (jG (v := iv n_15) rfl) <| jD <| jB <| jC <| jC <| jE <| jA (jF (v := iv n_15) rfl) <| jA (jw rfl rfl) <| jD <| jB ?_
      by_cases h_17 : n_15 = 0
      · refine jO (cB (dT h_17)) <| jC <| jE <| jK (jc 4 x_13 m_14 rfl rfl) ?_
        refine jH rfl (jm 3 x_13 m_14 rfl rfl rfl rfl) ?_
        rintro _ _ rfl
        refine jA (jG (v := iv 2) rfl) <| jD <| jB <| jL <| jW <| kB (.inl rfl) rfl (je (jc 3 x_13 m_14 rfl rfl) ⟨_, rfl⟩) (jN (v := iv 2) rfl) (tS 3 _) ?_
        exact ⟨x_13, m_14, 2, (by simp only [MS.renameName, e_3, h_6, e_7, h_10, e_11, h_17, SB]; (repeat (first | rw [if_pos (by omega)] | rw [if_neg (by omega)])); all_goals (first | rfl | simp only [SB, e_3, h_6, e_7, h_10, e_11, h_17])), (k_12.mono (by omega) (by omega)), (by first | omega | (simp only [LE]; omega)), rfl, rfl⟩
      refine jP (cB (dF h_17)) <| jU <| jB <| jC <| jE <| jK (jc 4 x_13 m_14 rfl rfl) <| jA (jF (v := str to_) rfl) ?_
      refine jH rfl (jM [0, 0, 0] Tryz.call208 rfl (M_fileOf x_13 m_14 k_12 (by omega) (by omega) to_ (by omega)) rfl (fun _ _ => trivial)) ?_
      rintro _ _ ⟨_, ⟨x_20, m_21, n_22, e_18, k_19, f_23, rfl, rfl⟩, rfl⟩
      refine jA (jF (v := .tuple #[mv x_20 m_21, iv n_22]) rfl) <| jA (jb (v := mv x_20 m_21) rfl rfl) <| jA (jb (v := iv n_22) rfl rfl) ?_
      refine jH rfl (jm 4 x_20 m_21 rfl rfl rfl rfl) ?_
      rintro _ _ rfl
      refine jA (jG (v := iv n_22) rfl) <| jD <| jB <| jC <| jC <| jE <| jA (jF (v := iv n_22) rfl) <| jA (jF (v := iv n_15) rfl) <| jA (jw rfl rfl) <| jD ?_
      refine jB ?_
      by_cases h_24 : n_22 = n_15
      · refine jO (cB (dT h_24)) <| jC <| jE <| jK (jc 4 x_20 m_21 rfl rfl) ?_
        refine jH rfl (jm 3 x_20 m_21 rfl rfl rfl rfl) ?_
        rintro _ _ rfl
        refine jA (jG (v := iv 0) rfl) <| jD <| jB <| jL <| jW <| kB (.inl rfl) rfl (je (jc 3 x_20 m_21 rfl rfl) ⟨_, rfl⟩) (jN (v := iv 0) rfl) (tS 3 _) ?_
        exact ⟨x_20, m_21, 0, (by simp only [MS.renameName, e_3, h_6, e_7, h_10, e_11, h_17, e_18, h_24, SB]; (repeat (first | rw [if_pos (by omega)] | rw [if_neg (by omega)])); all_goals (first | rfl | simp only [SB, e_3, h_6, e_7, h_10, e_11, h_17, e_18, h_24])), (k_19.mono (by omega) (by omega)), (by first | omega | (simp only [LE]; omega)), rfl, rfl⟩
      refine jP (cB (dF h_24)) <| jU <| jB <| jC <| jC <| jE <| jA (jF (v := iv n_22) rfl) <| jA (kN rfl rfl) <| jD <| jB ?_
      by_cases h_25 : n_22 = 0
      · refine jP (cB (cN (dT h_25))) <| jU <| jB <| jC <| jE <| jK (jc 4 x_20 m_21 rfl rfl) <| jA (jF (v := str to_) rfl) <| jA (ki rfl rfl (by (try simp only [List.length_append, List.length_cons, List.length_nil, List.length_drop, List.length_take]); omega)) <| jA (jF (v := iv n_15) rfl) ?_
        refine jH rfl (jM [0, 0, 0] Tryz.call100 rfl (N_sSetNum x_20 m_21 k_19 (by omega) (by omega) ([110, 47] ++ to_) n_15 (by first | omega | (simp only [LE]; omega)) (by omega)) rfl (fun _ _ => trivial)) ?_
        rintro _ _ ⟨_, ⟨x_28, m_29, e_26, k_27, rfl, rfl⟩, rfl⟩
        refine jH rfl (jm 4 x_28 m_29 rfl rfl rfl rfl) ?_
        rintro _ _ rfl
        refine jD <| jB <| jC <| jE <| jK (jc 4 x_28 m_29 rfl rfl) <| jA (jF (v := str from_) rfl) <| jA (ki rfl rfl (by (try simp only [List.length_append, List.length_cons, List.length_nil, List.length_drop, List.length_take]); omega)) ?_
        refine jH rfl (jM [0, 0, 0] Tryz.call171 rfl (N_sLayNil x_28 m_29 k_27 (by omega) (by omega) ([110, 47] ++ from_) (by first | omega | (simp only [LE]; omega))) rfl (fun _ _ => trivial)) ?_
        rintro _ _ ⟨_, ⟨x_32, m_33, e_30, k_31, rfl, rfl⟩, rfl⟩
        refine jH rfl (jm 3 x_32 m_33 rfl rfl rfl rfl) ?_
        rintro _ _ rfl
        refine jA (jG (v := iv 0) rfl) <| jD <| jB <| jL <| kB (.inl rfl) rfl (je (jc 3 x_32 m_33 rfl rfl) ⟨_, rfl⟩) (jN (v := iv 0) rfl) (tS 3 _) ?_
        exact ⟨x_32, m_33, 0, (by simp only [MS.renameName, e_3, h_6, e_7, h_10, e_11, h_17, e_18, h_24, h_25, e_26, e_30, SB]; (repeat (first | rw [if_pos (by omega)] | rw [if_neg (by omega)])); all_goals (first | rfl | simp only [SB, e_3, h_6, e_7, h_10, e_11, h_17, e_18, h_24, h_25, e_26, e_30])), (k_31.mono (by omega) (by omega)), (by first | omega | (simp only [LE]; omega)), rfl, rfl⟩
      refine jO (cB (cN (dF h_25))) <| jE <| jK (jc 4 x_20 m_21 rfl rfl) <| jA (jF (v := str to_) rfl) ?_
      refine jH rfl (jM [0, 0, 0] Tryz.call153 rfl (M_unlinkName x_20 m_21 k_19 (by omega) (by omega) to_ (by omega)) rfl (fun _ _ => trivial)) ?_
      rintro _ _ ⟨_, ⟨x_36, m_37, n_38, e_34, k_35, f_39, rfl, rfl⟩, rfl⟩
      refine jA (jF (v := .tuple #[mv x_36 m_37, iv n_38]) rfl) <| jA (jb (v := mv x_36 m_37) rfl rfl) <| jA (jb (v := iv n_38) rfl rfl) ?_
      refine jH rfl (jm 4 x_36 m_37 rfl rfl rfl rfl) ?_
      rintro _ _ rfl
      refine jD <| jB <| jC <| jE <| jK (jc 4 x_36 m_37 rfl rfl) <| jA (jF (v := str to_) rfl) <| jA (ki rfl rfl (by (try simp only [List.length_append, List.length_cons, List.length_nil, List.length_drop, List.length_take]); omega)) <| jA (jF (v := iv n_15) rfl) ?_
      refine jH rfl (jM [0, 0, 0] Tryz.call100 rfl (N_sSetNum x_36 m_37 k_35 (by omega) (by omega) ([110, 47] ++ to_) n_15 (by first | omega | (simp only [LE]; omega)) (by omega)) rfl (fun _ _ => trivial)) ?_
      rintro _ _ ⟨_, ⟨x_42, m_43, e_40, k_41, rfl, rfl⟩, rfl⟩
      refine jH rfl (jm 4 x_42 m_43 rfl rfl rfl rfl) ?_
      rintro _ _ rfl
      refine jD <| jB <| jC <| jE <| jK (jc 4 x_42 m_43 rfl rfl) <| jA (jF (v := str from_) rfl) <| jA (ki rfl rfl (by (try simp only [List.length_append, List.length_cons, List.length_nil, List.length_drop, List.length_take]); omega)) ?_
      refine jH rfl (jM [0, 0, 0] Tryz.call171 rfl (N_sLayNil x_42 m_43 k_41 (by omega) (by omega) ([110, 47] ++ from_) (by first | omega | (simp only [LE]; omega))) rfl (fun _ _ => trivial)) ?_
      rintro _ _ ⟨_, ⟨x_46, m_47, e_44, k_45, rfl, rfl⟩, rfl⟩
      refine jH rfl (jm 3 x_46 m_47 rfl rfl rfl rfl) ?_
      rintro _ _ rfl
      refine jA (jG (v := iv 0) rfl) <| jD <| jB <| jL <| kB (.inl rfl) rfl (je (jc 3 x_46 m_47 rfl rfl) ⟨_, rfl⟩) (jN (v := iv 0) rfl) (tS 3 _) ?_
      exact ⟨x_46, m_47, 0, (by simp only [MS.renameName, e_3, h_6, e_7, h_10, e_11, h_17, e_18, h_24, h_25, e_34, e_40, e_44, SB]; (repeat (first | rw [if_pos (by omega)] | rw [if_neg (by omega)])); all_goals (first | rfl | simp only [SB, e_3, h_6, e_7, h_10, e_11, h_17, e_18, h_24, h_25, e_34, e_40, e_44])), (k_45.mono (by omega) (by omega)), (by first | omega | (simp only [LE]; omega)), rfl, rfl⟩
    refine jO (cB (cN h_10)) <| jC <| jE <| jK (jc 1 x m rfl rfl) ?_
    refine jH rfl (jm 0 x m rfl rfl rfl rfl) ?_
    rintro _ _ rfl
    refine jA (jG (v := iv 4) rfl) <| jD <| jB <| jL <| jW <| kR (pick_perm [2, 2, 2] (A := [rC x.a0 x.c0 m.s, rS x.a1 x.c1 m.r, rS x.a2 x.c2 m.w]) (F := [mb b_2 x m, mb b_1 x m]) rfl).symm <| kB (.inl rfl) rfl (je (jc 3 x m rfl rfl) ⟨_, rfl⟩) (jN (v := iv 4) rfl) (tS 3 _) ?_
    exact ⟨x, m, 4, (by simp only [MS.renameName, e_3, h_6, e_7, h_10, SB]; (repeat (first | rw [if_pos (by omega)] | rw [if_neg (by omega)])); all_goals (first | rfl | simp only [SB, e_3, h_6, e_7, h_10])), (hk.mono (by omega) (by omega)), (by first | omega | (simp only [LE]; omega)), rfl, rfl⟩
  refine jS (b := true) rfl rfl rfl (cB (cN h_6)) <| jS (b := true) rfl rfl rfl (cB (cN h_6)) <| jS (b := true) rfl rfl rfl (cB (cN h_6)) <| jA (kG (v := .bool true) (cB (cN h_6)) rfl) <| jD <| jB <| jO (cB rfl) <| jC <| jE <| jK (jc 1 x m rfl rfl) ?_
  refine jH rfl (jm 0 x m rfl rfl rfl rfl) ?_
  rintro _ _ rfl
  refine jA (jG (v := iv 4) rfl) <| jD <| jB <| jL <| jW <| kR (pick_perm [2, 2, 2] (A := [rC x.a0 x.c0 m.s, rS x.a1 x.c1 m.r, rS x.a2 x.c2 m.w]) (F := [mb b_2 x m, mb b_1 x m]) rfl).symm <| kB (.inl rfl) rfl (je (jc 3 x m rfl rfl) ⟨_, rfl⟩) (jN (v := iv 4) rfl) (tS 3 _) ?_
  exact ⟨x, m, 4, (by simp only [MS.renameName, e_3, h_6, SB]; (repeat (first | rw [if_pos (by omega)] | rw [if_neg (by omega)])); all_goals (first | rfl | simp only [SB, e_3, h_6])), (hk.mono (by omega) (by omega)), (by first | omega | (simp only [LE]; omega)), rfl, rfl⟩

theorem M_names (x : MA) (m : MS) {S T : Nat} (hk : m.ok S T) (hS : S ≤ 250000000) (hT : T ≤ 250000000)  :
    Ct Tryz.prog 210 [mv x m] (mr x m) (fun _ => True) (fun v A' => ∃ x' m' r0a r0c r0, MS.names m = (m', r0) ∧ m'.ok (S) (T + 1) ∧ r0.length ≤ S ∧ v = .tuple #[mv x' m', .slice r0a r0.length r0c] ∧ A' = mr x' m' ++ [rS r0a r0c r0]) := by
  refine Ct.intro Tryz.func210 rfl Tryz.ntmps210 (lb rfl) fun w0 hpre => ?_
  refine jC <| jE ?_
  refine jH rfl (jy (cs := (mc x m)) rfl rfl) ?_
  rintro _ _ ⟨b_1, rfl, rfl⟩
  refine jH rfl (jn (z := zM) (cs := zC) gI rfl) ?_
  rintro _ _ ⟨b_2, rfl, rfl⟩
  refine jA (jG (v := .slice none 0 0) rfl) <| jD <| jB <| jC <| jE <| jK (jc 1 x m rfl rfl) ?_
  refine jH rfl (jM [2, 2, 2] Tryz.call221 rfl (N_sUnder x m hk (by omega) (by omega) [110, 47] (by decide)) rfl (fun _ _ => trivial)) ?_
  rintro _ _ ⟨_, ⟨x_5, m_6, l_7a, l_7c, l_7, e_3, k_4, f_8, rfl, rfl⟩, rfl⟩
  refine jA (jF (v := .tuple #[mv x_5 m_6, .slice l_7a l_7.length l_7c]) rfl) <| jA (jb (v := mv x_5 m_6) rfl rfl) <| jA (jb (v := .slice l_7a l_7.length l_7c) rfl rfl) ?_
  refine jH rfl (jm 5 x_5 m_6 rfl rfl rfl rfl) ?_
  rintro _ _ rfl
  refine jA (jG (v := .slice l_7a l_7.length l_7c) rfl) <| jD <| jB <| jC <| jE ?_
  refine jH rfl (kJ (ps := []) (cur := #[]) ks kw gQ rfl (by kernel_rfl) (by decide) (by decide)) ?_
  rintro _ _ ⟨a_9, rfl, rfl⟩
  refine jA (jG (v := .slice a_9 0 0) rfl) <| jD <| jB <| jC <| jC <| jE <| jA (jG (v := iv 0) rfl) <| jD <| jB <| jg ?_
  have hll := f_8.1
  refine kC (fun k_ e_ L_ => ∃ j : Nat, ∃ out_a : Option Addr, ∃ out_c : Nat, ∃ out_ : List Str, (j ≤ l_7.length) ∧ (out_.length ≤ j) ∧ (dropAcc 2 (l_7.drop j) out_ = dropAcc 2 l_7 ([] : List Str)) ∧ e_ 1 = .pointer (some ⟨b_1, 0, none⟩) ∧ e_ 2 = .pointer (some ⟨b_2, 0, none⟩) ∧ e_ 3 = .slice none 0 0 ∧ e_ 4 = .slice l_7a l_7.length l_7c ∧ e_ 5 = .slice out_a out_.length out_c ∧ e_ 6 = nv j ∧ L_ = [rS out_a out_c out_, rC x_5.a0 x_5.c0 m_6.s, rS x_5.a1 x_5.c1 m_6.r, rS x_5.a2 x_5.c2 m_6.w, rS l_7a l_7c l_7, bk b_2 99 zC, mb b_1 x_5 m_6] ∧ k_ = l_7.length - j) _ ⟨0, a_9, 0, ([] : List Str), by omega, (by first | omega | (simp only [LE]; omega)), rfl, rfl, rfl, rfl, rfl, rfl, rfl, rfl, rfl⟩ ?_
  rintro _ e_10 _ ⟨j, out_a, out_c, out_, hj, ho, hR, he_11, he_12, he_13, he_14, he_15, he_16, rfl, rfl⟩
  refine jC <| jC <| jE <| jA (jF (v := nv j) he_16) <| jA (jF (v := .slice l_7a l_7.length l_7c) he_14) <| jA (jp ks rfl) <| jA (jo rfl rfl) <| jD <| jB ?_
  by_cases h_17 : ((j : Nat) : Int) < ((l_7.length : Nat) : Int)
  · have hlt : j < l_7.length := by omega
    have hbj := f_8.2 j hlt
    try simp only [List.length_cons, List.length_nil] at hbj
    refine jO (cB (dT h_17)) <| jU <| jB <| jC <| jg <| jE <| jA (jF (v := .slice out_a out_.length out_c) he_15) <| jA (jF (v := .slice l_7a l_7.length l_7c) he_14) <| jA (jF (v := nv j) he_16) ?_
    refine kc fun hst => ?_
    obtain ⟨hr_18, hr_18b, -⟩ := row_some 4 rfl (by omega) hst
    refine jA (jl (i := j) ks kw hr_18 hr_18b rfl rfl (by omega)) <| jK (kl 4 (v := str (l_7.getD j [])) rfl rfl kv (atS (by omega))) <| jA (PO.sliceSl (i := 2) ky rfl rfl (by omega)) ?_
    refine jH rfl (kJ (ps := [(0, str ((l_7.getD j []).drop 2))]) (cur := #[str ((l_7.getD j []).drop 2)]) ks kw gQ rfl (by kernel_rfl) (by decide) (by decide)) ?_
    rintro _ _ ⟨a_19, rfl, rfl⟩
    refine jH rfl (kM 1 (q := 1) (news := ([(l_7.getD j []).drop 2] : List Str).map str) (n' := (out_ ++ ([(l_7.getD j []).drop 2] : List Str)).length) (cs' := (out_ ++ ([(l_7.getD j []).drop 2] : List Str)).map str) rfl ks ks gO rfl (by' := 16) rfl rfl rfl rfl rfl (fun w hw => Src.sees (hw.see (i := 0) rfl) (oneS _)) (by (try simp only [LE]); omega) (by (try simp only [LE]); omega) (by simp only [List.length_append, List.length_take, List.length_drop, List.length_cons, List.length_nil] <;> first | rfl | omega) (by simp only [List.map_append])) ?_
    rintro _ _ ⟨a_20, c_21, rfl, rfl⟩
    refine jA (jG (v := .slice a_20 ((out_ ++ ([(l_7.getD j []).drop 2] : List Str)).length) c_21) rfl) <| jD <| jk <| jB <| jE <| jA (jF (v := nv j) he_16) <| jA (ji (c := ((j + 1 : Nat) : Int)) rfl rfl (wr (by omega))) <| jA (jG (v := iv ((j + 1 : Nat) : Int)) rfl) <| jD <| kH [1, 1, 1, 1, 1, 1, 1] (A := [rS a_20 c_21 (out_ ++ ([(l_7.getD j []).drop 2] : List Str)), rC x_5.a0 x_5.c0 m_6.s, rS x_5.a1 x_5.c1 m_6.r, rS x_5.a2 x_5.c2 m_6.w, rS l_7a l_7c l_7, bk b_2 99 zC, mb b_1 x_5 m_6]) rfl ?_
    refine ju (l_7.length - (j + 1)) (by omega) ⟨j + 1, a_20, c_21, (out_ ++ ([(l_7.getD j []).drop 2] : List Str)), by omega, (by first | omega | (simp only [LE]; omega)), (by rw [drop_at (getD_some (d := []) hlt)] at hR; simp only [dropAcc, e_3, h_17, SB] at hR; (repeat (first | rw [if_pos (by omega)] at hR | rw [if_neg (by omega)] at hR)); exact hR), he_11, he_12, he_13, he_14, rfl, rfl, rfl, rfl⟩
  rw [List.drop_of_length_le (by omega)] at hR
  simp only [dropAcc] at hR
  have hE := hR.symm
  refine jP (cB (dF h_17)) <| jz <| jj <| jj <| kA <| jB <| jC <| jE <| jK (jc 6 x_5 m_6 rfl he_11) <| jA (jF (v := .slice out_a out_.length out_c) he_15) ?_
  refine jH rfl (jm 5 x_5 m_6 rfl he_12 rfl rfl) ?_
  rintro _ _ rfl
  refine jA (jG (v := .slice out_a out_.length out_c) rfl) <| jD <| jB <| jL <| kR (pick_perm [1, 1, 1, 0] (A := [rC x_5.a0 x_5.c0 m_6.s, rS x_5.a1 x_5.c1 m_6.r, rS x_5.a2 x_5.c2 m_6.w, rS out_a out_c out_]) (F := [rS l_7a l_7c l_7, mb b_2 x_5 m_6, mb b_1 x_5 m_6]) rfl).symm <| kB (.inl rfl) rfl (je (jc 5 x_5 m_6 rfl he_12) ⟨_, he_12⟩) (jN (v := .slice out_a out_.length out_c) rfl) (tS 4 _) ?_
  exact ⟨x_5, m_6, out_a, out_c, out_, (by simp only [MS.names, e_3, h_17, hE, SB]; (repeat (first | rw [if_pos (by omega)] | rw [if_neg (by omega)])); all_goals (first | rfl | simp only [SB, e_3, h_17, hE])), (k_4.mono (by omega) (by omega)), (by first | omega | (simp only [LE]; omega)), rfl, rfl⟩

theorem M_tick (x : MA) (m : MS) {S T : Nat} (hk : m.ok S T) (hS : S ≤ 30000000) (hT : T ≤ 30000000) (n : Int) (hn : -9223372036854775808 ≤ n ∧ n ≤ 9223372036854775807) :
    Ct Tryz.prog 163 [mv x m, .int .i64 n] (mr x m) (fun _ => True) (fun v A' => ∃ x' m' r0 r1, MS.tick m n = (m', r0, r1) ∧ m'.ok (3 * S + 3) (T + 7 * S + 10) ∧ (0 ≤ r0 ∧ r0 ≤ 1000000000) ∧ (0 ≤ r1 ∧ r1 ≤ 9) ∧ v = .tuple #[mv x' m', .int .i64 r0, .int .i64 r1] ∧ A' = mr x' m') := by
  refine Ct.intro Tryz.func163 rfl Tryz.ntmps163 (lb rfl) fun w0 hpre => ?_
  refine jC <| jE ?_
  refine jH rfl (jy (cs := (mc x m)) rfl rfl) ?_
  rintro _ _ ⟨b_1, rfl, rfl⟩
  refine jH rfl (jn (z := zM) (cs := zC) gI rfl) ?_
  rintro _ _ ⟨b_2, rfl, rfl⟩
  refine jA (jG (v := iv 0) rfl) <| jA (jG (v := iv 0) rfl) <| jD <| jB <| jC <| jC <| jE <| jA (jF (v := iv n) rfl) <| jA (jo rfl rfl) <| jD ?_
  refine jB ?_
  by_cases h_3 : n < 1
  · refine jO (cB (dT h_3)) <| jC <| jE <| jK (jc 1 x m rfl rfl) ?_
    refine jH rfl (jm 0 x m rfl rfl rfl rfl) ?_
    rintro _ _ rfl
    refine jA (jG (v := iv 0) rfl) <| jA (jG (v := iv 4) rfl) <| jD <| jB <| jL <| jW <| kR (pick_perm [2, 2, 2] (A := [rC x.a0 x.c0 m.s, rS x.a1 x.c1 m.r, rS x.a2 x.c2 m.w]) (F := [mb b_2 x m, mb b_1 x m]) rfl).symm <| ka (.inl rfl) rfl (je (jc 3 x m rfl rfl) ⟨_, rfl⟩) (jN (v := iv 0) rfl) (jN (v := iv 4) rfl) (tS 3 _) ?_
    exact ⟨x, m, 0, 4, (by simp only [MS.tick, h_3, SB]; (repeat (first | rw [if_pos (by omega)] | rw [if_neg (by omega)])); all_goals (first | rfl | simp only [SB, h_3])), (hk.mono (by omega) (by omega)), (by first | omega | (simp only [LE]; omega)), (by first | omega | (simp only [LE]; omega)), rfl, rfl⟩
  refine jP (cB (dF h_3)) <| jU <| jB <| jC <| jE <| jK (jc 1 x m rfl rfl) ?_
  refine jH rfl (jM [2, 2, 2] Tryz.call98 rfl (N_sNumAt x m hk (by omega) (by omega) [99, 47, 99, 108, 111, 99, 107]) rfl (fun _ _ => trivial)) ?_
  rintro _ _ ⟨_, ⟨x_6, m_7, n_8, e_4, k_5, f_9, rfl, rfl⟩, rfl⟩
  refine jA (jF (v := .tuple #[mv x_6 m_7, iv n_8]) rfl) <| jA (jb (v := mv x_6 m_7) rfl rfl) <| jA (jb (v := iv n_8) rfl rfl) ?_
  refine jH rfl (jm 4 x_6 m_7 rfl rfl rfl rfl) ?_
  rintro _ _ rfl
  refine jA (jG (v := iv n_8) rfl) <| jD <| jB <| jC <| jC <| jE <| jA (jF (v := iv n) rfl) <| jA (jF (v := iv n_8) rfl) <| jA (kW (c := 999 - n_8) rfl rfl (wr (by omega))) <| jA (ke rfl rfl) ?_
  refine jD <| jB ?_
  by_cases h_10 : (999 - n_8) < n
  · refine jO (cB (dT h_10)) <| jC <| jE <| jK (jc 4 x_6 m_7 rfl rfl) ?_
    refine jH rfl (jm 3 x_6 m_7 rfl rfl rfl rfl) ?_
    rintro _ _ rfl
    refine jA (jG (v := iv 0) rfl) <| jA (jG (v := iv 3) rfl) <| jD <| jB <| jL <| jW <| ka (.inl rfl) rfl (je (jc 3 x_6 m_7 rfl rfl) ⟨_, rfl⟩) (jN (v := iv 0) rfl) (jN (v := iv 3) rfl) (tS 3 _) ?_
    exact ⟨x_6, m_7, 0, 3, (by simp only [MS.tick, h_3, e_4, h_10, SB]; (repeat (first | rw [if_pos (by omega)] | rw [if_neg (by omega)])); all_goals (first | rfl | simp only [SB, h_3, e_4, h_10])), (k_5.mono (by omega) (by omega)), (by first | omega | (simp only [LE]; omega)), (by first | omega | (simp only [LE]; omega)), rfl, rfl⟩
  refine jP (cB (dF h_10)) <| jU <| jB <| jC <| jE <| jK (jc 4 x_6 m_7 rfl rfl) <| jA (jF (v := iv n_8) rfl) <| jA (jF (v := iv n) rfl) <| jA (ji (c := n_8 + n) rfl rfl (wr (by omega))) ?_
  refine jH rfl (jM [0, 0, 0] Tryz.call100 rfl (N_sSetNum x_6 m_7 k_5 (by omega) (by omega) [99, 47, 99, 108, 111, 99, 107] (n_8 + n) (by decide) (by omega)) rfl (fun _ _ => trivial)) ?_
  rintro _ _ ⟨_, ⟨x_13, m_14, e_11, k_12, rfl, rfl⟩, rfl⟩
  refine jH rfl (jm 4 x_13 m_14 rfl rfl rfl rfl) ?_
  rintro _ _ rfl
  refine jD <| jB <| jC <| jE <| jK (jc 4 x_13 m_14 rfl rfl) ?_
  refine jH rfl (jM [0, 0, 0] Tryz.call221 rfl (N_sUnder x_13 m_14 k_12 (by omega) (by omega) [116, 47] (by decide)) rfl (fun _ _ => trivial)) ?_
  rintro _ _ ⟨_, ⟨x_17, m_18, l_19a, l_19c, l_19, e_15, k_16, f_20, rfl, rfl⟩, rfl⟩
  refine jA (jF (v := .tuple #[mv x_17 m_18, .slice l_19a l_19.length l_19c]) rfl) <| jA (jb (v := mv x_17 m_18) rfl rfl) <| jA (jb (v := .slice l_19a l_19.length l_19c) rfl rfl) ?_
  refine jH rfl (jm 5 x_17 m_18 rfl rfl rfl rfl) ?_
  rintro _ _ rfl
  refine jA (jG (v := .slice l_19a l_19.length l_19c) rfl) <| jD <| jB <| jC <| jE <| jA (jG (v := iv 0) rfl) <| jD <| jB <| jC <| jC ?_
  refine jE <| jA (jG (v := iv 0) rfl) <| jD <| jB <| jg ?_
  have hll := f_20.1
  refine JC.perm (pick_perm [5, 0, 0, 0, 0, 0] (A := [mb b_1 x_17 m_18, rC x_17.a0 x_17.c0 m_18.s, rS x_17.a1 x_17.c1 m_18.r, rS x_17.a2 x_17.c2 m_18.w, rS l_19a l_19c l_19, bk b_2 99 zC]) (F := []) rfl).symm <| kC (fun k_ e_ L_ => ∃ j : Nat, ∃ x : MA, ∃ mm : MS, ∃ kv9_ : Int, (j ≤ l_19.length) ∧ (mm.ok ((S + 1) + 2 * j) (((T + 1) + 1) + 1 + 7 * j)) ∧ (0 ≤ kv9_ ∧ kv9_ ≤ ((j : Nat) : Int)) ∧ (MS.tickL (n_8 + n) (l_19.drop j) mm kv9_ = MS.tickL (n_8 + n) l_19 m_18 0) ∧ e_ 1 = iv n ∧ e_ 2 = .pointer (some ⟨b_1, 0, none⟩) ∧ e_ 4 = .pointer (some ⟨b_2, 0, none⟩) ∧ e_ 5 = iv 0 ∧ e_ 6 = iv 0 ∧ e_ 7 = iv n_8 ∧ e_ 8 = .slice l_19a l_19.length l_19c ∧ e_ 9 = iv kv9_ ∧ e_ 10 = nv j ∧ L_ = [mb b_1 x mm, rC x.a0 x.c0 mm.s, rS x.a1 x.c1 mm.r, rS x.a2 x.c2 mm.w, rS l_19a l_19c l_19, bk b_2 99 zC] ∧ k_ = l_19.length - j) _ ⟨0, x_17, m_18, 0, by omega, (k_16.mono (by omega) (by omega)), (by first | omega | (simp only [LE]; omega)), rfl, rfl, rfl, rfl, rfl, rfl, rfl, rfl, rfl, rfl, rfl, rfl⟩ ?_
  rintro _ e_21 _ ⟨j, x, mm, kv9_, hj, hkmm, hx, hR, he_22, he_23, he_24, he_25, he_26, he_27, he_28, he_29, he_30, rfl, rfl⟩
  refine jC <| jC <| jE <| jA (jF (v := nv j) he_30) <| jA (jF (v := .slice l_19a l_19.length l_19c) he_28) <| jA (jp ks rfl) <| jA (jo rfl rfl) <| jD <| jB ?_
  by_cases h_31 : ((j : Nat) : Int) < ((l_19.length : Nat) : Int)
  · have hlt : j < l_19.length := by omega
    have hbj := f_20.2 j hlt
    try simp only [List.length_cons, List.length_nil] at hbj
    refine jO (cB (dT h_31)) <| jU <| jB <| jC <| jg <| jC <| jE <| jA (jG (v := iv 0) rfl) <| jD <| jB ?_
    refine jC <| jr [mb b_1 x mm] 9 mixed (by simp) <| jh 0 rfl (jc 0 x mm rfl he_23) <| jI 1 rfl (jF (v := .slice l_19a l_19.length l_19c) he_28) <| jI 2 rfl (jF (v := nv j) he_30) ?_
    refine JA.facts fun hst => ?_
    obtain ⟨hr_32, hr_32b, -⟩ := row_some 4 rfl (by omega) hst
    refine jI 3 rfl (jl (i := j) ks kw hr_32 hr_32b rfl rfl (by omega)) <| jQ (i := 4) ?_
    refine jY rfl rfl (ja (kl 4 (v := str (l_19.getD j [])) rfl rfl kv (atS (by omega)))) ?_
    rintro _ _ ⟨rfl, rfl⟩
    refine ⟨(by simp), ?_⟩
    refine jQ (i := 5) ?_
    refine jY rfl rfl (jM [1, 1, 1] Tryz.call98 rfl (N_sNumAt x mm hkmm (by omega) (by omega) (l_19.getD j [])) rfl (fun _ _ => trivial)) ?_
    rintro _ _ ⟨_, ⟨x_41, m_42, n_43, e_39, k_40, f_44, rfl, rfl⟩, rfl⟩
    refine ⟨(by simp), ?_⟩
    refine jI 6 rfl (jF (v := .tuple #[mv x_41 m_42, iv n_43]) rfl) <| jI 7 rfl (jb (v := mv x_41 m_42) rfl rfl) <| jI 8 rfl (jb (v := iv n_43) rfl rfl) <| jQ (i := 9) ?_
    refine kF rfl (jm 3 x_41 m_42 rfl he_23 rfl rfl) ?_
    rintro _ _ rfl
    refine jI 10 rfl (jG (v := iv n_43) rfl) <| kI (by kernel_rfl) <| jB <| jC <| jE <| jA (jF (v := iv n_43) rfl) <| jA (jF (v := iv n_8) he_27) <| jA (jF (v := iv n) he_22) <| jA (ji (c := n_8 + n) rfl rfl (wr (by omega))) <| jA (PO.leq rfl rfl) ?_
    refine jD <| jB ?_
    by_cases h_45 : n_43 ≤ (n_8 + n)
    · refine jO (cB (dT h_45)) <| jC <| jr [mb b_1 x_41 m_42] 5 mixed (by simp) <| jh 0 rfl (jc 0 x_41 m_42 rfl he_23) <| jI 1 rfl (jF (v := .slice l_19a l_19.length l_19c) he_28) <| jI 2 rfl (jF (v := nv j) he_30) <| jI 3 rfl (jl (i := j) ks kw hr_32 hr_32b rfl rfl (by omega)) <| jQ (i := 4) ?_
      refine jY rfl rfl (ja (kl 4 (v := str (l_19.getD j [])) rfl rfl kv (atS (by omega)))) ?_
      rintro _ _ ⟨rfl, rfl⟩
      refine ⟨(by simp), ?_⟩
      refine jQ (i := 5) ?_
      refine kF rfl (jM [0, 0, 0] Tryz.call171 rfl (N_sLayNil x_41 m_42 k_40 (by omega) (by omega) (l_19.getD j []) (by omega)) rfl (fun _ _ => trivial)) ?_
      rintro _ _ ⟨_, ⟨x_52, m_53, e_50, k_51, rfl, rfl⟩, rfl⟩
      refine jQ (i := 6) ?_
      refine jx rfl (jm 3 x_52 m_53 rfl he_23 rfl rfl) ?_
      rintro _ _ rfl
      refine jB <| jC <| jr [mb b_1 x_52 m_53] 11 mixed (by simp) <| jh 0 rfl (jc 0 x_52 m_53 rfl he_23) <| jI 1 rfl (jF (v := .slice l_19a l_19.length l_19c) he_28) <| jI 2 rfl (jF (v := nv j) he_30) <| jI 3 rfl (jl (i := j) ks kw hr_32 hr_32b rfl rfl (by omega)) <| jQ (i := 4) ?_
      refine jY rfl rfl (ja (kl 4 (v := str (l_19.getD j [])) rfl rfl kv (atS (by omega)))) ?_
      rintro _ _ ⟨rfl, rfl⟩
      refine ⟨(by simp), ?_⟩
      refine jI 5 rfl (PO.sliceSl (i := 2) ky rfl rfl (by omega)) <| jQ (i := 6) ?_
      refine jY rfl rfl (jM [] Tryz.call170 rfl (N_sNumOf ((l_19.getD j []).drop 2) (by first | omega | (simp only [LE]; omega))) rfl (fun _ _ => trivial)) ?_
      rintro _ _ ⟨_, ⟨n_60, e_58, f_61, rfl, rfl⟩, rfl⟩
      refine ⟨(by simp), ?_⟩
      refine jQ (i := 7) ?_
      refine jY rfl rfl (jM [0, 0, 0] Tryz.call160 rfl (M_send x_52 m_53 k_51 (by omega) (by omega) n_60 14 (by omega) (by omega)) rfl (fun _ _ => trivial)) ?_
      rintro _ _ ⟨_, ⟨x_70, m_71, n_72, e_68, k_69, f_73, rfl, rfl⟩, rfl⟩
      refine ⟨(by simp), ?_⟩
      refine jI 8 rfl (jF (v := .tuple #[mv x_70 m_71, iv n_72]) rfl) <| jI 9 rfl (jb (v := mv x_70 m_71) rfl rfl) <| jI 10 rfl (jb (v := iv n_72) rfl rfl) <| jQ (i := 11) ?_
      refine jx rfl (jm 3 x_70 m_71 rfl he_23 rfl rfl) ?_
      rintro _ _ rfl
      refine jB <| jE <| jA (jF (v := iv kv9_) he_29) <| jA (ji (c := kv9_ + 1) rfl rfl (wr (by omega))) <| jA (jG (v := iv (kv9_ + 1)) rfl) <| jD <| jk <| jB <| jE <| jA (jF (v := nv j) he_30) ?_
      refine jA (ji (c := ((j + 1 : Nat) : Int)) rfl rfl (wr (by omega))) <| jA (jG (v := iv ((j + 1 : Nat) : Int)) rfl) <| jD <| kH [3, 0, 0, 0, 0, 0] (A := [mb b_1 x_70 m_71, rC x_70.a0 x_70.c0 m_71.s, rS x_70.a1 x_70.c1 m_71.r, rS x_70.a2 x_70.c2 m_71.w, rS l_19a l_19c l_19, bk b_2 99 zC]) rfl ?_
      refine ju (l_19.length - (j + 1)) (by omega) ⟨j + 1, x_70, m_71, (kv9_ + 1), by omega, (k_69.mono (by omega) (by omega)), (by first | omega | (simp only [LE]; omega)), (by rw [drop_at (getD_some (d := []) hlt)] at hR; simp only [MS.tickL, h_3, e_4, h_10, e_11, e_15, h_31, e_39, h_45, e_50, e_58, e_68, SB] at hR; (repeat (first | rw [if_pos (by omega)] at hR | rw [if_neg (by omega)] at hR)); exact hR), he_22, he_23, he_24, he_25, he_26, he_27, he_28, rfl, rfl, rfl, rfl⟩
    refine jP (cB (dF h_45)) <| jU <| jk <| jB <| jE <| jA (jF (v := nv j) he_30) <| jA (ji (c := ((j + 1 : Nat) : Int)) rfl rfl (wr (by omega))) <| jA (jG (v := iv ((j + 1 : Nat) : Int)) rfl) <| jD <| kH [3, 0, 0, 0, 0, 0] (A := [mb b_1 x_41 m_42, rC x_41.a0 x_41.c0 m_42.s, rS x_41.a1 x_41.c1 m_42.r, rS x_41.a2 x_41.c2 m_42.w, rS l_19a l_19c l_19, bk b_2 99 zC]) rfl ?_
    refine ju (l_19.length - (j + 1)) (by omega) ⟨j + 1, x_41, m_42, kv9_, by omega, (k_40.mono (by omega) (by omega)), (by first | omega | (simp only [LE]; omega)), (by rw [drop_at (getD_some (d := []) hlt)] at hR; simp only [MS.tickL, h_3, e_4, h_10, e_11, e_15, h_31, e_39, h_45, SB] at hR; (repeat (first | rw [if_pos (by omega)] at hR | rw [if_neg (by omega)] at hR)); exact hR), he_22, he_23, he_24, he_25, he_26, he_27, he_28, he_29, rfl, rfl, rfl⟩
  rw [List.drop_of_length_le (by omega)] at hR
  simp only [MS.tickL] at hR
  have hE := hR.symm
  refine jP (cB (dF h_31)) <| jz <| jj <| jj <| kA <| jB <| jC <| jE <| jK (jc 0 x mm rfl he_23) <| jA (jF (v := iv kv9_) he_29) ?_
  refine jH rfl (jm 5 x mm rfl he_24 rfl rfl) ?_
  rintro _ _ rfl
  refine jA (jG (v := iv kv9_) rfl) <| jA (jG (v := iv 0) rfl) <| jD <| jB <| jL <| kR (pick_perm [1, 1, 1] (A := [rC x.a0 x.c0 mm.s, rS x.a1 x.c1 mm.r, rS x.a2 x.c2 mm.w]) (F := [mb b_1 x mm, rS l_19a l_19c l_19, mb b_2 x mm]) rfl).symm <| ka (.inl rfl) rfl (je (jc 5 x mm rfl he_24) ⟨_, he_24⟩) (jN (v := iv kv9_) rfl) (jN (v := iv 0) rfl) (tS 3 _) ?_
  exact ⟨x, mm, kv9_, 0, (by simp only [MS.tick, h_3, e_4, h_10, e_11, e_15, h_31, hE, SB]; (repeat (first | rw [if_pos (by omega)] | rw [if_neg (by omega)])); all_goals (first | rfl | simp only [SB, h_3, e_4, h_10, e_11, e_15, h_31, hE])), (hkmm.mono (by omega) (by omega)), (by first | omega | (simp only [LE]; omega)), (by first | omega | (simp only [LE]; omega)), rfl, rfl⟩

theorem M_dropPages (x : MA) (m : MS) {S T : Nat} (hk : m.ok S T) (hS : S ≤ 250000000) (hT : T ≤ 250000000) (id : Int) (hid : -9223372036854775808 ≤ id ∧ id ≤ 9223372036854775807) :
    Ct Tryz.prog 225 [mv x m, .int .i64 id] (mr x m) (fun _ => True) (fun v A' => ∃ x' m', MS.dropPages m id = m' ∧ m'.ok (S) (T + S + 1) ∧ v = mv x' m' ∧ A' = mr x' m') := by
  refine Ct.intro Tryz.func225 rfl Tryz.ntmps225 (lb rfl) fun w0 hpre => ?_
  refine jC <| jE ?_
  refine jH rfl (jy (cs := (mc x m)) rfl rfl) ?_
  rintro _ _ ⟨b_1, rfl, rfl⟩
  refine jH rfl (jn (z := zM) (cs := zC) gI rfl) ?_
  rintro _ _ ⟨b_2, rfl, rfl⟩
  refine jD <| jB <| jC <| jr [mb b_1 x m] 3 mixed (by simp) <| jh 0 rfl (jc 0 x m rfl rfl) <| jI 1 rfl (jF (v := iv id) rfl) <| jQ (i := 2) ?_
  refine jY rfl rfl (jM [] Tryz.call222 rfl (N_l11Head id (by omega)) rfl (fun _ _ => trivial)) ?_
  rintro _ _ ⟨_, ⟨u_9, e_7, f_10, rfl, rfl⟩, rfl⟩
  refine ⟨(by simp), ?_⟩
  refine jQ (i := 3) ?_
  refine kF rfl (jM [2, 2, 2] Tryz.call209 rfl (M_wipe x m hk (by omega) (by omega) u_9 (by omega)) rfl (fun _ _ => trivial)) ?_
  rintro _ _ ⟨_, ⟨x_17, m_18, e_15, k_16, rfl, rfl⟩, rfl⟩
  refine jQ (i := 4) ?_
  refine jx rfl (jm 3 x_17 m_18 rfl rfl rfl rfl) ?_
  rintro _ _ rfl
  refine jB <| jL <| jR (.inl rfl) rfl (je (jc 3 x_17 m_18 rfl rfl) ⟨_, rfl⟩) (tS 3 _) ?_
  exact ⟨x_17, m_18, (by simp only [MS.dropPages, e_7, e_15, SB]; (repeat (first | rw [if_pos (by omega)] | rw [if_neg (by omega)])); all_goals (first | rfl | simp only [SB, e_7, e_15])), (k_16.mono (by omega) (by omega)), rfl, rfl⟩

theorem M_forkPages (x : MA) (m : MS) {S T : Nat} (hk : m.ok S T) (hS : S ≤ 80000000) (hT : T ≤ 80000000) (from_ : Int) (to_ : Int) (hfrom_ : -9223372036854775808 ≤ from_ ∧ from_ ≤ 9223372036854775807) (hto_ : -9223372036854775808 ≤ to_ ∧ to_ ≤ 9223372036854775807) :
    Ct Tryz.prog 223 [mv x m, .int .i64 from_, .int .i64 to_] (mr x m) (fun _ => True) (fun v A' => ∃ x' m', MS.forkPages m from_ to_ = m' ∧ m'.ok (S + S) (T + 2 * S + 1) ∧ v = mv x' m' ∧ A' = mr x' m') := by
  refine Ct.intro Tryz.func223 rfl Tryz.ntmps223 (lb rfl) fun w0 hpre => ?_
  refine jC <| jE ?_
  refine jH rfl (jy (cs := (mc x m)) rfl rfl) ?_
  rintro _ _ ⟨b_1, rfl, rfl⟩
  refine jH rfl (jn (z := zM) (cs := zC) gI rfl) ?_
  rintro _ _ ⟨b_2, rfl, rfl⟩
  refine jD <| jB <| jC <| jr [mb b_1 x m] 7 mixed (by simp) <| jh 0 rfl (jc 0 x m rfl rfl) <| jI 1 rfl (jF (v := iv from_) rfl) <| jQ (i := 2) ?_
  refine jY rfl rfl (jM [] Tryz.call222 rfl (N_l11Head from_ (by omega)) rfl (fun _ _ => trivial)) ?_
  rintro _ _ ⟨_, ⟨u_9, e_7, f_10, rfl, rfl⟩, rfl⟩
  refine ⟨(by simp), ?_⟩
  refine jQ (i := 3) ?_
  refine jY rfl rfl (jM [2, 2, 2] Tryz.call221 rfl (N_sUnder x m hk (by omega) (by omega) u_9 (by omega)) rfl (fun _ _ => trivial)) ?_
  rintro _ _ ⟨_, ⟨x_19, m_20, l_21a, l_21c, l_21, e_17, k_18, f_22, rfl, rfl⟩, rfl⟩
  refine ⟨(by simp), ?_⟩
  refine jI 4 rfl (jF (v := .tuple #[mv x_19 m_20, .slice l_21a l_21.length l_21c]) rfl) <| jI 5 rfl (jb (v := mv x_19 m_20) rfl rfl) <| jI 6 rfl (jb (v := .slice l_21a l_21.length l_21c) rfl rfl) <| jQ (i := 7) ?_
  refine kF rfl (jm 5 x_19 m_20 rfl rfl rfl rfl) ?_
  rintro _ _ rfl
  refine jI 8 rfl (jG (v := .slice l_21a l_21.length l_21c) rfl) <| kI (by kernel_rfl) <| jB <| jC <| jC <| jE <| jA (jG (v := iv 0) rfl) <| jD <| jB <| jg ?_
  have hll := f_22.1
  refine JC.perm (pick_perm [5, 0, 0, 0, 0, 0] (A := [mb b_1 x_19 m_20, rC x_19.a0 x_19.c0 m_20.s, rS x_19.a1 x_19.c1 m_20.r, rS x_19.a2 x_19.c2 m_20.w, rS l_21a l_21c l_21, bk b_2 99 zC]) (F := []) rfl).symm <| kC (fun k_ e_ L_ => ∃ j : Nat, ∃ x : MA, ∃ mm : MS, (j ≤ l_21.length) ∧ (mm.ok (S + j) (T + 1 + 2 * j)) ∧ (MS.forkL u_9.length to_ (l_21.drop j) mm = MS.forkL u_9.length to_ l_21 m_20) ∧ e_ 1 = iv from_ ∧ e_ 2 = iv to_ ∧ e_ 3 = .pointer (some ⟨b_1, 0, none⟩) ∧ e_ 6 = .pointer (some ⟨b_2, 0, none⟩) ∧ e_ 7 = .slice l_21a l_21.length l_21c ∧ e_ 8 = nv j ∧ L_ = [mb b_1 x mm, rC x.a0 x.c0 mm.s, rS x.a1 x.c1 mm.r, rS x.a2 x.c2 mm.w, rS l_21a l_21c l_21, bk b_2 99 zC] ∧ k_ = l_21.length - j) _ ⟨0, x_19, m_20, by omega, (k_18.mono (by omega) (by omega)), rfl, rfl, rfl, rfl, rfl, rfl, rfl, rfl, rfl⟩ ?_
  rintro _ e_23 _ ⟨j, x, mm, hj, hkmm, hR, he_24, he_25, he_26, he_27, he_28, he_29, rfl, rfl⟩
  refine jC <| jC <| jE <| jA (jF (v := nv j) he_29) <| jA (jF (v := .slice l_21a l_21.length l_21c) he_28) <| jA (jp ks rfl) <| jA (jo rfl rfl) <| jD <| jB ?_
  by_cases h_30 : ((j : Nat) : Int) < ((l_21.length : Nat) : Int)
  · have hlt : j < l_21.length := by omega
    have hbj := f_22.2 j hlt
    try simp only [List.length_cons, List.length_nil] at hbj
    refine jO (cB (dT h_30)) <| jU <| jB <| jC <| jg <| jC <| jE <| jA (jG (v := str []) rfl) <| jD <| jB ?_
    refine jC <| jr [mb b_1 x mm] 9 mixed (by simp) <| jh 0 rfl (jc 0 x mm rfl he_26) <| jI 1 rfl (jF (v := .slice l_21a l_21.length l_21c) he_28) <| jI 2 rfl (jF (v := nv j) he_29) ?_
    refine JA.facts fun hst => ?_
    obtain ⟨hr_31, hr_31b, -⟩ := row_some 4 rfl (by omega) hst
    refine jI 3 rfl (jl (i := j) ks kw hr_31 hr_31b rfl rfl (by omega)) <| jQ (i := 4) ?_
    refine jY rfl rfl (ja (kl 4 (v := str (l_21.getD j [])) rfl rfl kv (atS (by omega)))) ?_
    rintro _ _ ⟨rfl, rfl⟩
    refine ⟨(by simp), ?_⟩
    refine jQ (i := 5) ?_
    refine jY rfl rfl (jM [1, 1, 1] Tryz.call169 rfl (N_sLook x mm hkmm (by omega) (by omega) (l_21.getD j [])) rfl (fun _ _ => trivial)) ?_
    rintro _ _ ⟨_, ⟨x_40, m_41, u_42, e_38, k_39, f_43, rfl, rfl⟩, rfl⟩
    refine ⟨(by simp), ?_⟩
    refine jI 6 rfl (jF (v := .tuple #[mv x_40 m_41, str u_42]) rfl) <| jI 7 rfl (jb (v := mv x_40 m_41) rfl rfl) <| jI 8 rfl (jb (v := str u_42) rfl rfl) <| jQ (i := 9) ?_
    refine kF rfl (jm 3 x_40 m_41 rfl he_26 rfl rfl) ?_
    rintro _ _ rfl
    refine jI 10 rfl (jG (v := str u_42) rfl) <| kI (by kernel_rfl) <| jB <| jr [mb b_1 x_40 m_41] 14 mixed (by simp) <| jh 0 rfl (jc 0 x_40 m_41 rfl he_26) <| jI 1 rfl (jF (v := iv to_) he_25) <| jI 3 rfl (jF (v := .slice l_21a l_21.length l_21c) he_28) <| jI 4 rfl (jF (v := nv j) he_29) <| jI 5 rfl (jl (i := j) ks kw hr_31 hr_31b rfl rfl (by omega)) <| jI 7 rfl (jF (v := iv from_) he_24) ?_
    refine jI 12 rfl (jF (v := str u_42) rfl) ?_
    refine kX (i := 2) (j := 6) (by kernel_rfl) ?_ ?_
    · refine jY rfl rfl (jM [] Tryz.call222 rfl (N_l11Head to_ (by omega)) rfl (fun _ _ => trivial)) ?_
      rintro _ _ ⟨_, ⟨u_70, e_68, f_71, rfl, rfl⟩, rfl⟩
      refine ⟨(by simp), ?_⟩
      refine kX (i := 6) (j := 8) (by kernel_rfl) ?_ ?_
      · refine jY rfl rfl (ja (kl 4 (v := str (l_21.getD j [])) rfl rfl kv (atS (by omega)))) ?_
        rintro _ _ ⟨rfl, rfl⟩
        refine ⟨(by simp), ?_⟩
        refine jQ (i := 8) ?_
        refine jY rfl rfl (jM [] Tryz.call222 rfl (N_l11Head from_ (by omega)) rfl (fun _ _ => trivial)) ?_
        rintro _ _ ⟨_, ⟨u_82, e_80, f_83, rfl, rfl⟩, rfl⟩
        have hqe_80 := e_7.symm.trans e_80
        subst hqe_80
        refine ⟨(by simp), ?_⟩
        refine jI 9 rfl (kV ky rfl) <| jI 10 rfl (PO.sliceSl (i := u_9.length) ky rfl rfl (by omega)) <| jI 11 rfl (ki rfl rfl (by (try simp only [List.length_append, List.length_cons, List.length_nil, List.length_drop, List.length_take]); omega)) <| jQ (i := 13) ?_
        refine jY rfl rfl (jM [0, 0, 0] Tryz.call171 rfl (N_sLay x_40 m_41 k_39 (by omega) (by omega) (u_70 ++ ((l_21.getD j []).drop u_9.length)) u_42 (by first | omega | (simp only [LE]; omega))) rfl (fun _ _ => trivial)) ?_
        rintro _ _ ⟨_, ⟨x_90, m_91, e_88, k_89, rfl, rfl⟩, rfl⟩
        refine ⟨(by simp), ?_⟩
        refine jQ (i := 14) ?_
        refine jx rfl (jm 3 x_90 m_91 rfl he_26 rfl rfl) ?_
        rintro _ _ rfl
        refine jk <| jB <| jE <| jA (jF (v := nv j) he_29) <| jA (ji (c := ((j + 1 : Nat) : Int)) rfl rfl (wr (by omega))) <| jA (jG (v := iv ((j + 1 : Nat) : Int)) rfl) <| jD <| kH [3, 0, 0, 0, 0, 0] (A := [mb b_1 x_90 m_91, rC x_90.a0 x_90.c0 m_91.s, rS x_90.a1 x_90.c1 m_91.r, rS x_90.a2 x_90.c2 m_91.w, rS l_21a l_21c l_21, bk b_2 99 zC]) rfl ?_
        refine ju (l_21.length - (j + 1)) (by omega) ⟨j + 1, x_90, m_91, by omega, (k_89.mono (by omega) (by omega)), (by rw [drop_at (getD_some (d := []) hlt)] at hR; simp only [MS.forkL, e_7, e_17, h_30, e_38, e_68, e_88, SB] at hR; (repeat (first | rw [if_pos (by omega)] at hR | rw [if_neg (by omega)] at hR)); exact hR), he_24, he_25, he_26, he_27, he_28, rfl, rfl, rfl⟩
      refine jY rfl rfl (jM [] Tryz.call222 rfl (N_l11Head from_ (by omega)) rfl (fun _ _ => trivial)) ?_
      rintro _ _ ⟨_, ⟨u_94, e_92, f_95, rfl, rfl⟩, rfl⟩
      have hqe_92 := e_7.symm.trans e_92
      subst hqe_92
      refine ⟨(by simp), ?_⟩
      refine jI 9 rfl (kV ky rfl) <| jQ (i := 6) ?_
      refine jY rfl rfl (ja (kl 4 (v := str (l_21.getD j [])) rfl rfl kv (atS (by omega)))) ?_
      rintro _ _ ⟨rfl, rfl⟩
      refine ⟨(by simp), ?_⟩
      refine jI 10 rfl (PO.sliceSl (i := u_9.length) ky rfl rfl (by omega)) <| jI 11 rfl (ki rfl rfl (by (try simp only [List.length_append, List.length_cons, List.length_nil, List.length_drop, List.length_take]); omega)) <| jQ (i := 13) ?_
      refine jY rfl rfl (jM [0, 0, 0] Tryz.call171 rfl (N_sLay x_40 m_41 k_39 (by omega) (by omega) (u_70 ++ ((l_21.getD j []).drop u_9.length)) u_42 (by first | omega | (simp only [LE]; omega))) rfl (fun _ _ => trivial)) ?_
      rintro _ _ ⟨_, ⟨x_102, m_103, e_100, k_101, rfl, rfl⟩, rfl⟩
      refine ⟨(by simp), ?_⟩
      refine jQ (i := 14) ?_
      refine jx rfl (jm 3 x_102 m_103 rfl he_26 rfl rfl) ?_
      rintro _ _ rfl
      refine jk <| jB <| jE <| jA (jF (v := nv j) he_29) <| jA (ji (c := ((j + 1 : Nat) : Int)) rfl rfl (wr (by omega))) <| jA (jG (v := iv ((j + 1 : Nat) : Int)) rfl) <| jD <| kH [3, 0, 0, 0, 0, 0] (A := [mb b_1 x_102 m_103, rC x_102.a0 x_102.c0 m_103.s, rS x_102.a1 x_102.c1 m_103.r, rS x_102.a2 x_102.c2 m_103.w, rS l_21a l_21c l_21, bk b_2 99 zC]) rfl ?_
      refine ju (l_21.length - (j + 1)) (by omega) ⟨j + 1, x_102, m_103, by omega, (k_101.mono (by omega) (by omega)), (by rw [drop_at (getD_some (d := []) hlt)] at hR; simp only [MS.forkL, e_7, e_17, h_30, e_38, e_68, e_100, SB] at hR; (repeat (first | rw [if_pos (by omega)] at hR | rw [if_neg (by omega)] at hR)); exact hR), he_24, he_25, he_26, he_27, he_28, rfl, rfl, rfl⟩
    refine jY rfl rfl (ja (kl 4 (v := str (l_21.getD j [])) rfl rfl kv (atS (by omega)))) ?_
    rintro _ _ ⟨rfl, rfl⟩
    refine ⟨(by simp), ?_⟩
    refine jQ (i := 2) ?_
    refine jY rfl rfl (jM [] Tryz.call222 rfl (N_l11Head to_ (by omega)) rfl (fun _ _ => trivial)) ?_
    rintro _ _ ⟨_, ⟨u_110, e_108, f_111, rfl, rfl⟩, rfl⟩
    refine ⟨(by simp), ?_⟩
    refine jQ (i := 8) ?_
    refine jY rfl rfl (jM [] Tryz.call222 rfl (N_l11Head from_ (by omega)) rfl (fun _ _ => trivial)) ?_
    rintro _ _ ⟨_, ⟨u_118, e_116, f_119, rfl, rfl⟩, rfl⟩
    have hqe_116 := e_7.symm.trans e_116
    subst hqe_116
    refine ⟨(by simp), ?_⟩
    refine jI 9 rfl (kV ky rfl) <| jI 10 rfl (PO.sliceSl (i := u_9.length) ky rfl rfl (by omega)) <| jI 11 rfl (ki rfl rfl (by (try simp only [List.length_append, List.length_cons, List.length_nil, List.length_drop, List.length_take]); omega)) <| jQ (i := 13) ?_
    refine jY rfl rfl (jM [0, 0, 0] Tryz.call171 rfl (N_sLay x_40 m_41 k_39 (by omega) (by omega) (u_110 ++ ((l_21.getD j []).drop u_9.length)) u_42 (by first | omega | (simp only [LE]; omega))) rfl (fun _ _ => trivial)) ?_
    rintro _ _ ⟨_, ⟨x_126, m_127, e_124, k_125, rfl, rfl⟩, rfl⟩
    refine ⟨(by simp), ?_⟩
    refine jQ (i := 14) ?_
    refine jx rfl (jm 3 x_126 m_127 rfl he_26 rfl rfl) ?_
    rintro _ _ rfl
    refine jk <| jB <| jE <| jA (jF (v := nv j) he_29) <| jA (ji (c := ((j + 1 : Nat) : Int)) rfl rfl (wr (by omega))) <| jA (jG (v := iv ((j + 1 : Nat) : Int)) rfl) <| jD <| kH [3, 0, 0, 0, 0, 0] (A := [mb b_1 x_126 m_127, rC x_126.a0 x_126.c0 m_127.s, rS x_126.a1 x_126.c1 m_127.r, rS x_126.a2 x_126.c2 m_127.w, rS l_21a l_21c l_21, bk b_2 99 zC]) rfl ?_
    refine ju (l_21.length - (j + 1)) (by omega) ⟨j + 1, x_126, m_127, by omega, (k_125.mono (by omega) (by omega)), (by rw [drop_at (getD_some (d := []) hlt)] at hR; simp only [MS.forkL, e_7, e_17, h_30, e_38, e_108, e_124, SB] at hR; (repeat (first | rw [if_pos (by omega)] at hR | rw [if_neg (by omega)] at hR)); exact hR), he_24, he_25, he_26, he_27, he_28, rfl, rfl, rfl⟩
  rw [List.drop_of_length_le (by omega)] at hR
  simp only [MS.forkL] at hR
  have hE := hR.symm
  refine jP (cB (dF h_30)) <| jz <| jj <| jj <| kA <| jB <| jC <| jE <| jK (jc 0 x mm rfl he_26) ?_
  refine jH rfl (jm 5 x mm rfl he_27 rfl rfl) ?_
  rintro _ _ rfl
  refine jD <| jB <| jL <| kR (pick_perm [1, 1, 1] (A := [rC x.a0 x.c0 mm.s, rS x.a1 x.c1 mm.r, rS x.a2 x.c2 mm.w]) (F := [mb b_1 x mm, rS l_21a l_21c l_21, mb b_2 x mm]) rfl).symm <| jR (.inl rfl) rfl (je (jc 5 x mm rfl he_27) ⟨_, he_27⟩) (tS 3 _) ?_
  exact ⟨x, mm, (by simp only [MS.forkPages, e_7, e_17, h_30, hE, SB]; (repeat (first | rw [if_pos (by omega)] | rw [if_neg (by omega)])); all_goals (first | rfl | simp only [SB, e_7, e_17, h_30, hE])), (hkmm.mono (by omega) (by omega)), rfl, rfl⟩

end Go.Proofs.YtghfijncihbojaaGreat
