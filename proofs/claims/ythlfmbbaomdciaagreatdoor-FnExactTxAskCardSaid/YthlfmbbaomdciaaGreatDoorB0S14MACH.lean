/-
Texts of the walk, joined: what each one proves stands at its theorems.
-/
import Derived.Test.YthlfmbbaomdciaaGreatDoorB0DatD
set_option linter.unusedSimpArgs false
set_option linter.unusedVariables false
set_option linter.unnecessarySimpa false
set_option maxHeartbeats 4000000
set_option maxRecDepth 4000
namespace Go.Proofs.YthlfmbbaomdciaaGreatDoor
open Go Go.RowKit
attribute [local irreducible] JL JC JQ JO LO PO JA JX Ct
theorem N_begins (s : Str) (p : Str) (hs : s.length ≤ 1000000000000) (hp : p.length ≤ 1000000000000) :
   Ct Tryz.prog 145 [str s, str p] ([]) (fun _ => True) (fun v A' => ∃ r0, prefixB s p = r0 ∧ v = .bool r0 ∧ A' = []) := by
 refine Ct.intro Tryz.func145 rfl Tryz.ntmps145 (lb rfl) fun w0 hpre => ?_
 refine go ?_
 by_cases h_1 : (p.length : Int) ≤ (s.length : Int)
 · refine go ?_
   refine jW rfl rfl rfl (cB (dT h_1)) (jm (LO.pure (PO.sliceSh (j := p.length) kO rfl rfl (by omega)))) ?_
   rintro _ _ ⟨rfl, rfl⟩
   refine go ?_
   exact jJ [] ⟨(decide ((s.take p.length) = p)), (by rw [begins_eq]; first | (simp_all; done) | (simp_all; intros; omega)), rfl, rfl⟩
 refine go ?_
 exact jJ [] ⟨false, (by rw [begins_eq]; first | (simp_all; done) | (simp_all; intros; omega)), rfl, rfl⟩

theorem N_ikeysUnder (sa : Option Addr) (sc : Nat) (s : List Cell) (p : Str) (hs : s.length ≤ 1000000000) (hp : p.length ≤ 1000000000) :
   Ct Tryz.prog 346 [.slice sa s.length sc, str p] ([]) (fun w => Sees w (.slice sa s.length sc) 2 s.length (s.flatMap encC)) (fun v A' => ∃ r0a r0c r0, keysUnder s p = r0 ∧ r0.length ≤ s.length ∧ v = .slice r0a r0.length r0c ∧ A' = [rS r0a r0c r0]) := by
 refine Ct.intro Tryz.func346 rfl Tryz.ntmps346 (lb rfl) fun w0 hpre => ?_
 have hs_sa : Sees w0 _ _ _ _ := hpre
 refine go ?_
 refine JC.nilRow 9 1 <| jL (fun k_ e_ L_ => ∃ j : Nat, ∃ out_a : Option Addr, ∃ out_c : Nat, ∃ out_ : List Str, (j ≤ s.length) ∧ (out_.length ≤ j) ∧ (underL p (s.drop j) out_ = underL p s ([] : List Str)) ∧ EL e_ [(1, str p), (4, .slice none 0 0), (5, .slice out_a out_.length out_c), (8, .slice sa s.length sc), (9, nv s.length), (10, nv j)] ∧ L_ = [rS out_a out_c out_] ∧ k_ = s.length - j) _ ⟨0, none, 0, ([] : List Str), by omega, (by first | omega | (simp only [LE]; omega)), rfl, EL.go, rfl, rfl⟩ ?_
 rintro _ _ _ ⟨j, out_a, out_c, out_, hj, ho, hR, ⟨_, rfl⟩, rfl, rfl⟩
 refine go ?_
 by_cases h_1 : ((j : Nat) : Int) < ((s.length : Nat) : Int)
 · have hlt : j < s.length := by omega
   refine go ?_
   obtain ⟨hr_2, hr_2b, -⟩ := sees_some hs_sa (by omega)
   refine go ?_
   refine jU (jj (vs := [str ((s.getD j c0).1), str ((s.getD j c0).2)]) hs_sa nM rfl Tryz.isAgg130 kP (atC (by omega)) rfl (by decide)) ?_
   refine jG [str [], str []] fun b_3 => ?_
   refine jD 0 [str ((s.getD j c0).1), str ((s.getD j c0).2)] ?_
   refine go ?_
   refine jA [] (N_hasPrefix ((s.getD j c0).1) p) ?_
   rintro _ _ ⟨b_6, e_4, rfl, rfl⟩
   refine go ?_
   rcases Bool.eq_false_or_eq_true (b_6) with h_7 | h_7
   · refine go ?_
     refine jF rfl (jR (ps := [(0, str ((s.getD j c0).1))]) (cur := #[str ((s.getD j c0).1)]) kI kM kV rfl (by kernel_rfl) (by decide) (by decide)) ?_
     rintro _ _ ⟨a_8, rfl, rfl⟩
     refine jF rfl (jX 2 (q := 1) (news := ([(s.getD j c0).1] : List Str).map str) (n' := (out_ ++ ([(s.getD j c0).1] : List Str)).length) (cs' := (out_ ++ ([(s.getD j c0).1] : List Str)).map str) rfl kI kI kd rfl (by' := 16) rfl rfl rfl rfl rfl (fun w hw => Src.sees (hw.see (i := 0) rfl) (oneS _)) (by (try simp only [LE]); omega) (by (try simp only [LE]); omega) (by simp only [List.length_append, List.length_take, List.length_drop, List.length_cons, List.length_nil] <;> first | rfl | omega) (by simp only [List.map_append])) ?_
     rintro _ _ ⟨a_9, c_10, rfl, rfl⟩
     refine go ?_
     exact jP [2] ⟨j + 1, a_9, c_10, (out_ ++ ([(s.getD j c0).1] : List Str)), by omega, (by first | omega | (simp only [LE]; omega)), (by rw [drop_at (getD_some (d := c0) hlt)] at hR; simp only [underL, h_1, e_4, h_7, SB] at hR; (repeat (first | rw [if_pos (by omega)] at hR | rw [if_neg (by omega)] at hR)); exact hR), EL.go, rfl, rfl⟩
   refine go ?_
   exact jP [1] ⟨j + 1, out_a, out_c, out_, by omega, (by first | omega | (simp only [LE]; omega)), (by rw [drop_at (getD_some (d := c0) hlt)] at hR; simp only [underL, h_1, e_4, h_7, SB] at hR; (repeat (first | rw [if_pos (by omega)] at hR | rw [if_neg (by omega)] at hR)); exact hR), EL.go, rfl, rfl⟩
 rw [List.drop_of_length_le (by omega)] at hR
 simp only [underL] at hR
 have hE := hR.symm
 refine go ?_
 refine jE (.inl rfl) rfl (jC (v := .slice out_a out_.length out_c) rfl) (List.Sublist.refl _) ?_
 exact ⟨out_a, out_c, out_, (by rw [← underL_nil]; exact hE), (by first | omega | (simp only [LE]; omega)), rfl, rfl⟩

theorem N_skeysUnder (sa : Option Addr) (sc : Nat) (s : List Cell) (p : Str) (hs : s.length ≤ 1000000000) (hp : p.length ≤ 1000000000) (hlong : ∀ j, j < s.length → (s.getD j c0).1.length ≤ 1000000000) :
   Ct Tryz.prog 58 [.slice sa s.length sc, str p] ([]) (fun w => Sees w (.slice sa s.length sc) 2 s.length (s.flatMap encC)) (fun v A' => ∃ r0a r0c r0, keysUnder s p = r0 ∧ r0.length ≤ s.length ∧ v = .slice r0a r0.length r0c ∧ A' = [rS r0a r0c r0]) := by
 refine Ct.intro Tryz.func58 rfl Tryz.ntmps58 (lb rfl) fun w0 hpre => ?_
 have hs_sa : Sees w0 _ _ _ _ := hpre
 refine go ?_
 refine jF rfl (jR (ps := []) (cur := #[]) kI kM kV rfl (by kernel_rfl) (by decide) (by decide)) ?_
 rintro _ _ ⟨a_1, rfl, rfl⟩
 refine go ?_
 refine jL (fun k_ e_ L_ => ∃ j : Nat, ∃ out_a : Option Addr, ∃ out_c : Nat, ∃ out_ : List Str, (j ≤ s.length) ∧ (out_.length ≤ j) ∧ (underL p (s.drop j) out_ = underL p s ([] : List Str)) ∧ EL e_ [(0, .slice sa s.length sc), (1, str p), (4, .slice none 0 0), (5, .slice out_a out_.length out_c), (6, nv j)] ∧ L_ = [rS out_a out_c out_] ∧ k_ = s.length - j) _ ⟨0, a_1, 0, ([] : List Str), by omega, (by first | omega | (simp only [LE]; omega)), rfl, EL.go, rfl, rfl⟩ ?_
 rintro _ _ _ ⟨j, out_a, out_c, out_, hj, ho, hR, ⟨_, rfl⟩, rfl, rfl⟩
 refine go ?_
 by_cases h_2 : ((j : Nat) : Int) < ((s.length : Nat) : Int)
 · have hlt : j < s.length := by omega
   have hlj := hlong j hlt
   refine go ?_
   obtain ⟨hr_3, hr_3b, -⟩ := sees_some hs_sa (by omega)
   refine go ?_
   refine jU (jY (v := str ((s.getD j c0).1)) hs_sa nM rfl kJ (atC1 (by omega))) ?_
   refine go ?_
   refine jA [] (N_begins ((s.getD j c0).1) p (by omega) (by omega)) ?_
   rintro _ _ ⟨b_6, e_4, rfl, rfl⟩
   refine go ?_
   rcases Bool.eq_false_or_eq_true (b_6) with h_7 | h_7
   · refine go ?_
     refine jU (jY (v := str ((s.getD j c0).1)) hs_sa nM rfl kJ (atC1 (by omega))) ?_
     refine jF rfl (jR (ps := [(0, str ((s.getD j c0).1))]) (cur := #[str ((s.getD j c0).1)]) kI kM kV rfl (by kernel_rfl) (by decide) (by decide)) ?_
     rintro _ _ ⟨a_8, rfl, rfl⟩
     refine jF rfl (jX 1 (q := 1) (news := ([(s.getD j c0).1] : List Str).map str) (n' := (out_ ++ ([(s.getD j c0).1] : List Str)).length) (cs' := (out_ ++ ([(s.getD j c0).1] : List Str)).map str) rfl kI kI kd rfl (by' := 16) rfl rfl rfl rfl rfl (fun w hw => Src.sees (hw.see (i := 0) rfl) (oneS _)) (by (try simp only [LE]); omega) (by (try simp only [LE]); omega) (by simp only [List.length_append, List.length_take, List.length_drop, List.length_cons, List.length_nil] <;> first | rfl | omega) (by simp only [List.map_append])) ?_
     rintro _ _ ⟨a_9, c_10, rfl, rfl⟩
     refine go ?_
     exact jP [1] ⟨j + 1, a_9, c_10, (out_ ++ ([(s.getD j c0).1] : List Str)), by omega, (by first | omega | (simp only [LE]; omega)), (by rw [drop_at (getD_some (d := c0) hlt)] at hR; simp only [underL, h_2, e_4, h_7, SB] at hR; (repeat (first | rw [if_pos (by omega)] at hR | rw [if_neg (by omega)] at hR)); exact hR), EL.go, rfl, rfl⟩
   refine go ?_
   exact jP [0] ⟨j + 1, out_a, out_c, out_, by omega, (by first | omega | (simp only [LE]; omega)), (by rw [drop_at (getD_some (d := c0) hlt)] at hR; simp only [underL, h_2, e_4, h_7, SB] at hR; (repeat (first | rw [if_pos (by omega)] at hR | rw [if_neg (by omega)] at hR)); exact hR), EL.go, rfl, rfl⟩
 rw [List.drop_of_length_le (by omega)] at hR
 simp only [underL] at hR
 have hE := hR.symm
 refine go ?_
 refine jE (.inl rfl) rfl (jC (v := .slice out_a out_.length out_c) rfl) (List.Sublist.refl _) ?_
 exact ⟨out_a, out_c, out_, (by rw [← underL_nil]; exact hE), (by first | omega | (simp only [LE]; omega)), rfl, rfl⟩

theorem N_under (p : Nat) (x : MA) (m : MS) {S T : Nat} (hk : m.ok S T) (hS : S ≤ 900000000) (hT : T ≤ 1850000000) (p_ : Str) (hp_ : p_.length ≤ 100000000) :
   Ct Tryz.prog 298 [.pointer (some ⟨p, 0, none⟩), str p_] (mb p x m :: mr x m) (fun _ => True) (fun v A' => ∃ x' m' r0a r0c r0, MS.under m p_ = (m', r0) ∧ m'.ok (S) (T + 1) ∧ okL S p_.length r0 ∧ v = .slice r0a r0.length r0c ∧ A' = mb p x' m' :: mr x' m' ++ [rS r0a r0c r0]) := by
 obtain ⟨hk0, hk1, hk2, hk3⟩ := id hk
 refine Ct.intro Tryz.func298 rfl Tryz.ntmps298 (lb rfl) fun w0 hpre => ?_
 refine go ?_
 refine jA [2] (C_addSpan x.a1 x.c1 m.r (p_ ++ [42]) (by omega)) ?_
 rintro _ _ ⟨a_1, c_2, rfl, rfl⟩
 refine go ?_
 refine jD 1 [.slice x.a0 m.s.length x.c0, .slice a_1 ((addSpan m.r (p_ ++ [42])).length) c_2, .slice x.a2 m.w.length x.c2] ?_
 refine go ?_
 refine jA [] (N_ikeysUnder x.a0 x.c0 m.s p_ (by have hl_ := hk.1; omega) (by omega)) (hpre := fun w hw => hw.see (i := 2) rfl) ?_
 rintro _ _ ⟨l_5a, l_5c, l_5, e_3, f_6, rfl, rfl⟩
 refine go ?_
 refine ju (pick_perm [2, 2, 1, 1, 0] (A := [bk p 60 [.slice x.a0 m.s.length x.c0, .slice a_1 ((addSpan m.r (p_ ++ [42])).length) c_2, .slice x.a2 m.w.length x.c2], rC x.a0 x.c0 m.s, rS a_1 c_2 (addSpan m.r (p_ ++ [42])), rS x.a2 x.c2 m.w, rS l_5a l_5c l_5]) (F := []) rfl).symm ?_
 refine jE (.inl rfl) rfl (jC (v := .slice l_5a l_5.length l_5c) rfl) (tS 5 _) ?_
 subst e_3
 exact ⟨⟨x.a0, x.c0, a_1, c_2, x.a2, x.c2⟩, (m.under p_).1, l_5a, l_5c, _, rfl, hk.under p_, keysUnder_ok hk p_, rfl, rfl⟩

theorem N_sUnder (x : MA) (m : MS) {S T : Nat} (hk : m.ok S T) (hS : S ≤ 900000000) (hT : T ≤ 1850000000) (p_ : Str) (hp_ : p_.length ≤ 100000000) :
   Ct Tryz.prog 324 [mv x m, str p_] (mr x m) (fun _ => True) (fun v A' => ∃ x' m' r0a r0c r0, MS.under m p_ = (m', r0) ∧ m'.ok (S) (T + 1) ∧ okL S p_.length r0 ∧ v = .tuple #[mv x' m', .slice r0a r0.length r0c] ∧ A' = mr x' m' ++ [rS r0a r0c r0]) := by
 obtain ⟨hk0, hk1, hk2, hk3⟩ := id hk
 refine Ct.intro Tryz.func324 rfl Tryz.ntmps324 (lb rfl) fun w0 hpre => ?_
 refine go ?_
 refine jM (mc x m) fun b_1 => ?_
 refine jG zC fun b_2 => ?_
 refine go ?_
 refine jA [] (C_sAddSpan x.a1 x.c1 m.r (p_ ++ [42]) (by omega)) (hpre := fun w hw => hw.see (i := 3) rfl) ?_
 rintro _ _ ⟨a_3, c_4, rfl, rfl⟩
 refine go ?_
 refine jD 2 [.slice x.a0 m.s.length x.c0, .slice a_3 ((addSpan m.r (p_ ++ [42])).length) c_4, .slice x.a2 m.w.length x.c2] ?_
 refine go ?_
 refine jH [2] 6 ?_
 refine go ?_
 refine jB (i := 4) ?_
 refine jI [] (N_skeysUnder x.a0 x.c0 m.s p_ (by have hl_ := hk.1; omega) (by omega) (fun j hj => Nat.le_trans (hk.2.2.2 _ (getD_mem hj)).1 (by decide))) (hpre := fun w hw => hw.see (i := 3) rfl) ?_
 rintro _ _ ⟨l_11a, l_11c, l_11, e_9, f_12, rfl, rfl⟩
 refine jB (i := 5) ?_
 refine jp 2 [.slice x.a0 m.s.length x.c0, .slice a_3 ((addSpan m.r (p_ ++ [42])).length) c_4, .slice x.a2 m.w.length x.c2] ?_
 refine go ?_
 refine ju (pick_perm [4, 1, 4, 0] (A := [rC x.a0 x.c0 m.s, rS a_3 c_4 (addSpan m.r (p_ ++ [42])), rS x.a2 x.c2 m.w, rS l_11a l_11c l_11]) (F := [bk b_2 60 [.slice x.a0 m.s.length x.c0, .slice a_3 ((addSpan m.r (p_ ++ [42])).length) c_4, .slice x.a2 m.w.length x.c2], bk b_1 60 [.slice x.a0 m.s.length x.c0, .slice a_3 ((addSpan m.r (p_ ++ [42])).length) c_4, .slice x.a2 m.w.length x.c2], rS x.a1 x.c1 m.r]) rfl).symm ?_
 refine ji (.inl rfl) rfl (js (jl 4 (vs := [.slice x.a0 m.s.length x.c0, .slice a_3 ((addSpan m.r (p_ ++ [42])).length) c_4, .slice x.a2 m.w.length x.c2]) rfl rfl Tryz.isAgg60 Tryz.sizeOf60 rfl rfl) ⟨_, rfl⟩) (jC (v := .slice l_11a l_11.length l_11c) rfl) (tS 4 _) ?_
 subst e_9
 exact ⟨⟨x.a0, x.c0, a_3, c_4, x.a2, x.c2⟩, (m.under p_).1, l_11a, l_11c, _, rfl, hk.under p_, keysUnder_ok hk p_, rfl, rfl⟩

theorem N_wipe (p : Nat) (x : MA) (m : MS) {S T : Nat} (hk : m.ok S T) (hS : S ≤ 400000000) (hT : T ≤ 1350000000) (p_ : Str) (hp_ : p_.length ≤ 100000000) :
   Ct Tryz.prog 296 [.pointer (some ⟨p, 0, none⟩), str p_] (mb p x m :: mr x m) (fun _ => True) (fun v A' => ∃ x' m', MS.wipe' m p_ = m' ∧ m'.ok (S) (T + S + 1) ∧ v = .tuple #[] ∧ A' = mb p x' m' :: mr x' m') := by
 refine Ct.intro Tryz.func296 rfl Tryz.ntmps296 (lb rfl) fun w0 hpre => ?_
 refine go ?_
 refine jA [0, 0, 0, 0] (N_under p x m hk (by omega) (by omega) p_ (by omega)) ?_
 rintro _ _ ⟨x_3, m_4, l_5a, l_5c, l_5, e_1, k_2, f_6, rfl, rfl⟩
 refine go ?_
 have hll := f_6.1
 refine jL (fun k_ e_ L_ => ∃ j : Nat, ∃ x : MA, ∃ mm : MS, (j ≤ l_5.length) ∧ (mm.ok (S) (T + 1 + j)) ∧ (MS.wipeL (l_5.drop j) mm = MS.wipeL l_5 m_4) ∧ EL e_ [(0, pv p), (8, .slice l_5a l_5.length l_5c), (9, nv l_5.length), (10, nv j)] ∧ L_ = [mb p x mm, rC x.a0 x.c0 mm.s, rS x.a1 x.c1 mm.r, rS x.a2 x.c2 mm.w, rS l_5a l_5c l_5] ∧ k_ = l_5.length - j) _ ⟨0, x_3, m_4, by omega, (k_2.mono (by omega) (by omega)), rfl, EL.go, rfl, rfl⟩ ?_
 rintro _ _ _ ⟨j, x, mm, hj, hkmm, hR, ⟨_, rfl⟩, rfl, rfl⟩
 refine go ?_
 by_cases h_7 : ((j : Nat) : Int) < ((l_5.length : Nat) : Int)
 · have hlt : j < l_5.length := by omega
   have hbj := f_6.2 j hlt
   try simp only [List.length_cons, List.length_nil] at hbj
   refine go ?_
   refine jo fun hst => ?_
   obtain ⟨hr_8, hr_8b, -⟩ := row_some 4 rfl (by omega) hst
   refine go ?_
   refine jU (jr 4 (v := str (l_5.getD j [])) rfl rfl kJ (atS (by omega))) ?_
   refine go ?_
   refine jA [0, 0, 0, 0] (N_layNil p x mm hkmm (by omega) (by omega) (l_5.getD j []) (by omega)) ?_
   rintro _ _ ⟨x_11, m_12, e_9, k_10, rfl, rfl⟩
   refine go ?_
   exact jP [0, 0, 0, 0, 0] ⟨j + 1, x_11, m_12, by omega, (k_10.mono (by omega) (by omega)), (by rw [drop_at (getD_some (d := []) hlt)] at hR; simp only [MS.wipeL, e_1, h_7, e_9, SB] at hR; (repeat (first | rw [if_pos (by omega)] at hR | rw [if_neg (by omega)] at hR)); exact hR), EL.go, rfl, rfl⟩
 rw [List.drop_of_length_le (by omega)] at hR
 simp only [MS.wipeL] at hR
 have hE := hR.symm
 refine go ?_
 exact JQ.d0 [0, 0, 0, 0] ⟨x, mm, (by simp only [MS.wipe', e_1, h_7, hE, SB]; (repeat (first | rw [if_pos (by omega)] | rw [if_neg (by omega)])); all_goals (first | rfl | simp only [SB, e_1, h_7, hE])), (hkmm.mono (by omega) (by omega)), rfl, rfl⟩

theorem M_wipe (x : MA) (m : MS) {S T : Nat} (hk : m.ok S T) (hS : S ≤ 400000000) (hT : T ≤ 1350000000) (p_ : Str) (hp_ : p_.length ≤ 100000000) :
   Ct Tryz.prog 313 [mv x m, str p_] (mr x m) (fun _ => True) (fun v A' => ∃ x' m', MS.wipe' m p_ = m' ∧ m'.ok (S) (T + S + 1) ∧ v = mv x' m' ∧ A' = mr x' m') := by
 refine Ct.intro Tryz.func313 rfl Tryz.ntmps313 (lb rfl) fun w0 hpre => ?_
 refine go ?_
 refine jM (mc x m) fun b_1 => ?_
 refine jG zC fun b_2 => ?_
 refine go ?_
 refine jA [2, 2, 2] (N_sUnder x m hk (by omega) (by omega) p_ (by omega)) ?_
 rintro _ _ ⟨x_5, m_6, l_7a, l_7c, l_7, e_3, k_4, f_8, rfl, rfl⟩
 refine go ?_
 refine jD 5 (mc x_5 m_6) ?_
 refine go ?_
 have hll := f_8.1
 refine JC.pk [5, 0, 0, 0, 0, 0] ?_
 refine jL (fun k_ e_ L_ => ∃ j : Nat, ∃ x : MA, ∃ mm : MS, (j ≤ l_7.length) ∧ (mm.ok (S) (T + 1 + j)) ∧ (MS.wipeL (l_7.drop j) mm = MS.wipeL l_7 m_6) ∧ EL e_ [(2, .pointer (some ⟨b_1, 0, none⟩)), (4, .pointer (some ⟨b_2, 0, none⟩)), (5, .slice l_7a l_7.length l_7c), (6, nv j)] ∧ L_ = [mb b_1 x mm, rC x.a0 x.c0 mm.s, rS x.a1 x.c1 mm.r, rS x.a2 x.c2 mm.w, rS l_7a l_7c l_7, bk b_2 60 zC] ∧ k_ = l_7.length - j) _ ⟨0, x_5, m_6, by omega, (k_4.mono (by omega) (by omega)), rfl, EL.go, rfl, rfl⟩ ?_
 rintro _ _ _ ⟨j, x, mm, hj, hkmm, hR, ⟨_, rfl⟩, rfl, rfl⟩
 refine go ?_
 by_cases h_9 : ((j : Nat) : Int) < ((l_7.length : Nat) : Int)
 · have hlt : j < l_7.length := by omega
   have hbj := f_8.2 j hlt
   try simp only [List.length_cons, List.length_nil] at hbj
   refine go ?_
   refine jH [0] 5 ?_
   refine go ?_
   refine JA.facts fun hst => ?_
   obtain ⟨hr_10, hr_10b, -⟩ := row_some 4 rfl (by omega) hst
   refine go ?_
   refine jB (i := 4) ?_
   refine ja rfl rfl (jm (jr 4 (v := str (l_7.getD j [])) rfl rfl kJ (atS (by omega)))) ?_
   rintro _ _ ⟨rfl, rfl⟩
   refine ⟨all_go, ?_⟩
   refine jB (i := 5) ?_
   refine kE [1, 1, 1] (N_sLayNil x mm hkmm (by omega) (by omega) (l_7.getD j []) (by omega)) ?_
   rintro _ _ ⟨x_17, m_18, e_15, k_16, rfl, rfl⟩
   refine jB (i := 6) ?_
   refine jS 3 (mc x_17 m_18) ?_
   refine go ?_
   exact jP [3, 0, 0, 0, 0, 0] ⟨j + 1, x_17, m_18, by omega, (k_16.mono (by omega) (by omega)), (by rw [drop_at (getD_some (d := []) hlt)] at hR; simp only [MS.wipeL, e_3, h_9, e_15, SB] at hR; (repeat (first | rw [if_pos (by omega)] at hR | rw [if_neg (by omega)] at hR)); exact hR), EL.go, rfl, rfl⟩
 rw [List.drop_of_length_le (by omega)] at hR
 simp only [MS.wipeL] at hR
 have hE := hR.symm
 refine go ?_
 refine jD 5 (mc x mm) ?_
 refine go ?_
 exact jJ [1, 1, 1] ⟨x, mm, (by simp only [MS.wipe', e_3, h_9, hE, SB]; (repeat (first | rw [if_pos (by omega)] | rw [if_neg (by omega)])); all_goals (first | rfl | simp only [SB, e_3, h_9, hE])), (hkmm.mono (by omega) (by omega)), rfl, rfl⟩

theorem N_makePipe (p : Nat) (x : MA) (m : MS) {S T : Nat} (hk : m.ok S T) (hS : S ≤ 300000000) (hT : T ≤ 1250000000)  :
   Ct Tryz.prog 214 [.pointer (some ⟨p, 0, none⟩)] (mb p x m :: mr x m) (fun _ => True) (fun v A' => ∃ x' m' r0 r1, MS.makePipe m = (m', r0, r1) ∧ m'.ok (S + 2) (T + 3) ∧ (0 ≤ r0 ∧ r0 ≤ 999) ∧ (0 ≤ r1 ∧ r1 ≤ 9) ∧ v = .tuple #[.int .i64 r0, .int .i64 r1] ∧ A' = mb p x' m' :: mr x' m') := by
 refine Ct.intro Tryz.func214 rfl Tryz.ntmps214 (lb rfl) fun w0 hpre => ?_
 refine go ?_
 refine jA [0, 0, 0, 0] (N_num p x m hk (by omega) (by omega) [99, 47, 112, 105, 112, 101]) ?_
 rintro _ _ ⟨x_3, m_4, n_5, e_1, k_2, f_6, rfl, rfl⟩
 refine go ?_
 by_cases h_7 : 8 ≤ n_5
 · refine go ?_
   refine ji (.inl rfl) rfl (jC (v := iv 0) rfl) (jC (v := iv 3) rfl) (List.Sublist.refl _) ?_
   exact ⟨x_3, m_4, 0, 3, (by simp only [MS.makePipe, e_1, h_7, SB]; (repeat (first | rw [if_pos (by omega)] | rw [if_neg (by omega)])); all_goals (first | rfl | simp only [SB, e_1, h_7])), (k_2.mono (by omega) (by omega)), (by first | omega | (simp only [LE]; omega)), (by first | omega | (simp only [LE]; omega)), rfl, rfl⟩
 refine go ?_
 refine jA [0, 0, 0, 0] (N_bump p x_3 m_4 k_2 (by omega) (by omega) [99, 47, 112, 105, 112, 101] (by decide)) ?_
 rintro _ _ ⟨x_10, m_11, n_12, e_8, k_9, f_13, rfl, rfl⟩
 refine go ?_
 refine jA [] (N_pipeKey n_12 [47, 111] (by omega) (show List.length ([47, 111] : Str) ≤ 2 by decide) (by omega)) ?_
 rintro _ _ ⟨u_16, e_14, f_17, rfl, rfl⟩
 refine jA [0, 0, 0, 0] (N_setNum p x_10 m_11 k_9 (by omega) (by omega) u_16 1 (by omega) (by omega)) ?_
 rintro _ _ ⟨x_20, m_21, e_18, k_19, rfl, rfl⟩
 refine go ?_
 refine ji (.inl rfl) rfl (jC (v := iv n_12) rfl) (jC (v := iv 0) rfl) (List.Sublist.refl _) ?_
 exact ⟨x_20, m_21, n_12, 0, (by simp only [MS.makePipe, e_1, h_7, e_8, e_14, e_18, SB]; (repeat (first | rw [if_pos (by omega)] | rw [if_neg (by omega)])); all_goals (first | rfl | simp only [SB, e_1, h_7, e_8, e_14, e_18])), (k_19.mono (by omega) (by omega)), (by first | omega | (simp only [LE]; omega)), (by first | omega | (simp only [LE]; omega)), rfl, rfl⟩

theorem M_makePipe (x : MA) (m : MS) {S T : Nat} (hk : m.ok S T) (hS : S ≤ 300000000) (hT : T ≤ 1250000000)  :
   Ct Tryz.prog 237 [mv x m] (mr x m) (fun _ => True) (fun v A' => ∃ x' m' r0 r1, MS.makePipe m = (m', r0, r1) ∧ m'.ok (S + 2) (T + 3) ∧ (0 ≤ r0 ∧ r0 ≤ 999) ∧ (0 ≤ r1 ∧ r1 ≤ 9) ∧ v = .tuple #[mv x' m', .int .i64 r0, .int .i64 r1] ∧ A' = mr x' m') := by
 refine Ct.intro Tryz.func237 rfl Tryz.ntmps237 (lb rfl) fun w0 hpre => ?_
 refine go ?_
 refine jM (mc x m) fun b_1 => ?_
 refine jG zC fun b_2 => ?_
 refine go ?_
 refine jA [2, 2, 2] (N_sNumAt x m hk (by omega) (by omega) [99, 47, 112, 105, 112, 101]) ?_
 rintro _ _ ⟨x_5, m_6, n_7, e_3, k_4, f_8, rfl, rfl⟩
 refine go ?_
 refine jD 4 (mc x_5 m_6) ?_
 refine go ?_
 by_cases h_9 : 8 ≤ n_7
 · refine go ?_
   refine jD 3 (mc x_5 m_6) ?_
   refine go ?_
   exact jt [0, 0, 0] ⟨x_5, m_6, 0, 3, (by simp only [MS.makePipe, e_3, h_9, SB]; (repeat (first | rw [if_pos (by omega)] | rw [if_neg (by omega)])); all_goals (first | rfl | simp only [SB, e_3, h_9])), (k_4.mono (by omega) (by omega)), (by first | omega | (simp only [LE]; omega)), (by first | omega | (simp only [LE]; omega)), rfl, rfl⟩
 refine go ?_
 refine jA [0, 0, 0] (N_sBump x_5 m_6 k_4 (by omega) (by omega) [99, 47, 112, 105, 112, 101] (by decide)) ?_
 rintro _ _ ⟨x_12, m_13, n_14, e_10, k_11, f_15, rfl, rfl⟩
 refine go ?_
 refine jD 4 (mc x_12 m_13) ?_
 refine go ?_
 refine jH [4] 5 ?_
 refine go ?_
 refine jB (i := 2) ?_
 refine jI [] (N_l08Key n_14 [47, 111] (by omega) (show List.length ([47, 111] : Str) ≤ 2 by decide) (by omega)) ?_
 rintro _ _ ⟨u_26, e_24, f_27, rfl, rfl⟩
 refine jB (i := 3) ?_
 refine jI [0, 0, 0] (N_sSetNum x_12 m_13 k_11 (by omega) (by omega) u_26 1 (by omega) (by omega)) ?_
 rintro _ _ ⟨x_34, m_35, e_32, k_33, rfl, rfl⟩
 refine jB (i := 5) ?_
 refine jf 3 (mc x_34 m_35) ?_
 refine go ?_
 exact jt [0, 0, 0] ⟨x_34, m_35, n_14, 0, (by simp only [MS.makePipe, e_3, h_9, e_10, e_24, e_32, SB]; (repeat (first | rw [if_pos (by omega)] | rw [if_neg (by omega)])); all_goals (first | rfl | simp only [SB, e_3, h_9, e_10, e_24, e_32])), (k_33.mono (by omega) (by omega)), (by first | omega | (simp only [LE]; omega)), (by first | omega | (simp only [LE]; omega)), rfl, rfl⟩

theorem N_isPipe (p : Nat) (x : MA) (m : MS) {S T : Nat} (hk : m.ok S T) (hS : S ≤ 700000000) (hT : T ≤ 1650000000) (id : Int) (hid : -9223372036854775808 ≤ id ∧ id ≤ 9223372036854775807) :
   Ct Tryz.prog 303 [.pointer (some ⟨p, 0, none⟩), .int .i64 id] (mb p x m :: mr x m) (fun _ => True) (fun v A' => ∃ x' m' r0, MS.isPipe m id = (m', r0) ∧ m'.ok (S) (T + 1) ∧ v = .bool r0 ∧ A' = mb p x' m' :: mr x' m') := by
 refine Ct.intro Tryz.func303 rfl Tryz.ntmps303 (lb rfl) fun w0 hpre => ?_
 refine go ?_
 refine jA [] (N_pipeKey id [47, 111] (by omega) (show List.length ([47, 111] : Str) ≤ 2 by decide) (by omega)) ?_
 rintro _ _ ⟨u_3, e_1, f_4, rfl, rfl⟩
 refine jA [0, 0, 0, 0] (N_num p x m hk (by omega) (by omega) u_3) ?_
 rintro _ _ ⟨x_7, m_8, n_9, e_5, k_6, f_10, rfl, rfl⟩
 refine go ?_
 refine jE (.inl rfl) rfl (jC (v := .bool (decide (n_9 = 1))) rfl) (List.Sublist.refl _) ?_
 exact ⟨x_7, m_8, (decide (n_9 = 1)), (by simp only [MS.isPipe, e_1, e_5, SB]; (repeat (first | rw [if_pos (by omega)] | rw [if_neg (by omega)])); all_goals (first | rfl | simp only [SB, e_1, e_5])), (k_6.mono (by omega) (by omega)), rfl, rfl⟩

theorem M_isPipe (x : MA) (m : MS) {S T : Nat} (hk : m.ok S T) (hS : S ≤ 700000000) (hT : T ≤ 1650000000) (id : Int) (hid : -9223372036854775808 ≤ id ∧ id ≤ 9223372036854775807) :
   Ct Tryz.prog 319 [mv x m, .int .i64 id] (mr x m) (fun _ => True) (fun v A' => ∃ x' m' r0, MS.isPipe m id = (m', r0) ∧ m'.ok (S) (T + 1) ∧ v = .tuple #[mv x' m', .bool r0] ∧ A' = mr x' m') := by
 refine Ct.intro Tryz.func319 rfl Tryz.ntmps319 (lb rfl) fun w0 hpre => ?_
 refine go ?_
 refine jM (mc x m) fun b_1 => ?_
 refine jG zC fun b_2 => ?_
 refine go ?_
 refine jH [1] 7 ?_
 refine go ?_
 refine jB (i := 2) ?_
 refine jI [] (N_l08Key id [47, 111] (by omega) (show List.length ([47, 111] : Str) ≤ 2 by decide) (by omega)) ?_
 rintro _ _ ⟨u_9, e_7, f_10, rfl, rfl⟩
 refine jB (i := 3) ?_
 refine jI [2, 2, 2] (N_sNumAt x m hk (by omega) (by omega) u_9) ?_
 rintro _ _ ⟨x_19, m_20, n_21, e_17, k_18, f_22, rfl, rfl⟩
 refine go ?_
 refine jB (i := 7) ?_
 refine jf 4 (mc x_19 m_20) ?_
 refine go ?_
 refine jD 3 (mc x_19 m_20) ?_
 refine go ?_
 exact jQ [0, 0, 0] ⟨x_19, m_20, (decide (n_21 = 1)), (by simp only [MS.isPipe, e_7, e_17, SB]; (repeat (first | rw [if_pos (by omega)] | rw [if_neg (by omega)])); all_goals (first | rfl | simp only [SB, e_7, e_17])), (k_18.mono (by omega) (by omega)), rfl, rfl⟩

theorem N_state (p : Nat) (x : MA) (m : MS) {S T : Nat} (hk : m.ok S T) (hS : S ≤ 700000000) (hT : T ≤ 1650000000) (id : Int) (hid : -9223372036854775808 ≤ id ∧ id ≤ 9223372036854775807) :
   Ct Tryz.prog 206 [.pointer (some ⟨p, 0, none⟩), .int .i64 id] (mb p x m :: mr x m) (fun _ => True) (fun v A' => ∃ x' m' r0, MS.state m id = (m', r0) ∧ m'.ok (S) (T + 1) ∧ (0 ≤ r0 ∧ r0 ≤ 999) ∧ v = .int .i64 r0 ∧ A' = mb p x' m' :: mr x' m') := by
 refine Ct.intro Tryz.func206 rfl Tryz.ntmps206 (lb rfl) fun w0 hpre => ?_
 refine go ?_
 refine jA [] (N_procKey id [47, 115] (by omega) (show List.length ([47, 115] : Str) ≤ 2 by decide) (by omega)) ?_
 rintro _ _ ⟨u_3, e_1, f_4, rfl, rfl⟩
 refine jA [0, 0, 0, 0] (N_num p x m hk (by omega) (by omega) u_3) ?_
 rintro _ _ ⟨x_7, m_8, n_9, e_5, k_6, f_10, rfl, rfl⟩
 refine go ?_
 refine jE (.inl rfl) rfl (jC (v := iv n_9) rfl) (List.Sublist.refl _) ?_
 exact ⟨x_7, m_8, n_9, (by simp only [MS.state, e_1, e_5, SB]; (repeat (first | rw [if_pos (by omega)] | rw [if_neg (by omega)])); all_goals (first | rfl | simp only [SB, e_1, e_5])), (k_6.mono (by omega) (by omega)), (by first | omega | (simp only [LE]; omega)), rfl, rfl⟩

theorem M_state (x : MA) (m : MS) {S T : Nat} (hk : m.ok S T) (hS : S ≤ 700000000) (hT : T ≤ 1650000000) (id : Int) (hid : -9223372036854775808 ≤ id ∧ id ≤ 9223372036854775807) :
   Ct Tryz.prog 229 [mv x m, .int .i64 id] (mr x m) (fun _ => True) (fun v A' => ∃ x' m' r0, MS.state m id = (m', r0) ∧ m'.ok (S) (T + 1) ∧ (0 ≤ r0 ∧ r0 ≤ 999) ∧ v = .tuple #[mv x' m', .int .i64 r0] ∧ A' = mr x' m') := by
 refine Ct.intro Tryz.func229 rfl Tryz.ntmps229 (lb rfl) fun w0 hpre => ?_
 refine go ?_
 refine jM (mc x m) fun b_1 => ?_
 refine jG zC fun b_2 => ?_
 refine go ?_
 refine jH [1] 6 ?_
 refine go ?_
 refine jB (i := 2) ?_
 refine jI [] (N_l09Key id [47, 115] (by omega) (show List.length ([47, 115] : Str) ≤ 2 by decide) (by omega)) ?_
 rintro _ _ ⟨u_9, e_7, f_10, rfl, rfl⟩
 refine jB (i := 3) ?_
 refine jI [2, 2, 2] (N_sNumAt x m hk (by omega) (by omega) u_9) ?_
 rintro _ _ ⟨x_19, m_20, n_21, e_17, k_18, f_22, rfl, rfl⟩
 refine go ?_
 refine jB (i := 6) ?_
 refine jf 3 (mc x_19 m_20) ?_
 refine go ?_
 exact jQ [0, 0, 0] ⟨x_19, m_20, n_21, (by simp only [MS.state, e_7, e_17, SB]; (repeat (first | rw [if_pos (by omega)] | rw [if_neg (by omega)])); all_goals (first | rfl | simp only [SB, e_7, e_17])), (k_18.mono (by omega) (by omega)), (by first | omega | (simp only [LE]; omega)), rfl, rfl⟩

theorem N_spawn (p : Nat) (x : MA) (m : MS) {S T : Nat} (hk : m.ok S T) (hS : S ≤ 300000000) (hT : T ≤ 1250000000) (parent : Int) (hparent : -9223372036854775808 ≤ parent ∧ parent ≤ 9223372036854775807) :
   Ct Tryz.prog 127 [.pointer (some ⟨p, 0, none⟩), .int .i64 parent] (mb p x m :: mr x m) (fun _ => True) (fun v A' => ∃ x' m' r0 r1, MS.spawn m parent = (m', r0, r1) ∧ m'.ok (S + 3) (T + 4) ∧ (0 ≤ r0 ∧ r0 ≤ 999) ∧ (0 ≤ r1 ∧ r1 ≤ 9) ∧ v = .tuple #[.int .i64 r0, .int .i64 r1] ∧ A' = mb p x' m' :: mr x' m') := by
 refine Ct.intro Tryz.func127 rfl Tryz.ntmps127 (lb rfl) fun w0 hpre => ?_
 refine go ?_
 refine jA [0, 0, 0, 0] (N_num p x m hk (by omega) (by omega) [99, 47, 112, 114, 111, 99]) ?_
 rintro _ _ ⟨x_3, m_4, n_5, e_1, k_2, f_6, rfl, rfl⟩
 refine go ?_
 by_cases h_7 : 12 ≤ n_5
 · refine go ?_
   refine ji (.inl rfl) rfl (jC (v := iv 0) rfl) (jC (v := iv 3) rfl) (List.Sublist.refl _) ?_
   exact ⟨x_3, m_4, 0, 3, (by simp only [MS.spawn, e_1, h_7, SB]; (repeat (first | rw [if_pos (by omega)] | rw [if_neg (by omega)])); all_goals (first | rfl | simp only [SB, e_1, h_7])), (k_2.mono (by omega) (by omega)), (by first | omega | (simp only [LE]; omega)), (by first | omega | (simp only [LE]; omega)), rfl, rfl⟩
 refine go ?_
 refine jA [0, 0, 0, 0] (N_bump p x_3 m_4 k_2 (by omega) (by omega) [99, 47, 112, 114, 111, 99] (by decide)) ?_
 rintro _ _ ⟨x_10, m_11, n_12, e_8, k_9, f_13, rfl, rfl⟩
 refine go ?_
 refine jA [] (N_procKey n_12 [47, 115] (by omega) (show List.length ([47, 115] : Str) ≤ 2 by decide) (by omega)) ?_
 rintro _ _ ⟨u_16, e_14, f_17, rfl, rfl⟩
 refine jA [0, 0, 0, 0] (N_setNum p x_10 m_11 k_9 (by omega) (by omega) u_16 1 (by omega) (by omega)) ?_
 rintro _ _ ⟨x_20, m_21, e_18, k_19, rfl, rfl⟩
 refine go ?_
 refine jA [] (N_procKey n_12 [47, 112] (by omega) (show List.length ([47, 112] : Str) ≤ 2 by decide) (by omega)) ?_
 rintro _ _ ⟨u_24, e_22, f_25, rfl, rfl⟩
 refine go ?_
 refine jA [0, 0, 0, 0] (N_setNum p x_20 m_21 k_19 (by omega) (by omega) u_24 parent (by omega) (by omega)) ?_
 rintro _ _ ⟨x_28, m_29, e_26, k_27, rfl, rfl⟩
 refine go ?_
 refine ji (.inl rfl) rfl (jC (v := iv n_12) rfl) (jC (v := iv 0) rfl) (List.Sublist.refl _) ?_
 exact ⟨x_28, m_29, n_12, 0, (by simp only [MS.spawn, e_1, h_7, e_8, e_14, e_18, e_22, e_26, SB]; (repeat (first | rw [if_pos (by omega)] | rw [if_neg (by omega)])); all_goals (first | rfl | simp only [SB, e_1, h_7, e_8, e_14, e_18, e_22, e_26])), (k_27.mono (by omega) (by omega)), (by first | omega | (simp only [LE]; omega)), (by first | omega | (simp only [LE]; omega)), rfl, rfl⟩

theorem M_spawn (x : MA) (m : MS) {S T : Nat} (hk : m.ok S T) (hS : S ≤ 300000000) (hT : T ≤ 1250000000) (parent : Int) (hparent : -9223372036854775808 ≤ parent ∧ parent ≤ 9223372036854775807) :
   Ct Tryz.prog 105 [mv x m, .int .i64 parent] (mr x m) (fun _ => True) (fun v A' => ∃ x' m' r0 r1, MS.spawn m parent = (m', r0, r1) ∧ m'.ok (S + 3) (T + 4) ∧ (0 ≤ r0 ∧ r0 ≤ 999) ∧ (0 ≤ r1 ∧ r1 ≤ 9) ∧ v = .tuple #[mv x' m', .int .i64 r0, .int .i64 r1] ∧ A' = mr x' m') := by
 refine Ct.intro Tryz.func105 rfl Tryz.ntmps105 (lb rfl) fun w0 hpre => ?_
 refine go ?_
 refine jM (mc x m) fun b_1 => ?_
 refine jG zC fun b_2 => ?_
 refine go ?_
 refine jA [2, 2, 2] (N_sNumAt x m hk (by omega) (by omega) [99, 47, 112, 114, 111, 99]) ?_
 rintro _ _ ⟨x_5, m_6, n_7, e_3, k_4, f_8, rfl, rfl⟩
 refine go ?_
 refine jD 4 (mc x_5 m_6) ?_
 refine go ?_
 by_cases h_9 : 12 ≤ n_7
 · refine go ?_
   refine jD 3 (mc x_5 m_6) ?_
   refine go ?_
   exact jt [0, 0, 0] ⟨x_5, m_6, 0, 3, (by simp only [MS.spawn, e_3, h_9, SB]; (repeat (first | rw [if_pos (by omega)] | rw [if_neg (by omega)])); all_goals (first | rfl | simp only [SB, e_3, h_9])), (k_4.mono (by omega) (by omega)), (by first | omega | (simp only [LE]; omega)), (by first | omega | (simp only [LE]; omega)), rfl, rfl⟩
 refine go ?_
 refine jA [0, 0, 0] (N_sBump x_5 m_6 k_4 (by omega) (by omega) [99, 47, 112, 114, 111, 99] (by decide)) ?_
 rintro _ _ ⟨x_12, m_13, n_14, e_10, k_11, f_15, rfl, rfl⟩
 refine go ?_
 refine jD 4 (mc x_12 m_13) ?_
 refine go ?_
 refine jH [4] 3 ?_
 refine go ?_
 refine jB (i := 2) ?_
 refine jI [] (N_l09Key n_14 [47, 115] (by omega) (show List.length ([47, 115] : Str) ≤ 2 by decide) (by omega)) ?_
 rintro _ _ ⟨u_22, e_20, f_23, rfl, rfl⟩
 refine jB (i := 3) ?_
 refine kE [0, 0, 0] (N_sSetNum x_12 m_13 k_11 (by omega) (by omega) u_22 1 (by omega) (by omega)) ?_
 rintro _ _ ⟨x_30, m_31, e_28, k_29, rfl, rfl⟩
 refine jB (i := 4) ?_
 refine jS 4 (mc x_30 m_31) ?_
 refine go ?_
 refine jH [4] 6 ?_
 refine go ?_
 refine jB (i := 2) ?_
 refine jI [] (N_l09Key n_14 [47, 112] (by omega) (show List.length ([47, 112] : Str) ≤ 2 by decide) (by omega)) ?_
 rintro _ _ ⟨u_46, e_44, f_47, rfl, rfl⟩
 refine jB (i := 4) ?_
 refine jI [0, 0, 0] (N_sSetNum x_30 m_31 k_29 (by omega) (by omega) u_46 parent (by omega) (by omega)) ?_
 rintro _ _ ⟨x_54, m_55, e_52, k_53, rfl, rfl⟩
 refine jB (i := 6) ?_
 refine jf 3 (mc x_54 m_55) ?_
 refine go ?_
 exact jt [0, 0, 0] ⟨x_54, m_55, n_14, 0, (by simp only [MS.spawn, e_3, h_9, e_10, e_20, e_28, e_44, e_52, SB]; (repeat (first | rw [if_pos (by omega)] | rw [if_neg (by omega)])); all_goals (first | rfl | simp only [SB, e_3, h_9, e_10, e_20, e_28, e_44, e_52])), (k_53.mono (by omega) (by omega)), (by first | omega | (simp only [LE]; omega)), (by first | omega | (simp only [LE]; omega)), rfl, rfl⟩

theorem N_end (p : Nat) (x : MA) (m : MS) {S T : Nat} (hk : m.ok S T) (hS : S ≤ 300000000) (hT : T ≤ 1250000000) (id : Int) (n : Int) (hid : -9223372036854775808 ≤ id ∧ id ≤ 9223372036854775807) (hn : -9223372036854775808 ≤ n ∧ n ≤ 9223372036854775807) :
   Ct Tryz.prog 218 [.pointer (some ⟨p, 0, none⟩), .int .i64 id, .int .i64 n] (mb p x m :: mr x m) (fun _ => True) (fun v A' => ∃ x' m' r0, MS.endProc m id n = (m', r0) ∧ m'.ok (S + 2) (T + 3) ∧ (0 ≤ r0 ∧ r0 ≤ 9) ∧ v = .int .i64 r0 ∧ A' = mb p x' m' :: mr x' m') := by
 refine Ct.intro Tryz.func218 rfl Tryz.ntmps218 (lb rfl) fun w0 hpre => ?_
 refine go ?_
 refine jA [0, 0, 0, 0] (N_state p x m hk (by omega) (by omega) id (by omega)) ?_
 rintro _ _ ⟨x_3, m_4, n_5, e_1, k_2, f_6, rfl, rfl⟩
 refine go ?_
 by_cases h_7 : n_5 = 1
 · refine go ?_
   refine jN [] (C_within n 0 100) ?_
   refine go ?_
   rcases Bool.eq_false_or_eq_true (decide (0 ≤ n) && decide (n ≤ 100)) with h_8 | h_8
   · have h_8d := h_8
     simp only [Bool.and_eq_true, Bool.and_eq_false_iff, decide_eq_true_eq, decide_eq_false_iff_not] at h_8d
     refine go ?_
     refine jA [] (N_procKey id [47, 115] (by omega) (show List.length ([47, 115] : Str) ≤ 2 by decide) (by omega)) ?_
     rintro _ _ ⟨u_11, e_9, f_12, rfl, rfl⟩
     refine jA [0, 0, 0, 0] (N_setNum p x_3 m_4 k_2 (by omega) (by omega) u_11 2 (by omega) (by omega)) ?_
     rintro _ _ ⟨x_15, m_16, e_13, k_14, rfl, rfl⟩
     refine go ?_
     refine jA [] (N_procKey id [47, 120] (by omega) (show List.length ([47, 120] : Str) ≤ 2 by decide) (by omega)) ?_
     rintro _ _ ⟨u_19, e_17, f_20, rfl, rfl⟩
     refine go ?_
     refine jA [0, 0, 0, 0] (N_setNum p x_15 m_16 k_14 (by omega) (by omega) u_19 (n + 1) (by omega) (by omega)) ?_
     rintro _ _ ⟨x_23, m_24, e_21, k_22, rfl, rfl⟩
     refine go ?_
     refine jE (.inl rfl) rfl (jC (v := iv 0) rfl) (List.Sublist.refl _) ?_
     exact ⟨x_23, m_24, 0, (by simp only [MS.endProc, e_1, h_7, h_8, e_9, e_13, e_17, e_21, SB]; (repeat (first | rw [if_pos (by omega)] | rw [if_neg (by omega)])); all_goals (first | rfl | simp only [SB, e_1, h_7, h_8, e_9, e_13, e_17, e_21])), (k_22.mono (by omega) (by omega)), (by first | omega | (simp only [LE]; omega)), rfl, rfl⟩
   have h_8d := h_8
   simp only [Bool.and_eq_true, Bool.and_eq_false_iff, decide_eq_true_eq, decide_eq_false_iff_not] at h_8d
   refine go ?_
   refine jE (.inl rfl) rfl (jC (v := iv 4) rfl) (List.Sublist.refl _) ?_
   exact ⟨x_3, m_4, 4, (by simp only [MS.endProc, e_1, h_7, h_8, SB]; (repeat (first | rw [if_pos (by omega)] | rw [if_neg (by omega)])); all_goals (first | rfl | simp only [SB, e_1, h_7, h_8])), (k_2.mono (by omega) (by omega)), (by first | omega | (simp only [LE]; omega)), rfl, rfl⟩
 refine go ?_
 refine jE (.inl rfl) rfl (jC (v := iv 2) rfl) (List.Sublist.refl _) ?_
 exact ⟨x_3, m_4, 2, (by simp only [MS.endProc, e_1, h_7, SB]; (repeat (first | rw [if_pos (by omega)] | rw [if_neg (by omega)])); all_goals (first | rfl | simp only [SB, e_1, h_7])), (k_2.mono (by omega) (by omega)), (by first | omega | (simp only [LE]; omega)), rfl, rfl⟩

theorem M_end (x : MA) (m : MS) {S T : Nat} (hk : m.ok S T) (hS : S ≤ 300000000) (hT : T ≤ 1250000000) (id : Int) (n : Int) (hid : -9223372036854775808 ≤ id ∧ id ≤ 9223372036854775807) (hn : -9223372036854775808 ≤ n ∧ n ≤ 9223372036854775807) :
   Ct Tryz.prog 327 [mv x m, .int .i64 id, .int .i64 n] (mr x m) (fun _ => True) (fun v A' => ∃ x' m' r0, MS.endProc m id n = (m', r0) ∧ m'.ok (S + 2) (T + 3) ∧ (0 ≤ r0 ∧ r0 ≤ 9) ∧ v = .tuple #[mv x' m', .int .i64 r0] ∧ A' = mr x' m') := by
 refine Ct.intro Tryz.func327 rfl Tryz.ntmps327 (lb rfl) fun w0 hpre => ?_
 refine go ?_
 refine jM (mc x m) fun b_1 => ?_
 refine jG zC fun b_2 => ?_
 refine go ?_
 refine jA [2, 2, 2] (M_state x m hk (by omega) (by omega) id (by omega)) ?_
 rintro _ _ ⟨x_5, m_6, n_7, e_3, k_4, f_8, rfl, rfl⟩
 refine go ?_
 refine jD 4 (mc x_5 m_6) ?_
 refine go ?_
 by_cases h_9 : n_7 = 1
 · refine go ?_
   refine jN [] (C_l01In n 0 100) ?_
   refine go ?_
   rcases Bool.eq_false_or_eq_true (decide (0 ≤ n) && decide (n ≤ 100)) with h_10 | h_10
   · have h_10d := h_10
     simp only [Bool.and_eq_true, Bool.and_eq_false_iff, decide_eq_true_eq, decide_eq_false_iff_not] at h_10d
     refine go ?_
     refine jH [4] 3 ?_
     refine go ?_
     refine jB (i := 2) ?_
     refine jI [] (N_l09Key id [47, 115] (by omega) (show List.length ([47, 115] : Str) ≤ 2 by decide) (by omega)) ?_
     rintro _ _ ⟨u_17, e_15, f_18, rfl, rfl⟩
     refine jB (i := 3) ?_
     refine kE [0, 0, 0] (N_sSetNum x_5 m_6 k_4 (by omega) (by omega) u_17 2 (by omega) (by omega)) ?_
     rintro _ _ ⟨x_25, m_26, e_23, k_24, rfl, rfl⟩
     refine jB (i := 4) ?_
     refine jS 4 (mc x_25 m_26) ?_
     refine go ?_
     refine jH [4] 5 ?_
     refine go ?_
     refine jB (i := 2) ?_
     refine jI [] (N_l09Key id [47, 120] (by omega) (show List.length ([47, 120] : Str) ≤ 2 by decide) (by omega)) ?_
     rintro _ _ ⟨u_41, e_39, f_42, rfl, rfl⟩
     refine jB (i := 5) ?_
     refine kE [0, 0, 0] (N_sSetNum x_25 m_26 k_24 (by omega) (by omega) u_41 (n + 1) (by omega) (by omega)) ?_
     rintro _ _ ⟨x_49, m_50, e_47, k_48, rfl, rfl⟩
     refine jB (i := 6) ?_
     refine jf 3 (mc x_49 m_50) ?_
     refine go ?_
     exact jQ [0, 0, 0] ⟨x_49, m_50, 0, (by simp only [MS.endProc, e_3, h_9, h_10, e_15, e_23, e_39, e_47, SB]; (repeat (first | rw [if_pos (by omega)] | rw [if_neg (by omega)])); all_goals (first | rfl | simp only [SB, e_3, h_9, h_10, e_15, e_23, e_39, e_47])), (k_48.mono (by omega) (by omega)), (by first | omega | (simp only [LE]; omega)), rfl, rfl⟩
   have h_10d := h_10
   simp only [Bool.and_eq_true, Bool.and_eq_false_iff, decide_eq_true_eq, decide_eq_false_iff_not] at h_10d
   refine go ?_
   refine jD 3 (mc x_5 m_6) ?_
   refine go ?_
   exact jQ [0, 0, 0] ⟨x_5, m_6, 4, (by simp only [MS.endProc, e_3, h_9, h_10, SB]; (repeat (first | rw [if_pos (by omega)] | rw [if_neg (by omega)])); all_goals (first | rfl | simp only [SB, e_3, h_9, h_10])), (k_4.mono (by omega) (by omega)), (by first | omega | (simp only [LE]; omega)), rfl, rfl⟩
 refine go ?_
 refine jD 3 (mc x_5 m_6) ?_
 refine go ?_
 exact jQ [0, 0, 0] ⟨x_5, m_6, 2, (by simp only [MS.endProc, e_3, h_9, SB]; (repeat (first | rw [if_pos (by omega)] | rw [if_neg (by omega)])); all_goals (first | rfl | simp only [SB, e_3, h_9])), (k_4.mono (by omega) (by omega)), (by first | omega | (simp only [LE]; omega)), rfl, rfl⟩

theorem N_reap (p : Nat) (x : MA) (m : MS) {S T : Nat} (hk : m.ok S T) (hS : S ≤ 300000000) (hT : T ≤ 1250000000) (parent : Int) (id : Int) (hparent : -9223372036854775808 ≤ parent ∧ parent ≤ 9223372036854775807) (hid : -9223372036854775808 ≤ id ∧ id ≤ 9223372036854775807) :
   Ct Tryz.prog 220 [.pointer (some ⟨p, 0, none⟩), .int .i64 parent, .int .i64 id] (mb p x m :: mr x m) (fun _ => True) (fun v A' => ∃ x' m' r0 r1, MS.reap m parent id = (m', r0, r1) ∧ m'.ok (S) (T + S + 5) ∧ (-1 ≤ r0 ∧ r0 ≤ 999) ∧ (0 ≤ r1 ∧ r1 ≤ 9) ∧ v = .tuple #[.int .i64 r0, .int .i64 r1] ∧ A' = mb p x' m' :: mr x' m') := by
 refine Ct.intro Tryz.func220 rfl Tryz.ntmps220 (lb rfl) fun w0 hpre => ?_
 refine go ?_
 refine jA [] (N_procKey id [47, 112] (by omega) (show List.length ([47, 112] : Str) ≤ 2 by decide) (by omega)) ?_
 rintro _ _ ⟨u_3, e_1, f_4, rfl, rfl⟩
 refine jA [0, 0, 0, 0] (N_num p x m hk (by omega) (by omega) u_3) ?_
 rintro _ _ ⟨x_7, m_8, n_9, e_5, k_6, f_10, rfl, rfl⟩
 refine go ?_
 by_cases h_11 : n_9 = 0
 · refine go ?_
   refine ji (.inl rfl) rfl (jC (v := iv 0) rfl) (jC (v := iv 2) rfl) (List.Sublist.refl _) ?_
   exact ⟨x_7, m_8, 0, 2, (by simp only [MS.reap, e_1, e_5, h_11, SB]; (repeat (first | rw [if_pos (by omega)] | rw [if_neg (by omega)])); all_goals (first | rfl | simp only [SB, e_1, e_5, h_11])), (k_6.mono (by omega) (by omega)), (by first | omega | (simp only [LE]; omega)), (by first | omega | (simp only [LE]; omega)), rfl, rfl⟩
 refine go ?_
 by_cases h_12 : n_9 = parent
 · refine go ?_
   refine jA [0, 0, 0, 0] (N_state p x_7 m_8 k_6 (by omega) (by omega) id (by omega)) ?_
   rintro _ _ ⟨x_15, m_16, n_17, e_13, k_14, f_18, rfl, rfl⟩
   refine go ?_
   by_cases h_19 : n_17 = 1
   · refine go ?_
     refine ji (.inl rfl) rfl (jC (v := iv 0) rfl) (jC (v := iv 5) rfl) (List.Sublist.refl _) ?_
     exact ⟨x_15, m_16, 0, 5, (by simp only [MS.reap, e_1, e_5, h_11, h_12, e_13, h_19, SB]; (repeat (first | rw [if_pos (by omega)] | rw [if_neg (by omega)])); all_goals (first | rfl | simp only [SB, e_1, e_5, h_11, h_12, e_13, h_19])), (k_14.mono (by omega) (by omega)), (by first | omega | (simp only [LE]; omega)), (by first | omega | (simp only [LE]; omega)), rfl, rfl⟩
   refine go ?_
   by_cases h_20 : n_17 = 2
   · refine go ?_
     refine jA [] (N_procKey id [47, 120] (by omega) (show List.length ([47, 120] : Str) ≤ 2 by decide) (by omega)) ?_
     rintro _ _ ⟨u_23, e_21, f_24, rfl, rfl⟩
     refine jA [0, 0, 0, 0] (N_num p x_15 m_16 k_14 (by omega) (by omega) u_23) ?_
     rintro _ _ ⟨x_27, m_28, n_29, e_25, k_26, f_30, rfl, rfl⟩
     refine jK (jg (c := n_29 - 1) rfl rfl (wr (by omega))) ?_
     refine go ?_
     refine jA [] (N_procKey id [47] (by omega) (show List.length ([47] : Str) ≤ 1 by decide) (by omega)) ?_
     rintro _ _ ⟨u_33, e_31, f_34, rfl, rfl⟩
     refine jA [0, 0, 0, 0] (N_wipe p x_27 m_28 k_26 (by omega) (by omega) u_33 (by omega)) ?_
     rintro _ _ ⟨x_37, m_38, e_35, k_36, rfl, rfl⟩
     refine go ?_
     refine ji (.inl rfl) rfl (jC (v := iv (n_29 - 1)) rfl) (jC (v := iv 0) rfl) (List.Sublist.refl _) ?_
     exact ⟨x_37, m_38, (n_29 - 1), 0, (by simp only [MS.reap, e_1, e_5, h_11, h_12, e_13, h_19, h_20, e_21, e_25, e_31, e_35, SB]; (repeat (first | rw [if_pos (by omega)] | rw [if_neg (by omega)])); all_goals (first | rfl | simp only [SB, e_1, e_5, h_11, h_12, e_13, h_19, h_20, e_21, e_25, e_31, e_35])), (k_36.mono (by omega) (by omega)), (by first | omega | (simp only [LE]; omega)), (by first | omega | (simp only [LE]; omega)), rfl, rfl⟩
   refine go ?_
   refine ji (.inl rfl) rfl (jC (v := iv 0) rfl) (jC (v := iv 2) rfl) (List.Sublist.refl _) ?_
   exact ⟨x_15, m_16, 0, 2, (by simp only [MS.reap, e_1, e_5, h_11, h_12, e_13, h_19, h_20, SB]; (repeat (first | rw [if_pos (by omega)] | rw [if_neg (by omega)])); all_goals (first | rfl | simp only [SB, e_1, e_5, h_11, h_12, e_13, h_19, h_20])), (k_14.mono (by omega) (by omega)), (by first | omega | (simp only [LE]; omega)), (by first | omega | (simp only [LE]; omega)), rfl, rfl⟩
 refine go ?_
 refine ji (.inl rfl) rfl (jC (v := iv 0) rfl) (jC (v := iv 2) rfl) (List.Sublist.refl _) ?_
 exact ⟨x_7, m_8, 0, 2, (by simp only [MS.reap, e_1, e_5, h_11, h_12, SB]; (repeat (first | rw [if_pos (by omega)] | rw [if_neg (by omega)])); all_goals (first | rfl | simp only [SB, e_1, e_5, h_11, h_12])), (k_6.mono (by omega) (by omega)), (by first | omega | (simp only [LE]; omega)), (by first | omega | (simp only [LE]; omega)), rfl, rfl⟩

theorem M_reap (x : MA) (m : MS) {S T : Nat} (hk : m.ok S T) (hS : S ≤ 300000000) (hT : T ≤ 1250000000) (parent : Int) (id : Int) (hparent : -9223372036854775808 ≤ parent ∧ parent ≤ 9223372036854775807) (hid : -9223372036854775808 ≤ id ∧ id ≤ 9223372036854775807) :
   Ct Tryz.prog 329 [mv x m, .int .i64 parent, .int .i64 id] (mr x m) (fun _ => True) (fun v A' => ∃ x' m' r0 r1, MS.reap m parent id = (m', r0, r1) ∧ m'.ok (S) (T + S + 5) ∧ (-1 ≤ r0 ∧ r0 ≤ 999) ∧ (0 ≤ r1 ∧ r1 ≤ 9) ∧ v = .tuple #[mv x' m', .int .i64 r0, .int .i64 r1] ∧ A' = mr x' m') := by
 refine Ct.intro Tryz.func329 rfl Tryz.ntmps329 (lb rfl) fun w0 hpre => ?_
 refine go ?_
 refine jM (mc x m) fun b_1 => ?_
 refine jG zC fun b_2 => ?_
 refine go ?_
 refine jH [1] 7 ?_
 refine go ?_
 refine jB (i := 2) ?_
 refine jI [] (N_l09Key id [47, 112] (by omega) (show List.length ([47, 112] : Str) ≤ 2 by decide) (by omega)) ?_
 rintro _ _ ⟨u_9, e_7, f_10, rfl, rfl⟩
 refine jB (i := 3) ?_
 refine jI [2, 2, 2] (N_sNumAt x m hk (by omega) (by omega) u_9) ?_
 rintro _ _ ⟨x_19, m_20, n_21, e_17, k_18, f_22, rfl, rfl⟩
 refine go ?_
 refine jB (i := 7) ?_
 refine jf 4 (mc x_19 m_20) ?_
 refine go ?_
 by_cases h_23 : n_21 = 0
 · refine go ?_
   refine jD 3 (mc x_19 m_20) ?_
   refine go ?_
   exact jt [0, 0, 0] ⟨x_19, m_20, 0, 2, (by simp only [MS.reap, e_7, e_17, h_23, SB]; (repeat (first | rw [if_pos (by omega)] | rw [if_neg (by omega)])); all_goals (first | rfl | simp only [SB, e_7, e_17, h_23])), (k_18.mono (by omega) (by omega)), (by first | omega | (simp only [LE]; omega)), (by first | omega | (simp only [LE]; omega)), rfl, rfl⟩
 refine go ?_
 by_cases h_24 : n_21 = parent
 · refine go ?_
   refine jA [0, 0, 0] (M_state x_19 m_20 k_18 (by omega) (by omega) id (by omega)) ?_
   rintro _ _ ⟨x_27, m_28, n_29, e_25, k_26, f_30, rfl, rfl⟩
   refine go ?_
   refine jD 4 (mc x_27 m_28) ?_
   refine go ?_
   by_cases h_31 : n_29 = 1
   · refine go ?_
     refine jD 3 (mc x_27 m_28) ?_
     refine go ?_
     exact jt [0, 0, 0] ⟨x_27, m_28, 0, 5, (by simp only [MS.reap, e_7, e_17, h_23, h_24, e_25, h_31, SB]; (repeat (first | rw [if_pos (by omega)] | rw [if_neg (by omega)])); all_goals (first | rfl | simp only [SB, e_7, e_17, h_23, h_24, e_25, h_31])), (k_26.mono (by omega) (by omega)), (by first | omega | (simp only [LE]; omega)), (by first | omega | (simp only [LE]; omega)), rfl, rfl⟩
   refine go ?_
   by_cases h_32 : n_29 = 2
   · refine go ?_
     refine jH [4] 7 ?_
     refine go ?_
     refine jB (i := 2) ?_
     refine jI [] (N_l09Key id [47, 120] (by omega) (show List.length ([47, 120] : Str) ≤ 2 by decide) (by omega)) ?_
     rintro _ _ ⟨u_39, e_37, f_40, rfl, rfl⟩
     refine jB (i := 3) ?_
     refine jI [0, 0, 0] (N_sNumAt x_27 m_28 k_26 (by omega) (by omega) u_39) ?_
     rintro _ _ ⟨x_49, m_50, n_51, e_47, k_48, f_52, rfl, rfl⟩
     refine go ?_
     refine jB (i := 7) ?_
     refine jf 4 (mc x_49 m_50) ?_
     refine go ?_
     refine jH [4] 6 ?_
     refine go ?_
     refine jd 5 rfl (jg (c := n_51 - 1) rfl rfl (wr (by omega))) ?_
     refine jB (i := 2) ?_
     refine jI [] (N_l09Key id [47] (by omega) (show List.length ([47] : Str) ≤ 1 by decide) (by omega)) ?_
     rintro _ _ ⟨u_67, e_65, f_68, rfl, rfl⟩
     refine jB (i := 3) ?_
     refine jI [0, 0, 0] (M_wipe x_49 m_50 k_48 (by omega) (by omega) u_67 (by omega)) ?_
     rintro _ _ ⟨x_75, m_76, e_73, k_74, rfl, rfl⟩
     refine jB (i := 6) ?_
     refine jf 3 (mc x_75 m_76) ?_
     refine go ?_
     exact jt [0, 0, 0] ⟨x_75, m_76, (n_51 - 1), 0, (by simp only [MS.reap, e_7, e_17, h_23, h_24, e_25, h_31, h_32, e_37, e_47, e_65, e_73, SB]; (repeat (first | rw [if_pos (by omega)] | rw [if_neg (by omega)])); all_goals (first | rfl | simp only [SB, e_7, e_17, h_23, h_24, e_25, h_31, h_32, e_37, e_47, e_65, e_73])), (k_74.mono (by omega) (by omega)), (by first | omega | (simp only [LE]; omega)), (by first | omega | (simp only [LE]; omega)), rfl, rfl⟩
   refine go ?_
   refine jD 3 (mc x_27 m_28) ?_
   refine go ?_
   exact jt [0, 0, 0] ⟨x_27, m_28, 0, 2, (by simp only [MS.reap, e_7, e_17, h_23, h_24, e_25, h_31, h_32, SB]; (repeat (first | rw [if_pos (by omega)] | rw [if_neg (by omega)])); all_goals (first | rfl | simp only [SB, e_7, e_17, h_23, h_24, e_25, h_31, h_32])), (k_26.mono (by omega) (by omega)), (by first | omega | (simp only [LE]; omega)), (by first | omega | (simp only [LE]; omega)), rfl, rfl⟩
 refine go ?_
 refine jD 3 (mc x_19 m_20) ?_
 refine go ?_
 exact jt [0, 0, 0] ⟨x_19, m_20, 0, 2, (by simp only [MS.reap, e_7, e_17, h_23, h_24, SB]; (repeat (first | rw [if_pos (by omega)] | rw [if_neg (by omega)])); all_goals (first | rfl | simp only [SB, e_7, e_17, h_23, h_24])), (k_18.mono (by omega) (by omega)), (by first | omega | (simp only [LE]; omega)), (by first | omega | (simp only [LE]; omega)), rfl, rfl⟩

theorem N_takeSignal (p : Nat) (x : MA) (m : MS) {S T : Nat} (hk : m.ok S T) (hS : S ≤ 300000000) (hT : T ≤ 1250000000) (id : Int) (hid : -9223372036854775808 ≤ id ∧ id ≤ 9223372036854775807) :
   Ct Tryz.prog 223 [.pointer (some ⟨p, 0, none⟩), .int .i64 id] (mb p x m :: mr x m) (fun _ => True) (fun v A' => ∃ x' m' r0 r1, MS.takeSignal m id = (m', r0, r1) ∧ m'.ok (S + 1) (T + 5) ∧ (0 ≤ r0 ∧ r0 ≤ 999) ∧ (0 ≤ r1 ∧ r1 ≤ 9) ∧ v = .tuple #[.int .i64 r0, .int .i64 r1] ∧ A' = mb p x' m' :: mr x' m') := by
 refine Ct.intro Tryz.func223 rfl Tryz.ntmps223 (lb rfl) fun w0 hpre => ?_
 refine go ?_
 refine jA [] (N_signalKey id [47, 104] (by omega) (show List.length ([47, 104] : Str) ≤ 2 by decide) (by omega)) ?_
 rintro _ _ ⟨u_3, e_1, f_4, rfl, rfl⟩
 refine jA [0, 0, 0, 0] (N_num p x m hk (by omega) (by omega) u_3) ?_
 rintro _ _ ⟨x_7, m_8, n_9, e_5, k_6, f_10, rfl, rfl⟩
 refine go ?_
 refine jA [] (N_signalKey id [47, 116] (by omega) (show List.length ([47, 116] : Str) ≤ 2 by decide) (by omega)) ?_
 rintro _ _ ⟨u_13, e_11, f_14, rfl, rfl⟩
 refine jA [0, 0, 0, 0] (N_num p x_7 m_8 k_6 (by omega) (by omega) u_13) ?_
 rintro _ _ ⟨x_17, m_18, n_19, e_15, k_16, f_20, rfl, rfl⟩
 refine go ?_
 by_cases h_21 : n_19 = n_9
 · refine go ?_
   refine ji (.inl rfl) rfl (jC (v := iv 0) rfl) (jC (v := iv 5) rfl) (List.Sublist.refl _) ?_
   exact ⟨x_17, m_18, 0, 5, (by simp only [MS.takeSignal, e_1, e_5, e_11, e_15, h_21, SB]; (repeat (first | rw [if_pos (by omega)] | rw [if_neg (by omega)])); all_goals (first | rfl | simp only [SB, e_1, e_5, e_11, e_15, h_21])), (k_16.mono (by omega) (by omega)), (by first | omega | (simp only [LE]; omega)), (by first | omega | (simp only [LE]; omega)), rfl, rfl⟩
 refine go ?_
 refine jA [] (N_signalKey id [47, 113, 47] (by omega) (show List.length ([47, 113, 47] : Str) ≤ 3 by decide) (by omega)) ?_
 rintro _ _ ⟨u_24, e_22, f_25, rfl, rfl⟩
 refine go ?_
 refine jA [] (N_keyNum u_24 (n_9 + 1) [] (Nat.le_refl _) (by omega) (show List.length ([] : Str) ≤ 0 by decide) (by omega)) ?_
 rintro _ _ ⟨u_28, e_26, f_29, rfl, rfl⟩
 refine go ?_
 refine jA [0, 0, 0, 0] (N_num p x_17 m_18 k_16 (by omega) (by omega) u_28) ?_
 rintro _ _ ⟨x_32, m_33, n_34, e_30, k_31, f_35, rfl, rfl⟩
 refine go ?_
 refine jA [0, 0, 0, 0] (N_layNil p x_32 m_33 k_31 (by omega) (by omega) u_28 (by omega)) ?_
 rintro _ _ ⟨x_38, m_39, e_36, k_37, rfl, rfl⟩
 refine go ?_
 refine jA [] (N_signalKey id [47, 104] (by omega) (show List.length ([47, 104] : Str) ≤ 2 by decide) (by omega)) ?_
 rintro _ _ ⟨u_42, e_40, f_43, rfl, rfl⟩
 have hqe_40 := e_1.symm.trans e_40
 subst hqe_40
 refine go ?_
 refine jA [0, 0, 0, 0] (N_setNum p x_38 m_39 k_37 (by omega) (by omega) u_3 (n_9 + 1) (by omega) (by omega)) ?_
 rintro _ _ ⟨x_46, m_47, e_44, k_45, rfl, rfl⟩
 refine go ?_
 refine ji (.inl rfl) rfl (jC (v := iv n_34) rfl) (jC (v := iv 0) rfl) (List.Sublist.refl _) ?_
 exact ⟨x_46, m_47, n_34, 0, (by simp only [MS.takeSignal, e_1, e_5, e_11, e_15, h_21, e_22, e_26, e_30, e_36, e_44, SB]; (repeat (first | rw [if_pos (by omega)] | rw [if_neg (by omega)])); all_goals (first | rfl | simp only [SB, e_1, e_5, e_11, e_15, h_21, e_22, e_26, e_30, e_36, e_44])), (k_45.mono (by omega) (by omega)), (by first | omega | (simp only [LE]; omega)), (by first | omega | (simp only [LE]; omega)), rfl, rfl⟩

theorem M_takeSignal (x : MA) (m : MS) {S T : Nat} (hk : m.ok S T) (hS : S ≤ 300000000) (hT : T ≤ 1250000000) (id : Int) (hid : -9223372036854775808 ≤ id ∧ id ≤ 9223372036854775807) :
   Ct Tryz.prog 241 [mv x m, .int .i64 id] (mr x m) (fun _ => True) (fun v A' => ∃ x' m' r0 r1, MS.takeSignal m id = (m', r0, r1) ∧ m'.ok (S + 1) (T + 5) ∧ (0 ≤ r0 ∧ r0 ≤ 999) ∧ (0 ≤ r1 ∧ r1 ≤ 9) ∧ v = .tuple #[mv x' m', .int .i64 r0, .int .i64 r1] ∧ A' = mr x' m') := by
 refine Ct.intro Tryz.func241 rfl Tryz.ntmps241 (lb rfl) fun w0 hpre => ?_
 refine go ?_
 refine jM (mc x m) fun b_1 => ?_
 refine jG zC fun b_2 => ?_
 refine go ?_
 refine jH [1] 7 ?_
 refine go ?_
 refine jB (i := 2) ?_
 refine jI [] (N_l10Key id [47, 104] (by omega) (show List.length ([47, 104] : Str) ≤ 2 by decide) (by omega)) ?_
 rintro _ _ ⟨u_9, e_7, f_10, rfl, rfl⟩
 refine jB (i := 3) ?_
 refine jI [2, 2, 2] (N_sNumAt x m hk (by omega) (by omega) u_9) ?_
 rintro _ _ ⟨x_19, m_20, n_21, e_17, k_18, f_22, rfl, rfl⟩
 refine go ?_
 refine jB (i := 7) ?_
 refine jf 4 (mc x_19 m_20) ?_
 refine go ?_
 refine jH [4] 7 ?_
 refine go ?_
 refine jB (i := 2) ?_
 refine jI [] (N_l10Key id [47, 116] (by omega) (show List.length ([47, 116] : Str) ≤ 2 by decide) (by omega)) ?_
 rintro _ _ ⟨u_29, e_27, f_30, rfl, rfl⟩
 refine jB (i := 3) ?_
 refine jI [0, 0, 0] (N_sNumAt x_19 m_20 k_18 (by omega) (by omega) u_29) ?_
 rintro _ _ ⟨x_39, m_40, n_41, e_37, k_38, f_42, rfl, rfl⟩
 refine go ?_
 refine jB (i := 7) ?_
 refine jf 4 (mc x_39 m_40) ?_
 refine go ?_
 by_cases h_43 : n_21 = n_41
 · refine go ?_
   refine jD 3 (mc x_39 m_40) ?_
   refine go ?_
   exact jt [0, 0, 0] ⟨x_39, m_40, 0, 5, (by simp only [MS.takeSignal, e_7, e_17, e_27, e_37, h_43, SB]; (repeat (first | rw [if_pos (by omega)] | rw [if_neg (by omega)])); all_goals (first | rfl | simp only [SB, e_7, e_17, e_27, e_37, h_43])), (k_38.mono (by omega) (by omega)), (by first | omega | (simp only [LE]; omega)), (by first | omega | (simp only [LE]; omega)), rfl, rfl⟩
 refine go ?_
 refine jH [4] 9 ?_
 refine go ?_
 refine jB (i := 4) ?_
 refine jI [] (N_l10Signal id (n_21 + 1) (by omega) (by omega)) ?_
 rintro _ _ ⟨u_50, e_48, f_51, rfl, rfl⟩
 refine jB (i := 5) ?_
 refine jI [0, 0, 0] (N_sNumAt x_39 m_40 k_38 (by omega) (by omega) u_50) ?_
 rintro _ _ ⟨x_60, m_61, n_62, e_58, k_59, f_63, rfl, rfl⟩
 refine go ?_
 refine jB (i := 9) ?_
 refine jf 4 (mc x_60 m_61) ?_
 refine go ?_
 refine jH [4] 5 ?_
 refine go ?_
 refine jB (i := 4) ?_
 refine ja rfl rfl (jO [] Tryz.call323 rfl (N_l10Signal id (n_21 + 1) (by omega) (by omega)) rfl (fun _ _ => trivial)) ?_
 rintro _ _ ⟨_, ⟨u_70, e_68, f_71, rfl, rfl⟩, rfl⟩
 have hqe_68 := e_48.symm.trans e_68
 subst hqe_68
 refine ⟨all_go, ?_⟩
 refine jB (i := 5) ?_
 refine kE [0, 0, 0] (N_sLayNil x_60 m_61 k_59 (by omega) (by omega) u_50 (by omega)) ?_
 rintro _ _ ⟨x_78, m_79, e_76, k_77, rfl, rfl⟩
 refine jB (i := 6) ?_
 refine jS 4 (mc x_78 m_79) ?_
 refine go ?_
 refine jH [4] 7 ?_
 refine go ?_
 refine jB (i := 2) ?_
 refine ja rfl rfl (jO [] Tryz.call322 rfl (N_l10Key id [47, 104] (by omega) (show List.length ([47, 104] : Str) ≤ 2 by decide) (by omega)) rfl (fun _ _ => trivial)) ?_
 rintro _ _ ⟨_, ⟨u_98, e_96, f_99, rfl, rfl⟩, rfl⟩
 have hqe_96 := e_7.symm.trans e_96
 subst hqe_96
 refine ⟨all_go, ?_⟩
 refine jB (i := 5) ?_
 refine jI [0, 0, 0] (N_sSetNum x_78 m_79 k_77 (by omega) (by omega) u_9 (n_21 + 1) (by omega) (by omega)) ?_
 rintro _ _ ⟨x_106, m_107, e_104, k_105, rfl, rfl⟩
 refine jB (i := 7) ?_
 refine jf 3 (mc x_106 m_107) ?_
 refine go ?_
 exact jt [0, 0, 0] ⟨x_106, m_107, n_62, 0, (by simp only [MS.takeSignal, e_7, e_17, e_27, e_37, h_43, e_48, e_58, e_76, e_104, SB]; (repeat (first | rw [if_pos (by omega)] | rw [if_neg (by omega)])); all_goals (first | rfl | simp only [SB, e_7, e_17, e_27, e_37, h_43, e_48, e_58, e_76, e_104])), (k_105.mono (by omega) (by omega)), (by first | omega | (simp only [LE]; omega)), (by first | omega | (simp only [LE]; omega)), rfl, rfl⟩

theorem N_send (p : Nat) (x : MA) (m : MS) {S T : Nat} (hk : m.ok S T) (hS : S ≤ 300000000) (hT : T ≤ 1250000000) (to_ : Int) (n : Int) (hto_ : -9223372036854775808 ≤ to_ ∧ to_ ≤ 9223372036854775807) (hn : -9223372036854775808 ≤ n ∧ n ≤ 9223372036854775807) :
   Ct Tryz.prog 222 [.pointer (some ⟨p, 0, none⟩), .int .i64 to_, .int .i64 n] (mb p x m :: mr x m) (fun _ => True) (fun v A' => ∃ x' m' r0, MS.send m to_ n = (m', r0) ∧ m'.ok (S + 2) (T + 5) ∧ (0 ≤ r0 ∧ r0 ≤ 9) ∧ v = .int .i64 r0 ∧ A' = mb p x' m' :: mr x' m') := by
 refine Ct.intro Tryz.func222 rfl Tryz.ntmps222 (lb rfl) fun w0 hpre => ?_
 refine go ?_
 refine jA [0, 0, 0, 0] (N_state p x m hk (by omega) (by omega) to_ (by omega)) ?_
 rintro _ _ ⟨x_3, m_4, n_5, e_1, k_2, f_6, rfl, rfl⟩
 refine go ?_
 by_cases h_7 : n_5 = 1
 · refine go ?_
   refine jN [] (C_within n 1 31) ?_
   refine go ?_
   rcases Bool.eq_false_or_eq_true (decide (1 ≤ n) && decide (n ≤ 31)) with h_8 | h_8
   · have h_8d := h_8
     simp only [Bool.and_eq_true, Bool.and_eq_false_iff, decide_eq_true_eq, decide_eq_false_iff_not] at h_8d
     refine go ?_
     refine jA [] (N_signalKey to_ [47, 116] (by omega) (show List.length ([47, 116] : Str) ≤ 2 by decide) (by omega)) ?_
     rintro _ _ ⟨u_11, e_9, f_12, rfl, rfl⟩
     refine jA [0, 0, 0, 0] (N_num p x_3 m_4 k_2 (by omega) (by omega) u_11) ?_
     rintro _ _ ⟨x_15, m_16, n_17, e_13, k_14, f_18, rfl, rfl⟩
     refine go ?_
     refine jA [] (N_signalKey to_ [47, 104] (by omega) (show List.length ([47, 104] : Str) ≤ 2 by decide) (by omega)) ?_
     rintro _ _ ⟨u_21, e_19, f_22, rfl, rfl⟩
     refine jA [0, 0, 0, 0] (N_num p x_15 m_16 k_14 (by omega) (by omega) u_21) ?_
     rintro _ _ ⟨x_25, m_26, n_27, e_23, k_24, f_28, rfl, rfl⟩
     refine go ?_
     refine jK (jg (c := n_17 - n_27) rfl rfl (wr (by omega))) ?_
     refine go ?_
     by_cases h_29 : 4 ≤ (n_17 - n_27)
     · refine go ?_
       refine jE (.inl rfl) rfl (jC (v := iv 5) rfl) (List.Sublist.refl _) ?_
       exact ⟨x_25, m_26, 5, (by simp only [MS.send, e_1, h_7, h_8, e_9, e_13, e_19, e_23, h_29, SB]; (repeat (first | rw [if_pos (by omega)] | rw [if_neg (by omega)])); all_goals (first | rfl | simp only [SB, e_1, h_7, h_8, e_9, e_13, e_19, e_23, h_29])), (k_24.mono (by omega) (by omega)), (by first | omega | (simp only [LE]; omega)), rfl, rfl⟩
     refine go ?_
     by_cases h_30 : 999 ≤ n_17
     · refine go ?_
       refine jE (.inl rfl) rfl (jC (v := iv 3) rfl) (List.Sublist.refl _) ?_
       exact ⟨x_25, m_26, 3, (by simp only [MS.send, e_1, h_7, h_8, e_9, e_13, e_19, e_23, h_29, h_30, SB]; (repeat (first | rw [if_pos (by omega)] | rw [if_neg (by omega)])); all_goals (first | rfl | simp only [SB, e_1, h_7, h_8, e_9, e_13, e_19, e_23, h_29, h_30])), (k_24.mono (by omega) (by omega)), (by first | omega | (simp only [LE]; omega)), rfl, rfl⟩
     refine go ?_
     refine jA [] (N_signalKey to_ [47, 116] (by omega) (show List.length ([47, 116] : Str) ≤ 2 by decide) (by omega)) ?_
     rintro _ _ ⟨u_33, e_31, f_34, rfl, rfl⟩
     have hqe_31 := e_9.symm.trans e_31
     subst hqe_31
     refine go ?_
     refine jA [0, 0, 0, 0] (N_setNum p x_25 m_26 k_24 (by omega) (by omega) u_11 (n_17 + 1) (by omega) (by omega)) ?_
     rintro _ _ ⟨x_37, m_38, e_35, k_36, rfl, rfl⟩
     refine go ?_
     refine jA [] (N_signalKey to_ [47, 113, 47] (by omega) (show List.length ([47, 113, 47] : Str) ≤ 3 by decide) (by omega)) ?_
     rintro _ _ ⟨u_41, e_39, f_42, rfl, rfl⟩
     refine go ?_
     refine jA [] (N_keyNum u_41 (n_17 + 1) [] (Nat.le_refl _) (by omega) (show List.length ([] : Str) ≤ 0 by decide) (by omega)) ?_
     rintro _ _ ⟨u_45, e_43, f_46, rfl, rfl⟩
     refine go ?_
     refine jA [0, 0, 0, 0] (N_setNum p x_37 m_38 k_36 (by omega) (by omega) u_45 n (by omega) (by omega)) ?_
     rintro _ _ ⟨x_49, m_50, e_47, k_48, rfl, rfl⟩
     refine go ?_
     refine jE (.inl rfl) rfl (jC (v := iv 0) rfl) (List.Sublist.refl _) ?_
     exact ⟨x_49, m_50, 0, (by simp only [MS.send, e_1, h_7, h_8, e_9, e_13, e_19, e_23, h_29, h_30, e_35, e_39, e_43, e_47, SB]; (repeat (first | rw [if_pos (by omega)] | rw [if_neg (by omega)])); all_goals (first | rfl | simp only [SB, e_1, h_7, h_8, e_9, e_13, e_19, e_23, h_29, h_30, e_35, e_39, e_43, e_47])), (k_48.mono (by omega) (by omega)), (by first | omega | (simp only [LE]; omega)), rfl, rfl⟩
   have h_8d := h_8
   simp only [Bool.and_eq_true, Bool.and_eq_false_iff, decide_eq_true_eq, decide_eq_false_iff_not] at h_8d
   refine go ?_
   refine jE (.inl rfl) rfl (jC (v := iv 4) rfl) (List.Sublist.refl _) ?_
   exact ⟨x_3, m_4, 4, (by simp only [MS.send, e_1, h_7, h_8, SB]; (repeat (first | rw [if_pos (by omega)] | rw [if_neg (by omega)])); all_goals (first | rfl | simp only [SB, e_1, h_7, h_8])), (k_2.mono (by omega) (by omega)), (by first | omega | (simp only [LE]; omega)), rfl, rfl⟩
 refine go ?_
 refine jE (.inl rfl) rfl (jC (v := iv 2) rfl) (List.Sublist.refl _) ?_
 exact ⟨x_3, m_4, 2, (by simp only [MS.send, e_1, h_7, SB]; (repeat (first | rw [if_pos (by omega)] | rw [if_neg (by omega)])); all_goals (first | rfl | simp only [SB, e_1, h_7])), (k_2.mono (by omega) (by omega)), (by first | omega | (simp only [LE]; omega)), rfl, rfl⟩

theorem M_send (x : MA) (m : MS) {S T : Nat} (hk : m.ok S T) (hS : S ≤ 300000000) (hT : T ≤ 1250000000) (to_ : Int) (n : Int) (hto_ : -9223372036854775808 ≤ to_ ∧ to_ ≤ 9223372036854775807) (hn : -9223372036854775808 ≤ n ∧ n ≤ 9223372036854775807) :
   Ct Tryz.prog 240 [mv x m, .int .i64 to_, .int .i64 n] (mr x m) (fun _ => True) (fun v A' => ∃ x' m' r0, MS.send m to_ n = (m', r0) ∧ m'.ok (S + 2) (T + 5) ∧ (0 ≤ r0 ∧ r0 ≤ 9) ∧ v = .tuple #[mv x' m', .int .i64 r0] ∧ A' = mr x' m') := by
 refine Ct.intro Tryz.func240 rfl Tryz.ntmps240 (lb rfl) fun w0 hpre => ?_
 refine go ?_
 refine jM (mc x m) fun b_1 => ?_
 refine jG zC fun b_2 => ?_
 refine go ?_
 refine jA [2, 2, 2] (M_state x m hk (by omega) (by omega) to_ (by omega)) ?_
 rintro _ _ ⟨x_5, m_6, n_7, e_3, k_4, f_8, rfl, rfl⟩
 refine go ?_
 refine jD 4 (mc x_5 m_6) ?_
 refine go ?_
 by_cases h_9 : n_7 = 1
 · refine go ?_
   refine jN [] (C_l01In n 1 31) ?_
   refine go ?_
   rcases Bool.eq_false_or_eq_true (decide (1 ≤ n) && decide (n ≤ 31)) with h_10 | h_10
   · have h_10d := h_10
     simp only [Bool.and_eq_true, Bool.and_eq_false_iff, decide_eq_true_eq, decide_eq_false_iff_not] at h_10d
     refine go ?_
     refine jH [4] 7 ?_
     refine go ?_
     refine jB (i := 2) ?_
     refine jI [] (N_l10Key to_ [47, 116] (by omega) (show List.length ([47, 116] : Str) ≤ 2 by decide) (by omega)) ?_
     rintro _ _ ⟨u_17, e_15, f_18, rfl, rfl⟩
     refine jB (i := 3) ?_
     refine jI [0, 0, 0] (N_sNumAt x_5 m_6 k_4 (by omega) (by omega) u_17) ?_
     rintro _ _ ⟨x_27, m_28, n_29, e_25, k_26, f_30, rfl, rfl⟩
     refine go ?_
     refine jB (i := 7) ?_
     refine jf 4 (mc x_27 m_28) ?_
     refine go ?_
     refine jH [4] 7 ?_
     refine go ?_
     refine jB (i := 2) ?_
     refine jI [] (N_l10Key to_ [47, 104] (by omega) (show List.length ([47, 104] : Str) ≤ 2 by decide) (by omega)) ?_
     rintro _ _ ⟨u_37, e_35, f_38, rfl, rfl⟩
     refine jB (i := 3) ?_
     refine jI [0, 0, 0] (N_sNumAt x_27 m_28 k_26 (by omega) (by omega) u_37) ?_
     rintro _ _ ⟨x_47, m_48, n_49, e_45, k_46, f_50, rfl, rfl⟩
     refine go ?_
     refine jB (i := 7) ?_
     refine jf 4 (mc x_47 m_48) ?_
     refine go ?_
     refine jK (jg (c := n_29 - n_49) rfl rfl (wr (by omega))) ?_
     refine go ?_
     by_cases h_51 : 4 ≤ (n_29 - n_49)
     · refine go ?_
       refine jD 3 (mc x_47 m_48) ?_
       refine go ?_
       exact jQ [0, 0, 0] ⟨x_47, m_48, 5, (by simp only [MS.send, e_3, h_9, h_10, e_15, e_25, e_35, e_45, h_51, SB]; (repeat (first | rw [if_pos (by omega)] | rw [if_neg (by omega)])); all_goals (first | rfl | simp only [SB, e_3, h_9, h_10, e_15, e_25, e_35, e_45, h_51])), (k_46.mono (by omega) (by omega)), (by first | omega | (simp only [LE]; omega)), rfl, rfl⟩
     refine go ?_
     by_cases h_52 : 999 ≤ n_29
     · refine go ?_
       refine jD 3 (mc x_47 m_48) ?_
       refine go ?_
       exact jQ [0, 0, 0] ⟨x_47, m_48, 3, (by simp only [MS.send, e_3, h_9, h_10, e_15, e_25, e_35, e_45, h_51, h_52, SB]; (repeat (first | rw [if_pos (by omega)] | rw [if_neg (by omega)])); all_goals (first | rfl | simp only [SB, e_3, h_9, h_10, e_15, e_25, e_35, e_45, h_51, h_52])), (k_46.mono (by omega) (by omega)), (by first | omega | (simp only [LE]; omega)), rfl, rfl⟩
     refine go ?_
     refine jH [4] 5 ?_
     refine go ?_
     refine jB (i := 2) ?_
     refine ja rfl rfl (jO [] Tryz.call322 rfl (N_l10Key to_ [47, 116] (by omega) (show List.length ([47, 116] : Str) ≤ 2 by decide) (by omega)) rfl (fun _ _ => trivial)) ?_
     rintro _ _ ⟨_, ⟨u_67, e_65, f_68, rfl, rfl⟩, rfl⟩
     have hqe_65 := e_15.symm.trans e_65
     subst hqe_65
     refine ⟨all_go, ?_⟩
     refine jB (i := 5) ?_
     refine kE [0, 0, 0] (N_sSetNum x_47 m_48 k_46 (by omega) (by omega) u_17 (n_29 + 1) (by omega) (by omega)) ?_
     rintro _ _ ⟨x_75, m_76, e_73, k_74, rfl, rfl⟩
     refine jB (i := 6) ?_
     refine jS 4 (mc x_75 m_76) ?_
     refine go ?_
     refine jH [4] 6 ?_
     refine go ?_
     refine jB (i := 4) ?_
     refine jI [] (N_l10Signal to_ (n_29 + 1) (by omega) (by omega)) ?_
     rintro _ _ ⟨u_87, e_85, f_88, rfl, rfl⟩
     refine jB (i := 6) ?_
     refine kE [0, 0, 0] (N_sSetNum x_75 m_76 k_74 (by omega) (by omega) u_87 n (by omega) (by omega)) ?_
     rintro _ _ ⟨x_95, m_96, e_93, k_94, rfl, rfl⟩
     refine jB (i := 7) ?_
     refine jf 3 (mc x_95 m_96) ?_
     refine go ?_
     exact jQ [0, 0, 0] ⟨x_95, m_96, 0, (by simp only [MS.send, e_3, h_9, h_10, e_15, e_25, e_35, e_45, h_51, h_52, e_73, e_85, e_93, SB]; (repeat (first | rw [if_pos (by omega)] | rw [if_neg (by omega)])); all_goals (first | rfl | simp only [SB, e_3, h_9, h_10, e_15, e_25, e_35, e_45, h_51, h_52, e_73, e_85, e_93])), (k_94.mono (by omega) (by omega)), (by first | omega | (simp only [LE]; omega)), rfl, rfl⟩
   have h_10d := h_10
   simp only [Bool.and_eq_true, Bool.and_eq_false_iff, decide_eq_true_eq, decide_eq_false_iff_not] at h_10d
   refine go ?_
   refine jD 3 (mc x_5 m_6) ?_
   refine go ?_
   exact jQ [0, 0, 0] ⟨x_5, m_6, 4, (by simp only [MS.send, e_3, h_9, h_10, SB]; (repeat (first | rw [if_pos (by omega)] | rw [if_neg (by omega)])); all_goals (first | rfl | simp only [SB, e_3, h_9, h_10])), (k_4.mono (by omega) (by omega)), (by first | omega | (simp only [LE]; omega)), rfl, rfl⟩
 refine go ?_
 refine jD 3 (mc x_5 m_6) ?_
 refine go ?_
 exact jQ [0, 0, 0] ⟨x_5, m_6, 2, (by simp only [MS.send, e_3, h_9, SB]; (repeat (first | rw [if_pos (by omega)] | rw [if_neg (by omega)])); all_goals (first | rfl | simp only [SB, e_3, h_9])), (k_4.mono (by omega) (by omega)), (by first | omega | (simp only [LE]; omega)), rfl, rfl⟩

theorem N_setTimer (p : Nat) (x : MA) (m : MS) {S T : Nat} (hk : m.ok S T) (hS : S ≤ 300000000) (hT : T ≤ 1250000000) (id : Int) (at_ : Int) (hid : -9223372036854775808 ≤ id ∧ id ≤ 9223372036854775807) (hat_ : -9223372036854775808 ≤ at_ ∧ at_ ≤ 9223372036854775807) :
   Ct Tryz.prog 224 [.pointer (some ⟨p, 0, none⟩), .int .i64 id, .int .i64 at_] (mb p x m :: mr x m) (fun _ => True) (fun v A' => ∃ x' m' r0, MS.setTimer m id at_ = (m', r0) ∧ m'.ok (S + 1) (T + 1) ∧ (0 ≤ r0 ∧ r0 ≤ 9) ∧ v = .int .i64 r0 ∧ A' = mb p x' m' :: mr x' m') := by
 refine Ct.intro Tryz.func224 rfl Tryz.ntmps224 (lb rfl) fun w0 hpre => ?_
 refine go ?_
 refine jN [] (C_within at_ 0 999) ?_
 refine go ?_
 rcases Bool.eq_false_or_eq_true (decide (0 ≤ at_) && decide (at_ ≤ 999)) with h_1 | h_1
 · have h_1d := h_1
   simp only [Bool.and_eq_true, Bool.and_eq_false_iff, decide_eq_true_eq, decide_eq_false_iff_not] at h_1d
   refine go ?_
   refine jA [] (N_keyNum [116, 47] id [] (show List.length ([116, 47] : Str) ≤ 2 by decide) (by omega) (show List.length ([] : Str) ≤ 0 by decide) (by omega)) ?_
   rintro _ _ ⟨u_4, e_2, f_5, rfl, rfl⟩
   refine go ?_
   refine jA [0, 0, 0, 0] (N_setNum p x m hk (by omega) (by omega) u_4 at_ (by omega) (by omega)) ?_
   rintro _ _ ⟨x_8, m_9, e_6, k_7, rfl, rfl⟩
   refine go ?_
   refine jE (.inl rfl) rfl (jC (v := iv 0) rfl) (List.Sublist.refl _) ?_
   exact ⟨x_8, m_9, 0, (by simp only [MS.setTimer, h_1, e_2, e_6, SB]; (repeat (first | rw [if_pos (by omega)] | rw [if_neg (by omega)])); all_goals (first | rfl | simp only [SB, h_1, e_2, e_6])), (k_7.mono (by omega) (by omega)), (by first | omega | (simp only [LE]; omega)), rfl, rfl⟩
 have h_1d := h_1
 simp only [Bool.and_eq_true, Bool.and_eq_false_iff, decide_eq_true_eq, decide_eq_false_iff_not] at h_1d
 refine go ?_
 refine jE (.inl rfl) rfl (jC (v := iv 4) rfl) (List.Sublist.refl _) ?_
 exact ⟨x, m, 4, (by simp only [MS.setTimer, h_1, SB]; (repeat (first | rw [if_pos (by omega)] | rw [if_neg (by omega)])); all_goals (first | rfl | simp only [SB, h_1])), (hk.mono (by omega) (by omega)), (by first | omega | (simp only [LE]; omega)), rfl, rfl⟩

theorem M_setTimer (x : MA) (m : MS) {S T : Nat} (hk : m.ok S T) (hS : S ≤ 300000000) (hT : T ≤ 1250000000) (id : Int) (at_ : Int) (hid : -9223372036854775808 ≤ id ∧ id ≤ 9223372036854775807) (hat_ : -9223372036854775808 ≤ at_ ∧ at_ ≤ 9223372036854775807) :
   Ct Tryz.prog 242 [mv x m, .int .i64 id, .int .i64 at_] (mr x m) (fun _ => True) (fun v A' => ∃ x' m' r0, MS.setTimer m id at_ = (m', r0) ∧ m'.ok (S + 1) (T + 1) ∧ (0 ≤ r0 ∧ r0 ≤ 9) ∧ v = .tuple #[mv x' m', .int .i64 r0] ∧ A' = mr x' m') := by
 refine Ct.intro Tryz.func242 rfl Tryz.ntmps242 (lb rfl) fun w0 hpre => ?_
 refine go ?_
 refine jM (mc x m) fun b_1 => ?_
 refine jG zC fun b_2 => ?_
 refine go ?_
 refine jN [] (C_l01In at_ 0 999) ?_
 refine go ?_
 rcases Bool.eq_false_or_eq_true (decide (0 ≤ at_) && decide (at_ ≤ 999)) with h_3 | h_3
 · have h_3d := h_3
   simp only [Bool.and_eq_true, Bool.and_eq_false_iff, decide_eq_true_eq, decide_eq_false_iff_not] at h_3d
   refine go ?_
   refine jH [1] 4 ?_
   refine go ?_
   refine jB (i := 2) ?_
   refine jI [] (N_sKeyNum [116, 47] id [] (show List.length ([116, 47] : Str) ≤ 2 by decide) (by omega) (show List.length ([] : Str) ≤ 0 by decide) (by omega)) ?_
   rintro _ _ ⟨u_14, e_12, f_15, rfl, rfl⟩
   refine jB (i := 4) ?_
   refine kE [2, 2, 2] (N_sSetNum x m hk (by omega) (by omega) u_14 at_ (by omega) (by omega)) ?_
   rintro _ _ ⟨x_22, m_23, e_20, k_21, rfl, rfl⟩
   refine jB (i := 5) ?_
   refine jf 3 (mc x_22 m_23) ?_
   refine go ?_
   exact jQ [0, 0, 0] ⟨x_22, m_23, 0, (by simp only [MS.setTimer, h_3, e_12, e_20, SB]; (repeat (first | rw [if_pos (by omega)] | rw [if_neg (by omega)])); all_goals (first | rfl | simp only [SB, h_3, e_12, e_20])), (k_21.mono (by omega) (by omega)), (by first | omega | (simp only [LE]; omega)), rfl, rfl⟩
 have h_3d := h_3
 simp only [Bool.and_eq_true, Bool.and_eq_false_iff, decide_eq_true_eq, decide_eq_false_iff_not] at h_3d
 refine go ?_
 refine jD 0 (mc x m) ?_
 refine go ?_
 exact jQ [2, 2, 2] ⟨x, m, 4, (by simp only [MS.setTimer, h_3, SB]; (repeat (first | rw [if_pos (by omega)] | rw [if_neg (by omega)])); all_goals (first | rfl | simp only [SB, h_3])), (hk.mono (by omega) (by omega)), (by first | omega | (simp only [LE]; omega)), rfl, rfl⟩

theorem N_kids (p : Nat) (x : MA) (m : MS) {S T : Nat} (hk : m.ok S T) (hS : S ≤ 300000000) (hT : T ≤ 1250000000) (parent : Int) (hparent : -9223372036854775808 ≤ parent ∧ parent ≤ 9223372036854775807) :
   Ct Tryz.prog 221 [.pointer (some ⟨p, 0, none⟩), .int .i64 parent] (mb p x m :: mr x m) (fun _ => True) (fun v A' => ∃ x' m' r0a r0c r0, MS.kids m parent = (m', r0) ∧ m'.ok (S) (T + S + 1) ∧ r0.length ≤ S ∧ v = .slice r0a r0.length r0c ∧ A' = mb p x' m' :: mr x' m' ++ [rI r0a r0c r0]) := by
 refine Ct.intro Tryz.func221 rfl Tryz.ntmps221 (lb rfl) fun w0 hpre => ?_
 refine go ?_
 refine jA [0, 0, 0, 0] (N_under p x m hk (by omega) (by omega) [114, 47] (by decide)) ?_
 rintro _ _ ⟨x_3, m_4, l_5a, l_5c, l_5, e_1, k_2, f_6, rfl, rfl⟩
 refine go ?_
 have hll := f_6.1
 refine JC.nilRow 3 1 ?_
 refine JC.pk [1, 1, 1, 1, 0, 0] ?_
 refine jL (fun k_ e_ L_ => ∃ j : Nat, ∃ x : MA, ∃ mm : MS, ∃ out_a : Option Addr, ∃ out_c : Nat, ∃ out_ : List Int, (j ≤ l_5.length) ∧ (mm.ok (S) (T + 1 + j)) ∧ (out_.length ≤ j) ∧ (MS.kidsL parent (l_5.drop j) mm out_ = MS.kidsL parent l_5 m_4 ([] : List Int)) ∧ EL e_ [(0, pv p), (1, iv parent), (4, .slice none 0 0), (5, .slice out_a out_.length out_c), (11, .slice l_5a l_5.length l_5c), (12, nv l_5.length), (13, nv j)] ∧ L_ = [mb p x mm, rC x.a0 x.c0 mm.s, rS x.a1 x.c1 mm.r, rS x.a2 x.c2 mm.w, rI out_a out_c out_, rS l_5a l_5c l_5] ∧ k_ = l_5.length - j) _ ⟨0, x_3, m_4, none, 0, ([] : List Int), by omega, (k_2.mono (by omega) (by omega)), (by first | omega | (simp only [LE]; omega)), rfl, EL.go, rfl, rfl⟩ ?_
 rintro _ _ _ ⟨j, x, mm, out_a, out_c, out_, hj, hkmm, ho, hR, ⟨_, rfl⟩, rfl, rfl⟩
 refine go ?_
 by_cases h_7 : ((j : Nat) : Int) < ((l_5.length : Nat) : Int)
 · have hlt : j < l_5.length := by omega
   have hbj := f_6.2 j hlt
   try simp only [List.length_cons, List.length_nil] at hbj
   refine go ?_
   refine jo fun hst => ?_
   obtain ⟨hr_8, hr_8b, -⟩ := row_some 5 rfl (by omega) hst
   refine go ?_
   refine jU (jr 5 (v := str (l_5.getD j [])) rfl rfl kJ (atS (by omega))) ?_
   refine go ?_
   refine jA [] (N_cutSuffix (l_5.getD j []) [47, 112] (by omega)) ?_
   rintro _ _ ⟨u_11, b_13, e_9, f_12, rfl, rfl⟩
   refine go ?_
   by_cases h_14 : 5 ≤ ((l_5.getD j []).length : Int)
   · refine go ?_
     rcases Bool.eq_false_or_eq_true (b_13) with h_15 | h_15
     · have hkid := cutSuf_kid e_9 h_14
       rw [h_15] at hkid
       rw [h_15] at e_9
       obtain ⟨hu, hu3⟩ := cutSuf_kidT e_9 h_14
       refine go ?_
       refine jW rfl rfl rfl (cB h_15) (jO [0, 0, 0, 0] Tryz.call248 rfl (N_num p x mm hkmm (by omega) (by omega) (l_5.getD j [])) rfl (fun _ _ => trivial)) ?_
       rintro _ _ ⟨_, ⟨x_18, m_19, n_20, e_16, k_17, f_21, rfl, rfl⟩, rfl⟩
       refine go ?_
       by_cases h_22 : n_20 = parent
       · refine go ?_
         refine jK (PO.sliceSl (i := 2) kO rfl rfl (by omega)) ?_
         refine jA [] (N_numOf (u_11.drop 2) (by first | omega | (simp only [LE]; omega))) ?_
         rintro _ _ ⟨n_25, e_23, f_26, rfl, rfl⟩
         refine jF rfl (jR (ps := [(0, iv n_25)]) (cur := #[iv n_25]) kL kS kZ rfl (by kernel_rfl) (by decide) (by decide)) ?_
         rintro _ _ ⟨a_27, rfl, rfl⟩
         refine jF rfl (jX 5 (q := 1) (news := ([n_25] : List Int).map (Value.int .i64)) (n' := (out_ ++ ([n_25] : List Int)).length) (cs' := (out_ ++ ([n_25] : List Int)).map (Value.int .i64)) rfl kL kL kl rfl (by' := 8) rfl rfl rfl rfl rfl (fun w hw => Src.sees (hw.see (i := 0) rfl) (oneI _)) (by (try simp only [LE]); omega) (by (try simp only [LE]); omega) (by simp only [List.length_append, List.length_take, List.length_drop, List.length_cons, List.length_nil] <;> first | rfl | omega) (by simp only [List.map_append])) ?_
         rintro _ _ ⟨a_28, c_29, rfl, rfl⟩
         refine go ?_
         exact jP [1, 1, 1, 1, 1, 1] ⟨j + 1, x_18, m_19, a_28, c_29, (out_ ++ ([n_25] : List Int)), by omega, (k_17.mono (by omega) (by omega)), (by first | omega | (simp only [LE]; omega)), (by rw [drop_at (getD_some (d := []) hlt)] at hR; simp only [MS.kidsL, e_1, h_7, e_9, h_14, h_15, hkid, hu, e_16, h_22, e_23, SB] at hR; (repeat (first | rw [if_pos (by omega)] at hR | rw [if_neg (by omega)] at hR)); exact hR), EL.go, rfl, rfl⟩
       refine go ?_
       exact jP [0, 0, 0, 0, 0, 0] ⟨j + 1, x_18, m_19, out_a, out_c, out_, by omega, (k_17.mono (by omega) (by omega)), (by first | omega | (simp only [LE]; omega)), (by rw [drop_at (getD_some (d := []) hlt)] at hR; simp only [MS.kidsL, e_1, h_7, e_9, h_14, h_15, hkid, hu, e_16, h_22, SB] at hR; (repeat (first | rw [if_pos (by omega)] at hR | rw [if_neg (by omega)] at hR)); exact hR), EL.go, rfl, rfl⟩
     have hkid := cutSuf_kid e_9 h_14
     rw [h_15] at hkid
     refine go ?_
     exact jP [0, 0, 0, 0, 0, 0] ⟨j + 1, x, mm, out_a, out_c, out_, by omega, (hkmm.mono (by omega) (by omega)), (by first | omega | (simp only [LE]; omega)), (by rw [drop_at (getD_some (d := []) hlt)] at hR; simp only [MS.kidsL, e_1, h_7, e_9, h_14, h_15, hkid, SB] at hR; (repeat (first | rw [if_pos (by omega)] at hR | rw [if_neg (by omega)] at hR)); exact hR), EL.go, rfl, rfl⟩
   have hkid := isKid_short h_14
   refine go ?_
   exact jP [0, 0, 0, 0, 0, 0] ⟨j + 1, x, mm, out_a, out_c, out_, by omega, (hkmm.mono (by omega) (by omega)), (by first | omega | (simp only [LE]; omega)), (by rw [drop_at (getD_some (d := []) hlt)] at hR; simp only [MS.kidsL, e_1, h_7, e_9, h_14, hkid, SB] at hR; (repeat (first | rw [if_pos (by omega)] at hR | rw [if_neg (by omega)] at hR)); exact hR), EL.go, rfl, rfl⟩
 rw [List.drop_of_length_le (by omega)] at hR
 simp only [MS.kidsL] at hR
 have hE := hR.symm
 refine go ?_
 exact jJ [0, 0, 0, 0, 0] ⟨x, mm, out_a, out_c, out_, (by simp only [MS.kids, e_1, h_7, hE, SB]; (repeat (first | rw [if_pos (by omega)] | rw [if_neg (by omega)])); all_goals (first | rfl | simp only [SB, e_1, h_7, hE])), (hkmm.mono (by omega) (by omega)), (by first | omega | (simp only [LE]; omega)), rfl, rfl⟩

theorem M_kids (x : MA) (m : MS) {S T : Nat} (hk : m.ok S T) (hS : S ≤ 300000000) (hT : T ≤ 1250000000) (parent : Int) (hparent : -9223372036854775808 ≤ parent ∧ parent ≤ 9223372036854775807) :
   Ct Tryz.prog 330 [mv x m, .int .i64 parent] (mr x m) (fun _ => True) (fun v A' => ∃ x' m' r0a r0c r0, MS.kids m parent = (m', r0) ∧ m'.ok (S) (T + S + 1) ∧ r0.length ≤ S ∧ v = .tuple #[mv x' m', .slice r0a r0.length r0c] ∧ A' = mr x' m' ++ [rI r0a r0c r0]) := by
 refine Ct.intro Tryz.func330 rfl Tryz.ntmps330 (lb rfl) fun w0 hpre => ?_
 refine go ?_
 refine jM (mc x m) fun b_1 => ?_
 refine jG zC fun b_2 => ?_
 refine go ?_
 refine jA [2, 2, 2] (N_sUnder x m hk (by omega) (by omega) [114, 47] (by decide)) ?_
 rintro _ _ ⟨x_5, m_6, l_7a, l_7c, l_7, e_3, k_4, f_8, rfl, rfl⟩
 refine go ?_
 refine jD 5 (mc x_5 m_6) ?_
 refine go ?_
 refine jF rfl (jR (ps := []) (cur := #[]) kL kS kZ rfl (by kernel_rfl) (by decide) (by decide)) ?_
 rintro _ _ ⟨a_9, rfl, rfl⟩
 refine go ?_
 have hll := f_8.1
 refine JC.pk [6, 1, 1, 1, 0, 0, 0] ?_
 refine jL (fun k_ e_ L_ => ∃ j : Nat, ∃ x : MA, ∃ mm : MS, ∃ out_a : Option Addr, ∃ out_c : Nat, ∃ out_ : List Int, (j ≤ l_7.length) ∧ (mm.ok (S) (T + 1 + j)) ∧ (out_.length ≤ j) ∧ (MS.kidsL parent (l_7.drop j) mm out_ = MS.kidsL parent l_7 m_6 ([] : List Int)) ∧ EL e_ [(1, iv parent), (2, .pointer (some ⟨b_1, 0, none⟩)), (4, .pointer (some ⟨b_2, 0, none⟩)), (5, .slice none 0 0), (6, .slice l_7a l_7.length l_7c), (7, .slice out_a out_.length out_c), (8, nv j)] ∧ L_ = [mb b_1 x mm, rC x.a0 x.c0 mm.s, rS x.a1 x.c1 mm.r, rS x.a2 x.c2 mm.w, rI out_a out_c out_, rS l_7a l_7c l_7, bk b_2 60 zC] ∧ k_ = l_7.length - j) _ ⟨0, x_5, m_6, a_9, 0, ([] : List Int), by omega, (k_4.mono (by omega) (by omega)), (by first | omega | (simp only [LE]; omega)), rfl, EL.go, rfl, rfl⟩ ?_
 rintro _ _ _ ⟨j, x, mm, out_a, out_c, out_, hj, hkmm, ho, hR, ⟨_, rfl⟩, rfl, rfl⟩
 refine go ?_
 by_cases h_10 : ((j : Nat) : Int) < ((l_7.length : Nat) : Int)
 · have hlt : j < l_7.length := by omega
   have hbj := f_8.2 j hlt
   try simp only [List.length_cons, List.length_nil] at hbj
   refine go ?_
   refine jo fun hst => ?_
   obtain ⟨hr_11, hr_11b, -⟩ := row_some 5 rfl (by omega) hst
   refine go ?_
   refine jU (jr 5 (v := str (l_7.getD j [])) rfl rfl kJ (atS (by omega))) ?_
   refine go ?_
   by_cases h_12 : ((l_7.getD j []).length : Int) < 5
   · have hkid := isKid_short' h_12
     refine go ?_
     exact jP [0, 0, 0, 0, 0, 0, 0] ⟨j + 1, x, mm, out_a, out_c, out_, by omega, (hkmm.mono (by omega) (by omega)), (by first | omega | (simp only [LE]; omega)), (by rw [drop_at (getD_some (d := []) hlt)] at hR; simp only [MS.kidsL, drop_take2, e_3, h_10, h_12, hkid, SB] at hR; (repeat (first | rw [if_pos (by omega)] at hR | rw [if_neg (by omega)] at hR)); exact hR), EL.go, rfl, rfl⟩
   refine go ?_
   refine jW rfl rfl rfl (cB (dF h_12)) (jm (LO.pure (jg (c := ((((l_7.getD j []).length) - 2 : Nat) : Int)) rfl rfl (wr (by omega))))) ?_
   rintro _ _ ⟨rfl, rfl⟩
   refine jW rfl rfl rfl (cB (dF h_12)) (jm (LO.pure (PO.sliceSl (i := (((l_7.getD j []).length) - 2)) kO rfl rfl (by omega)))) ?_
   rintro _ _ ⟨rfl, rfl⟩
   refine go ?_
   by_cases h_13 : ((l_7.getD j []).drop (((l_7.getD j []).length) - 2)) = [47, 112]
   · have hkid := isKid_yes (by omega) h_13
     refine go ?_
     refine jA [1, 1, 1] (N_sNumAt x mm hkmm (by omega) (by omega) (l_7.getD j [])) ?_
     rintro _ _ ⟨x_16, m_17, n_18, e_14, k_15, f_19, rfl, rfl⟩
     refine go ?_
     refine jD 3 (mc x_16 m_17) ?_
     refine go ?_
     by_cases h_20 : n_18 = parent
     · refine go ?_
       refine jK (jg (c := ((((l_7.getD j []).length) - 2 : Nat) : Int)) rfl rfl (wr (by omega))) <| jK (PO.sliceS (i := 2) (j := (((l_7.getD j []).length) - 2)) kO rfl rfl rfl (by omega) (by omega)) ?_
       refine jA [] (N_sNumOf (((l_7.getD j []).drop 2).take ((((l_7.getD j []).length) - 2) - 2)) (by first | omega | (simp only [LE]; omega))) ?_
       rintro _ _ ⟨n_23, e_21, f_24, rfl, rfl⟩
       refine jF rfl (jR (ps := [(0, iv n_23)]) (cur := #[iv n_23]) kL kS kZ rfl (by kernel_rfl) (by decide) (by decide)) ?_
       rintro _ _ ⟨a_25, rfl, rfl⟩
       refine jF rfl (jX 5 (q := 1) (news := ([n_23] : List Int).map (Value.int .i64)) (n' := (out_ ++ ([n_23] : List Int)).length) (cs' := (out_ ++ ([n_23] : List Int)).map (Value.int .i64)) rfl kL kL kl rfl (by' := 8) rfl rfl rfl rfl rfl (fun w hw => Src.sees (hw.see (i := 0) rfl) (oneI _)) (by (try simp only [LE]); omega) (by (try simp only [LE]); omega) (by simp only [List.length_append, List.length_take, List.length_drop, List.length_cons, List.length_nil] <;> first | rfl | omega) (by simp only [List.map_append])) ?_
       rintro _ _ ⟨a_26, c_27, rfl, rfl⟩
       refine go ?_
       exact jP [4, 1, 1, 1, 1, 1, 1] ⟨j + 1, x_16, m_17, a_26, c_27, (out_ ++ ([n_23] : List Int)), by omega, (k_15.mono (by omega) (by omega)), (by first | omega | (simp only [LE]; omega)), (by rw [drop_at (getD_some (d := []) hlt)] at hR; simp only [MS.kidsL, drop_take2, e_3, h_10, h_12, h_13, hkid, e_14, h_20, e_21, SB] at hR; (repeat (first | rw [if_pos (by omega)] at hR | rw [if_neg (by omega)] at hR)); exact hR), EL.go, rfl, rfl⟩
     refine go ?_
     exact jP [3, 0, 0, 0, 0, 0, 0] ⟨j + 1, x_16, m_17, out_a, out_c, out_, by omega, (k_15.mono (by omega) (by omega)), (by first | omega | (simp only [LE]; omega)), (by rw [drop_at (getD_some (d := []) hlt)] at hR; simp only [MS.kidsL, drop_take2, e_3, h_10, h_12, h_13, hkid, e_14, h_20, SB] at hR; (repeat (first | rw [if_pos (by omega)] at hR | rw [if_neg (by omega)] at hR)); exact hR), EL.go, rfl, rfl⟩
   have hkid := isKid_no h_13
   refine go ?_
   exact jP [0, 0, 0, 0, 0, 0, 0] ⟨j + 1, x, mm, out_a, out_c, out_, by omega, (hkmm.mono (by omega) (by omega)), (by first | omega | (simp only [LE]; omega)), (by rw [drop_at (getD_some (d := []) hlt)] at hR; simp only [MS.kidsL, drop_take2, e_3, h_10, h_12, h_13, hkid, SB] at hR; (repeat (first | rw [if_pos (by omega)] at hR | rw [if_neg (by omega)] at hR)); exact hR), EL.go, rfl, rfl⟩
 rw [List.drop_of_length_le (by omega)] at hR
 simp only [MS.kidsL, drop_take2] at hR
 have hE := hR.symm
 refine go ?_
 refine jD 6 (mc x mm) ?_
 refine go ?_
 exact jQ [1, 1, 1, 1] ⟨x, mm, out_a, out_c, out_, (by simp only [MS.kids, e_3, h_10, hE, SB]; (repeat (first | rw [if_pos (by omega)] | rw [if_neg (by omega)])); all_goals (first | rfl | simp only [SB, e_3, h_10, hE])), (hkmm.mono (by omega) (by omega)), (by first | omega | (simp only [LE]; omega)), rfl, rfl⟩
end Go.Proofs.YthlfmbbaomdciaaGreatDoor
