/-
Texts of the walk, joined: what each one proves stands at its theorems.
-/
import Derived.Test.YthlfmbbaomdciaaGreatDoorB0S09MACH
set_option linter.unusedSimpArgs false
set_option linter.unusedVariables false
set_option linter.unnecessarySimpa false
set_option maxHeartbeats 4000000
set_option maxRecDepth 4000
namespace Go.Proofs.YthlfmbbaomdciaaGreatDoor
open Go Go.RowKit
attribute [local irreducible] JL JC JQ JO LO PO JA JX Ct
theorem C_l01In (n lo hi : Int) :
   Ct Tryz.prog 153 [.int .i64 n, .int .i64 lo, .int .i64 hi] [] (fun _ => True) (fun v A' => v = .bool (decide (lo ≤ n) && decide (n ≤ hi)) ∧ A' = []) := by
 refine Ct.intro Tryz.func153 rfl Tryz.ntmps153 (lb rfl) fun w0 hpre => ?_
 refine go ?_
 by_cases h_1 : lo ≤ n
 · refine go ?_
   refine jE (.inl rfl) rfl (jC (v := .bool (decide (n ≤ hi))) rfl) (List.nil_sublist _) ?_
   refine ⟨?_, rfl⟩
   simp_all <;> omega
 refine go ?_
 refine jE (.inl rfl) rfl (jC (v := .bool false) rfl) (List.nil_sublist _) ?_
 refine ⟨?_, rfl⟩
 simp_all <;> omega

theorem C_sKeyOk (key : Str) (hk : key.length ≤ 1000000000000) :
   Ct Tryz.prog 152 [str key] [] (fun _ => True) (fun v A' => v = .bool (keyOk key) ∧ A' = []) := by
 refine Ct.intro Tryz.func152 rfl Tryz.ntmps152 (lb rfl) fun w0 hpre => ?_
 refine go ?_
 refine jL (fun k_ e_ L_ => ∃ j : Nat, (j ≤ key.length) ∧ (∀ i, i < j → i < key.length → keyByte (key.getD i 0) = true) ∧ EL e_ [(0, str key), (3, nv j)] ∧ L_ = [] ∧ k_ = key.length - j) _ ⟨0, by omega, (fun i hi => absurd hi (Nat.not_lt_zero i)), EL.go, rfl, rfl⟩ ?_
 rintro _ _ _ ⟨j, hj, hN, ⟨_, rfl⟩, rfl, rfl⟩
 refine go ?_
 by_cases h_1 : ((j : Nat) : Int) < (key.length : Int)
 · refine go ?_
   have hu_2 := UInt8.toNat_lt (key.getD j 0)
   refine jK (PO.convI (c := ((key.getD j 0).toNat : Int)) kU kW rfl (wr (by omega))) ?_
   refine jN [] (C_l01In ((key.getD j 0).toNat : Int) 33 126) ?_
   refine go ?_
   rcases Bool.eq_false_or_eq_true (decide (33 ≤ ((key.getD j 0).toNat : Int)) && decide (((key.getD j 0).toNat : Int) ≤ 126)) with h_3 | h_3
   · have h_3d := h_3
     simp only [Bool.and_eq_true, Bool.and_eq_false_iff, decide_eq_true_eq, decide_eq_false_iff_not] at h_3d
     refine go ?_
     have hu_4 := UInt8.toNat_lt (key.getD j 0)
     refine go ?_
     by_cases h_5 : ((key.getD j 0).toNat : Int) = 42
     · refine go ?_
       refine jE (.inl rfl) rfl (jC (v := .bool false) rfl) (List.nil_sublist _) ?_
       refine ⟨?_, rfl⟩
       rw [keyOk_bad (j := j) (by omega) (by simp only [keyByte, Bool.and_eq_true, Bool.and_eq_false_iff, decide_eq_true_eq, decide_eq_false_iff_not, Bool.not_eq_true', Bool.not_eq_false']; omega)]
     refine go ?_
     refine jV (key.length - (j + 1)) (by omega) ⟨j + 1, by omega, (fun i hi hl => if h : i = j then h ▸ (by simp only [keyByte, Bool.and_eq_true, Bool.and_eq_false_iff, decide_eq_true_eq, decide_eq_false_iff_not, Bool.not_eq_true', Bool.not_eq_false']; omega : keyByte (key.getD j 0) = true) else hN i (by omega) hl), EL.go, rfl, rfl⟩
   have h_3d := h_3
   simp only [Bool.and_eq_true, Bool.and_eq_false_iff, decide_eq_true_eq, decide_eq_false_iff_not] at h_3d
   refine go ?_
   refine jE (.inl rfl) rfl (jC (v := .bool false) rfl) (List.nil_sublist _) ?_
   refine ⟨?_, rfl⟩
   rw [keyOk_bad (j := j) (by omega) (by simp only [keyByte, Bool.and_eq_true, Bool.and_eq_false_iff, decide_eq_true_eq, decide_eq_false_iff_not, Bool.not_eq_true', Bool.not_eq_false']; omega)]
 refine go ?_
 refine jN [] (C_l01In (key.length : Int) 1 40) ?_
 refine go ?_
 refine jE (.inl rfl) rfl (jC (v := .bool (decide (1 ≤ (key.length : Int)) && decide ((key.length : Int) ≤ 40))) rfl) (List.nil_sublist _) ?_
 refine ⟨?_, rfl⟩
 rw [keyOk_good (j := j) (by omega) hN]
 exact cB (by congr 1 <;> exact decide_eq_decide.2 (by omega))

theorem C_sGetKey (a : Option Addr) (c : Nat) (s : List Cell) (key : Str) (hn : s.length ≤ 1000000000000) :
   Ct Tryz.prog 204 [.slice a s.length c, str key] [] (fun w_ => Sees w_ (.slice a s.length c) 2 s.length (s.flatMap encC)) (fun v A' => v = str (getKey s key) ∧ A' = []) := by
 refine Ct.intro Tryz.func204 rfl Tryz.ntmps204 (lb rfl) fun w0 hpre => ?_
 have hs_a : Sees w0 _ _ _ _ := hpre
 refine go ?_
 refine jL (fun k_ e_ L_ => ∃ j : Nat, (j ≤ s.length) ∧ (getKey (s.drop j) key = getKey s key) ∧ EL e_ [(0, .slice a s.length c), (1, str key), (5, nv j)] ∧ L_ = [] ∧ k_ = s.length - j) _ ⟨0, by omega, rfl, EL.go, rfl, rfl⟩ ?_
 rintro _ _ _ ⟨j, hj, hR, ⟨_, rfl⟩, rfl, rfl⟩
 refine go ?_
 by_cases h_1 : ((j : Nat) : Int) < ((s.length : Nat) : Int)
 · have hlt : j < s.length := by omega
   refine go ?_
   obtain ⟨hr_2, hr_2b, -⟩ := sees_some hs_a (by omega)
   refine go ?_
   refine jU (jY (v := str ((s.getD j c0).1)) hs_a nM rfl kJ (atC1 (by omega))) ?_
   refine go ?_
   by_cases h_3 : ((s.getD j c0).1) = key
   · have hk := h_3
     refine go ?_
     refine jU (jY (v := str ((s.getD j c0).2)) hs_a nM rfl kJ (atC2 (by omega))) ?_
     refine go ?_
     refine jE (.inl rfl) rfl (jC (v := str ((s.getD j c0).2)) rfl) (List.nil_sublist _) ?_
     refine ⟨?_, rfl⟩
     rw [drop_at (getD_some (d := c0) hlt), getKey, if_pos hk] at hR
     rw [← hR]
   have hk := h_3
   refine go ?_
   refine jV (s.length - (j + 1)) (by omega) ⟨j + 1, by omega, (by rw [drop_at (getD_some (d := c0) hlt), getKey, if_neg hk] at hR; exact hR), EL.go, rfl, rfl⟩
 refine go ?_
 refine jE (.inl rfl) rfl (jC (v := str []) rfl) (List.nil_sublist _) ?_
 refine ⟨?_, rfl⟩
 rw [List.drop_of_length_le (by omega)] at hR
 rw [← hR]
 rfl

theorem C_sPutKey (a : Option Addr) (c : Nat) (s : List Cell) (key val : Str) (hn : s.length ≤ 100000000000) (hk_ : key.length ≤ 1000000000000) :
   Ct Tryz.prog 125 [.slice a s.length c, str key, str val] [] (fun w_ => Sees w_ (.slice a s.length c) 2 s.length (s.flatMap encC)) (fun v A' => ∃ a' c', v = .slice a' (putKey s key val).length c' ∧ A' = [.row (.slice a' (putKey s key val).length c') 130 2 (putKey s key val).length ((putKey s key val).flatMap encC)]) := by
 refine Ct.intro Tryz.func125 rfl Tryz.ntmps125 (lb rfl) fun w0 hpre => ?_
 have hs_a : Sees w0 _ _ _ _ := hpre
 refine go ?_
 refine jF rfl (jR (ps := []) (cur := #[]) kK kP kq rfl (by kernel_rfl) (by decide) (by decide)) ?_
 rintro _ _ ⟨a_1, rfl, rfl⟩
 refine go ?_
 refine jN [] (C_sKeyOk key (by omega)) ?_
 refine go ?_
 rcases Bool.eq_false_or_eq_true (keyOk key) with h_2 | h_2
 · have hkey := h_2
   refine go ?_
   by_cases h_3 : 60 < (val.length : Int)
   · refine go ?_
     refine jF rfl (jX 0 (q := s.length) (news := s.flatMap encC) (n' := s.length) (cs' := s.flatMap encC) rfl kK kK ko rfl (by' := 32) rfl rfl rfl rfl rfl (fun w hw => Src.sees (hw.seeOut_ hs_a nM) (oneC _)) (by (try simp only [LE]); omega) (by (try simp only [LE]); omega) (by (try simp only [List.length_take, List.length_drop]); first | rfl | omega) rfl) ?_
     rintro _ _ ⟨a_4, c_5, rfl, rfl⟩
     refine go ?_
     refine jE (.inl rfl) rfl (jC (v := .slice a_4 s.length c_5) rfl) (List.Sublist.refl _) ?_
     have he := (putKey_bad2 (by omega) : putKey s key val = _)
     exact ⟨_, _, by rw [he] <;> rfl, by rw [he] <;> rfl⟩
   refine go ?_
   refine jL (fun k_ e_ L_ => ∃ j : Nat, ∃ xa : Option Addr, ∃ xc : Nat, ∃ o_ : List Cell, ∃ done : Bool, (j ≤ s.length) ∧ (o_.length ≤ 2 * j) ∧ (o_ ++ putL key val done (s.drop j) = putKey s key val) ∧ EL e_ [(0, .slice a s.length c), (1, str key), (2, str val), (6, .slice none 0 0), (7, .slice xa o_.length xc), (8, .bool done), (9, nv j)] ∧ L_ = [Res.row (.slice xa o_.length xc) 130 2 o_.length (o_.flatMap encC)] ∧ k_ = s.length - j) _ ⟨0, a_1, 0, [], (decide (val = [])), by omega, (by simp), (putL_put hkey (by omega)), EL.go, rfl, rfl⟩ ?_
   rintro _ _ _ ⟨j, xa, xc, o_, done, hj, hl, hR, ⟨_, rfl⟩, rfl, rfl⟩
   refine go ?_
   by_cases h_6 : ((j : Nat) : Int) < ((s.length : Nat) : Int)
   · have hlt : j < s.length := by omega
     refine go ?_
     rcases Bool.eq_false_or_eq_true (done) with h_7 | h_7
     · have hd := h_7
       refine go ?_
       obtain ⟨hr_8, hr_8b, -⟩ := sees_some hs_a (by omega)
       refine go ?_
       refine jU (jY (v := str ((s.getD j c0).1)) hs_a nM rfl kJ (atC1 (by omega))) ?_
       refine go ?_
       by_cases h_9 : ((s.getD j c0).1) = key
       · have hk := h_9
         refine go ?_
         exact jP [0] ⟨j + 1, xa, xc, o_, done, by omega, (by (try simp only [List.length_append, List.length_cons, List.length_nil]); omega), (by rw [putL_step hlt] at hR; simp only [hd, hk, Bool.not_true, Bool.not_false, Bool.true_and, Bool.false_and, Bool.or_true, Bool.true_or, Bool.or_false, Bool.false_or, if_true, if_false, Bool.false_eq_true, List.nil_append, List.append_nil, List.append_assoc] at hR ⊢; exact hR), EL.go, rfl, rfl⟩
       have hk := h_9
       refine go ?_
       refine jU (jj (vs := [str ((s.getD j c0).1), str ((s.getD j c0).2)]) hs_a nM rfl Tryz.isAgg130 kP (atC (by omega)) rfl (by decide)) ?_
       refine jF rfl (jR (ps := [(0, .agg #[str ((s.getD j c0).1), str ((s.getD j c0).2)])]) (cur := #[str ((s.getD j c0).1), str ((s.getD j c0).2)]) kK kP kq rfl (by kernel_rfl) (by decide) (by decide)) ?_
       rintro _ _ ⟨a_10, rfl, rfl⟩
       refine jF rfl (jX 1 (q := 1) (news := ([((s.getD j c0).1, (s.getD j c0).2)] : List Cell).flatMap encC) (n' := (o_ ++ ([((s.getD j c0).1, (s.getD j c0).2)] : List Cell)).length) (cs' := (o_ ++ ([((s.getD j c0).1, (s.getD j c0).2)] : List Cell)).flatMap encC) rfl kK kK ko rfl (by' := 32) rfl rfl rfl rfl rfl (fun w hw => Src.sees (hw.see (i := 0) rfl) (oneC _)) (by (try simp only [LE]); omega) (by (try simp only [LE]); omega) (by simp only [List.length_append, List.length_take, List.length_drop, List.length_cons, List.length_nil] <;> first | rfl | omega) (by simp only [List.flatMap_append])) ?_
       rintro _ _ ⟨a_11, c_12, rfl, rfl⟩
       refine go ?_
       exact jP [1] ⟨j + 1, a_11, c_12, (o_ ++ ([((s.getD j c0).1, (s.getD j c0).2)] : List Cell)), done, by omega, (by (try simp only [List.length_append, List.length_cons, List.length_nil]); omega), (by rw [putL_step hlt] at hR; simp only [hd, hk, Bool.not_true, Bool.not_false, Bool.true_and, Bool.false_and, Bool.or_true, Bool.true_or, Bool.or_false, Bool.false_or, if_true, if_false, Bool.false_eq_true, List.nil_append, List.append_nil, List.append_assoc] at hR ⊢; exact hR), EL.go, rfl, rfl⟩
     have hd := h_7
     refine go ?_
     obtain ⟨hr_13, hr_13b, -⟩ := sees_some hs_a (by omega)
     refine go ?_
     refine jW rfl rfl rfl (cB (cN h_7)) (jm (jY (v := str ((s.getD j c0).1)) hs_a nM rfl kJ (atC1 (by omega)))) ?_
     rintro _ _ ⟨rfl, rfl⟩
     refine go ?_
     rcases Bool.eq_false_or_eq_true (!Op.bytesLess ((s.getD j c0).1) key && !decide (((s.getD j c0).1) = key)) with h_14 | h_14
     · have h_14d := h_14
       simp only [Bool.and_eq_true, Bool.and_eq_false_iff, decide_eq_true_eq, decide_eq_false_iff_not] at h_14d
       have hg : gtrB (s.getD j c0).1 key = true := h_14
       refine go ?_
       refine jK (je (ps := [(0, str key), (1, str val)]) (cs := [str key, str val]) rfl (by kernel_rfl)) ?_
       refine jF rfl (jR (ps := [(0, .agg #[str key, str val])]) (cur := #[str key, str val]) kK kP kq rfl (by kernel_rfl) (by decide) (by decide)) ?_
       rintro _ _ ⟨a_15, rfl, rfl⟩
       refine jF rfl (jX 1 (q := 1) (news := ([(key, val)] : List Cell).flatMap encC) (n' := (o_ ++ ([(key, val)] : List Cell)).length) (cs' := (o_ ++ ([(key, val)] : List Cell)).flatMap encC) rfl kK kK ko rfl (by' := 32) rfl rfl rfl rfl rfl (fun w hw => Src.sees (hw.see (i := 0) rfl) (oneC _)) (by (try simp only [LE]); omega) (by (try simp only [LE]); omega) (by simp only [List.length_append, List.length_take, List.length_drop, List.length_cons, List.length_nil] <;> first | rfl | omega) (by simp only [List.flatMap_append])) ?_
       rintro _ _ ⟨a_16, c_17, rfl, rfl⟩
       refine go ?_
       refine jU (jY (v := str ((s.getD j c0).1)) hs_a nM rfl kJ (atC1 (by omega))) ?_
       refine go ?_
       by_cases h_18 : ((s.getD j c0).1) = key
       · have hk := h_18
         have hg2 : gtrB key key = true := hk ▸ hg
         refine go ?_
         exact jP [1] ⟨j + 1, a_16, c_17, (o_ ++ ([(key, val)] : List Cell)), true, by omega, (by (try simp only [List.length_append, List.length_cons, List.length_nil]); omega), (by rw [putL_step hlt] at hR; simp only [hd, hg, hg2, hk, Bool.not_true, Bool.not_false, Bool.true_and, Bool.false_and, Bool.or_true, Bool.true_or, Bool.or_false, Bool.false_or, if_true, if_false, Bool.false_eq_true, List.nil_append, List.append_nil, List.append_assoc] at hR ⊢; exact hR), EL.go, rfl, rfl⟩
       have hk := h_18
       refine go ?_
       refine jU (jj (vs := [str ((s.getD j c0).1), str ((s.getD j c0).2)]) hs_a nM rfl Tryz.isAgg130 kP (atC (by omega)) rfl (by decide)) ?_
       refine jF rfl (jR (ps := [(0, .agg #[str ((s.getD j c0).1), str ((s.getD j c0).2)])]) (cur := #[str ((s.getD j c0).1), str ((s.getD j c0).2)]) kK kP kq rfl (by kernel_rfl) (by decide) (by decide)) ?_
       rintro _ _ ⟨a_19, rfl, rfl⟩
       refine jF rfl (jX 2 (q := 1) (news := ([((s.getD j c0).1, (s.getD j c0).2)] : List Cell).flatMap encC) (n' := ((o_ ++ ([(key, val)] : List Cell)) ++ ([((s.getD j c0).1, (s.getD j c0).2)] : List Cell)).length) (cs' := ((o_ ++ ([(key, val)] : List Cell)) ++ ([((s.getD j c0).1, (s.getD j c0).2)] : List Cell)).flatMap encC) rfl kK kK ko rfl (by' := 32) rfl rfl rfl rfl rfl (fun w hw => Src.sees (hw.see (i := 0) rfl) (oneC _)) (by (try simp only [LE]); omega) (by (try simp only [LE]); omega) (by simp only [List.length_append, List.length_take, List.length_drop, List.length_cons, List.length_nil] <;> first | rfl | omega) (by simp only [List.flatMap_append])) ?_
       rintro _ _ ⟨a_20, c_21, rfl, rfl⟩
       refine go ?_
       exact jP [2] ⟨j + 1, a_20, c_21, ((o_ ++ ([(key, val)] : List Cell)) ++ ([((s.getD j c0).1, (s.getD j c0).2)] : List Cell)), true, by omega, (by (try simp only [List.length_append, List.length_cons, List.length_nil]); omega), (by rw [putL_step hlt] at hR; simp only [hd, hg, hk, Bool.not_true, Bool.not_false, Bool.true_and, Bool.false_and, Bool.or_true, Bool.true_or, Bool.or_false, Bool.false_or, if_true, if_false, Bool.false_eq_true, List.nil_append, List.append_nil, List.append_assoc] at hR ⊢; exact hR), EL.go, rfl, rfl⟩
     have h_14d := h_14
     simp only [Bool.and_eq_true, Bool.and_eq_false_iff, decide_eq_true_eq, decide_eq_false_iff_not] at h_14d
     have hg : gtrB (s.getD j c0).1 key = false := h_14
     refine go ?_
     refine jU (jY (v := str ((s.getD j c0).1)) hs_a nM rfl kJ (atC1 (by omega))) ?_
     refine go ?_
     by_cases h_22 : ((s.getD j c0).1) = key
     · have hk := h_22
       have hg2 : gtrB key key = false := hk ▸ hg
       refine go ?_
       exact jP [0] ⟨j + 1, xa, xc, o_, done, by omega, (by (try simp only [List.length_append, List.length_cons, List.length_nil]); omega), (by rw [putL_step hlt] at hR; simp only [hd, hg, hg2, hk, Bool.not_true, Bool.not_false, Bool.true_and, Bool.false_and, Bool.or_true, Bool.true_or, Bool.or_false, Bool.false_or, if_true, if_false, Bool.false_eq_true, List.nil_append, List.append_nil, List.append_assoc] at hR ⊢; exact hR), EL.go, rfl, rfl⟩
     have hk := h_22
     refine go ?_
     refine jU (jj (vs := [str ((s.getD j c0).1), str ((s.getD j c0).2)]) hs_a nM rfl Tryz.isAgg130 kP (atC (by omega)) rfl (by decide)) ?_
     refine jF rfl (jR (ps := [(0, .agg #[str ((s.getD j c0).1), str ((s.getD j c0).2)])]) (cur := #[str ((s.getD j c0).1), str ((s.getD j c0).2)]) kK kP kq rfl (by kernel_rfl) (by decide) (by decide)) ?_
     rintro _ _ ⟨a_23, rfl, rfl⟩
     refine jF rfl (jX 1 (q := 1) (news := ([((s.getD j c0).1, (s.getD j c0).2)] : List Cell).flatMap encC) (n' := (o_ ++ ([((s.getD j c0).1, (s.getD j c0).2)] : List Cell)).length) (cs' := (o_ ++ ([((s.getD j c0).1, (s.getD j c0).2)] : List Cell)).flatMap encC) rfl kK kK ko rfl (by' := 32) rfl rfl rfl rfl rfl (fun w hw => Src.sees (hw.see (i := 0) rfl) (oneC _)) (by (try simp only [LE]); omega) (by (try simp only [LE]); omega) (by simp only [List.length_append, List.length_take, List.length_drop, List.length_cons, List.length_nil] <;> first | rfl | omega) (by simp only [List.flatMap_append])) ?_
     rintro _ _ ⟨a_24, c_25, rfl, rfl⟩
     refine go ?_
     exact jP [1] ⟨j + 1, a_24, c_25, (o_ ++ ([((s.getD j c0).1, (s.getD j c0).2)] : List Cell)), done, by omega, (by (try simp only [List.length_append, List.length_cons, List.length_nil]); omega), (by rw [putL_step hlt] at hR; simp only [hd, hg, hk, Bool.not_true, Bool.not_false, Bool.true_and, Bool.false_and, Bool.or_true, Bool.true_or, Bool.or_false, Bool.false_or, if_true, if_false, Bool.false_eq_true, List.nil_append, List.append_nil, List.append_assoc] at hR ⊢; exact hR), EL.go, rfl, rfl⟩
   refine go ?_
   rcases Bool.eq_false_or_eq_true (done) with h_26 | h_26
   · have hd := h_26
     refine go ?_
     refine jE (.inl rfl) rfl (jC (v := .slice xa o_.length xc) rfl) (List.Sublist.refl _) ?_
     rw [List.drop_of_length_le (by omega), putL] at hR
     simp only [hd, Bool.not_true, Bool.not_false, Bool.true_and, Bool.false_and, Bool.or_true, Bool.true_or, Bool.or_false, Bool.false_or, if_true, if_false, Bool.false_eq_true, List.nil_append, List.append_nil, List.append_assoc] at hR
     exact ⟨_, _, by rw [← hR] <;> rfl, by rw [← hR] <;> rfl⟩
   have hd := h_26
   refine go ?_
   refine jK (je (ps := [(0, str key), (1, str val)]) (cs := [str key, str val]) rfl (by kernel_rfl)) ?_
   refine jF rfl (jR (ps := [(0, .agg #[str key, str val])]) (cur := #[str key, str val]) kK kP kq rfl (by kernel_rfl) (by decide) (by decide)) ?_
   rintro _ _ ⟨a_27, rfl, rfl⟩
   refine jF rfl (jX 1 (q := 1) (news := ([(key, val)] : List Cell).flatMap encC) (n' := (o_ ++ ([(key, val)] : List Cell)).length) (cs' := (o_ ++ ([(key, val)] : List Cell)).flatMap encC) rfl kK kK ko rfl (by' := 32) rfl rfl rfl rfl rfl (fun w hw => Src.sees (hw.see (i := 0) rfl) (oneC _)) (by (try simp only [LE]); omega) (by (try simp only [LE]); omega) (by simp only [List.length_append, List.length_take, List.length_drop, List.length_cons, List.length_nil] <;> first | rfl | omega) (by simp only [List.flatMap_append])) ?_
   rintro _ _ ⟨a_28, c_29, rfl, rfl⟩
   refine go ?_
   refine ju (pick_perm [1] (A := [Res.row (.slice a_28 ((o_ ++ ([(key, val)] : List Cell)).length) c_29) 130 2 ((o_ ++ ([(key, val)] : List Cell)).length) ((o_ ++ ([(key, val)] : List Cell)).flatMap encC)]) (F := [Res.row (.slice a_27 1 1) 130 2 1 (([(key, val)] : List Cell).flatMap encC)]) rfl).symm ?_
   refine jE (.inl rfl) rfl (jC (v := .slice a_28 ((o_ ++ ([(key, val)] : List Cell)).length) c_29) rfl) (tS 1 _) ?_
   rw [List.drop_of_length_le (by omega), putL] at hR
   simp only [hd, Bool.not_true, Bool.not_false, Bool.true_and, Bool.false_and, Bool.or_true, Bool.true_or, Bool.or_false, Bool.false_or, if_true, if_false, Bool.false_eq_true, List.nil_append, List.append_nil, List.append_assoc] at hR
   exact ⟨_, _, by rw [← hR] <;> rfl, by rw [← hR] <;> rfl⟩
 refine go ?_
 refine jF rfl (jX 0 (q := s.length) (news := s.flatMap encC) (n' := s.length) (cs' := s.flatMap encC) rfl kK kK ko rfl (by' := 32) rfl rfl rfl rfl rfl (fun w hw => Src.sees (hw.seeOut_ hs_a nM) (oneC _)) (by (try simp only [LE]); omega) (by (try simp only [LE]); omega) (by (try simp only [List.length_take, List.length_drop]); first | rfl | omega) rfl) ?_
 rintro _ _ ⟨a_30, c_31, rfl, rfl⟩
 refine go ?_
 refine jE (.inl rfl) rfl (jC (v := .slice a_30 s.length c_31) rfl) (List.Sublist.refl _) ?_
 have he := (putKey_bad1 h_2 : putKey s key val = _)
 exact ⟨_, _, by rw [he] <;> rfl, by rw [he] <;> rfl⟩

theorem C_l02Put (a : Option Addr) (c : Nat) (l : List Str) (x : Str) (hn : l.length ≤ 100000000000) :
   Ct Tryz.prog 266 [.slice a l.length c, str x] [] (fun w_ => Sees w_ (.slice a l.length c) 1 l.length (l.map str)) (fun v A' => (v = .slice a l.length c ∧ addSpan l x = l ∧ A' = []) ∨ ∃ a' c', v = .slice a' (addSpan l x).length c' ∧ A' = [.row (.slice a' (addSpan l x).length c') 9 1 (addSpan l x).length ((addSpan l x).map str)]) := by
 refine Ct.intro Tryz.func266 rfl Tryz.ntmps266 (lb rfl) fun w0 hpre => ?_
 have hs_a : Sees w0 _ _ _ _ := hpre
 refine go ?_
 refine jL (fun k_ e_ L_ => ∃ j : Nat, (j ≤ l.length) ∧ (∀ i, i < j → geqB (l.getD i []) x = false) ∧ EL e_ [(0, .slice a l.length c), (1, str x), (4, .slice none 0 0), (5, nv j)] ∧ L_ = [] ∧ k_ = l.length - j) _ ⟨0, by omega, (fun i hi => absurd hi (Nat.not_lt_zero i)), EL.go, rfl, rfl⟩ ?_
 rintro _ _ _ ⟨j, hj, hN, ⟨_, rfl⟩, rfl, rfl⟩
 refine go ?_
 by_cases h_1 : ((j : Nat) : Int) < ((l.length : Nat) : Int)
 · have hlt : j < l.length := by omega
   refine go ?_
   obtain ⟨hr_2, hr_2b, -⟩ := sees_some hs_a (by omega)
   refine go ?_
   refine jW rfl rfl rfl (cB (dT h_1)) (jm (jY (v := str (l.getD j [])) hs_a nM rfl kJ (atS (by omega)))) ?_
   rintro _ _ ⟨rfl, rfl⟩
   refine go ?_
   rcases Bool.eq_false_or_eq_true (Op.bytesLess (l.getD j []) x) with h_3 | h_3
   · have hls := h_3
     refine go ?_
     refine jV (l.length - (j + 1)) (by omega) ⟨j + 1, by omega, (fun i hi => if h : i = j then h ▸ (by rw [geqB, hls]; rfl) else hN i (by omega)), EL.go, rfl, rfl⟩
   have hls := h_3
   have hge : geqB (l.getD j []) x = true := by rw [geqB, hls]; rfl
   refine go ?_
   refine jW rfl rfl rfl (cB (dT h_1)) (jm (jY (v := str (l.getD j [])) hs_a nM rfl kJ (atS (by omega)))) ?_
   rintro _ _ ⟨rfl, rfl⟩
   refine go ?_
   by_cases h_4 : (l.getD j []) = x
   · have hex := h_4
     refine go ?_
     refine jE (.inl rfl) rfl (jC (v := .slice a l.length c) rfl) (List.nil_sublist _) ?_
     exact .inl ⟨rfl, addSpan_put_same hlt hN hge hex, rfl⟩
   have hex := h_4
   refine go ?_
   refine jF rfl (jR (ps := []) (cur := #[]) kI kM kV rfl (by kernel_rfl) (by decide) (by decide)) ?_
   rintro _ _ ⟨a_5, rfl, rfl⟩
   refine go ?_
   obtain ⟨hf_6m, hf_6x, hf_6s, hf_6l⟩ := sees_fits hs_a
   refine jK (PO.sliceVh (j := j) kI kM hf_6s rfl rfl (by omega)) ?_
   refine jF rfl (jX 0 (q := j) (news := (l.take j).map str) (n' := (l.take j).length) (cs' := (l.take j).map str) rfl kI kI kd rfl (by' := 16) rfl rfl rfl rfl rfl (fun w hw => Src.sees (hiS (hw.seeOut_ hs_a nM) j (by omega)) (oneS _)) (by (try simp only [LE]); omega) (by (try simp only [LE]); omega) (by (try simp only [List.length_take, List.length_drop]); first | rfl | omega) rfl) ?_
   rintro _ _ ⟨a_7, c_8, rfl, rfl⟩
   refine go ?_
   refine jF rfl (jR (ps := [(0, str x)]) (cur := #[str x]) kI kM kV rfl (by kernel_rfl) (by decide) (by decide)) ?_
   rintro _ _ ⟨a_9, rfl, rfl⟩
   refine jF rfl (jX 1 (q := 1) (news := ([x] : List Str).map str) (n' := (l.take j ++ ([x] : List Str)).length) (cs' := (l.take j ++ ([x] : List Str)).map str) rfl kI kI kd rfl (by' := 16) rfl rfl rfl rfl rfl (fun w hw => Src.sees (hw.see (i := 0) rfl) (oneS _)) (by (try simp only [LE]); omega) (by (try simp only [LE]); omega) (by simp only [List.length_append, List.length_take, List.length_drop, List.length_cons, List.length_nil] <;> first | rfl | omega) (by simp only [List.map_append])) ?_
   rintro _ _ ⟨a_10, c_11, rfl, rfl⟩
   refine go ?_
   refine jK (PO.sliceVl (i := j) kI kM hf_6s rfl rfl (by omega)) ?_
   refine jF rfl (jX 1 (q := (l.length - j)) (news := ((l.drop j).take (l.length - j)).map str) (n' := ((l.take j ++ ([x] : List Str)) ++ (l.drop j).take (l.length - j)).length) (cs' := ((l.take j ++ ([x] : List Str)) ++ (l.drop j).take (l.length - j)).map str) rfl kI kI kd rfl (by' := 16) rfl rfl rfl rfl rfl (fun w hw => Src.sees (subS (hw.seeOut_ hs_a nM) j l.length (by omega) (by omega)) (oneS _)) (by (try simp only [LE]); omega) (by (try simp only [LE]); omega) (by simp only [List.length_append, List.length_take, List.length_drop, List.length_cons, List.length_nil] <;> first | rfl | omega) (by simp only [List.map_append])) ?_
   rintro _ _ ⟨a_12, c_13, rfl, rfl⟩
   refine go ?_
   refine ju (pick_perm [1] (A := [Res.row (.slice a_12 (((l.take j ++ ([x] : List Str)) ++ (l.drop j).take (l.length - j)).length) c_13) 9 1 (((l.take j ++ ([x] : List Str)) ++ (l.drop j).take (l.length - j)).length) (((l.take j ++ ([x] : List Str)) ++ (l.drop j).take (l.length - j)).map str)]) (F := [Res.row (.slice a_9 1 1) 9 1 1 (([x] : List Str).map str)]) rfl).symm ?_
   refine jE (.inl rfl) rfl (jC (v := .slice a_12 (((l.take j ++ ([x] : List Str)) ++ (l.drop j).take (l.length - j)).length) c_13) rfl) (tS 1 _) ?_
   have he := addSpan_put_ins hlt hN hge hex
   exact .inr ⟨_, _, by rw [← he] <;> rfl, by rw [← he] <;> rfl⟩
 refine go ?_
 refine jF rfl (jR (ps := []) (cur := #[]) kI kM kV rfl (by kernel_rfl) (by decide) (by decide)) ?_
 rintro _ _ ⟨a_14, rfl, rfl⟩
 refine go ?_
 obtain ⟨hf_15m, hf_15x, hf_15s, hf_15l⟩ := sees_fits hs_a
 refine jK (PO.sliceVh (j := j) kI kM hf_15s rfl rfl (by omega)) ?_
 refine jF rfl (jX 0 (q := j) (news := (l.take j).map str) (n' := (l.take j).length) (cs' := (l.take j).map str) rfl kI kI kd rfl (by' := 16) rfl rfl rfl rfl rfl (fun w hw => Src.sees (hiS (hw.seeOut_ hs_a nM) j (by omega)) (oneS _)) (by (try simp only [LE]); omega) (by (try simp only [LE]); omega) (by (try simp only [List.length_take, List.length_drop]); first | rfl | omega) rfl) ?_
 rintro _ _ ⟨a_16, c_17, rfl, rfl⟩
 refine go ?_
 refine jF rfl (jR (ps := [(0, str x)]) (cur := #[str x]) kI kM kV rfl (by kernel_rfl) (by decide) (by decide)) ?_
 rintro _ _ ⟨a_18, rfl, rfl⟩
 refine jF rfl (jX 1 (q := 1) (news := ([x] : List Str).map str) (n' := (l.take j ++ ([x] : List Str)).length) (cs' := (l.take j ++ ([x] : List Str)).map str) rfl kI kI kd rfl (by' := 16) rfl rfl rfl rfl rfl (fun w hw => Src.sees (hw.see (i := 0) rfl) (oneS _)) (by (try simp only [LE]); omega) (by (try simp only [LE]); omega) (by simp only [List.length_append, List.length_take, List.length_drop, List.length_cons, List.length_nil] <;> first | rfl | omega) (by simp only [List.map_append])) ?_
 rintro _ _ ⟨a_19, c_20, rfl, rfl⟩
 refine go ?_
 refine jK (PO.sliceVl (i := j) kI kM hf_15s rfl rfl (by omega)) ?_
 refine jF rfl (jX 1 (q := (l.length - j)) (news := ((l.drop j).take (l.length - j)).map str) (n' := ((l.take j ++ ([x] : List Str)) ++ (l.drop j).take (l.length - j)).length) (cs' := ((l.take j ++ ([x] : List Str)) ++ (l.drop j).take (l.length - j)).map str) rfl kI kI kd rfl (by' := 16) rfl rfl rfl rfl rfl (fun w hw => Src.sees (subS (hw.seeOut_ hs_a nM) j l.length (by omega) (by omega)) (oneS _)) (by (try simp only [LE]); omega) (by (try simp only [LE]); omega) (by simp only [List.length_append, List.length_take, List.length_drop, List.length_cons, List.length_nil] <;> first | rfl | omega) (by simp only [List.map_append])) ?_
 rintro _ _ ⟨a_21, c_22, rfl, rfl⟩
 refine go ?_
 refine ju (pick_perm [1] (A := [Res.row (.slice a_21 (((l.take j ++ ([x] : List Str)) ++ (l.drop j).take (l.length - j)).length) c_22) 9 1 (((l.take j ++ ([x] : List Str)) ++ (l.drop j).take (l.length - j)).length) (((l.take j ++ ([x] : List Str)) ++ (l.drop j).take (l.length - j)).map str)]) (F := [Res.row (.slice a_18 1 1) 9 1 1 (([x] : List Str).map str)]) rfl).symm ?_
 refine jE (.inl rfl) rfl (jC (v := .slice a_21 (((l.take j ++ ([x] : List Str)) ++ (l.drop j).take (l.length - j)).length) c_22) rfl) (tS 1 _) ?_
 have he := addSpan_put_end (by omega) hj hN
 exact .inr ⟨_, _, by rw [← he] <;> rfl, by rw [← he] <;> rfl⟩

theorem C_sAddSpan (a : Option Addr) (c : Nat) (l : List Str) (x : Str) (hn : l.length ≤ 10000000000) :
   Ct Tryz.prog 203 [.slice a l.length c, str x] [] (fun w_ => Sees w_ (.slice a l.length c) 1 l.length (l.map str)) (fun v A' => ∃ a' c', v = .slice a' (addSpan l x).length c' ∧ A' = [.row (.slice a' (addSpan l x).length c') 9 1 (addSpan l x).length ((addSpan l x).map str)]) := by
 refine Ct.intro Tryz.func203 rfl Tryz.ntmps203 (lb rfl) fun w0 hpre => ?_
 have hs_a : Sees w0 _ _ _ _ := hpre
 refine go ?_
 refine jF rfl (jR (ps := []) (cur := #[]) kI kM kV rfl (by kernel_rfl) (by decide) (by decide)) ?_
 rintro _ _ ⟨a_1, rfl, rfl⟩
 refine go ?_
 refine jA [] (C_l02Put a c l x (by omega)) (hpre := fun w hw => hw.seeOut_ hs_a nM) ?_
 rintro _ _ (⟨rfl, hsame, rfl⟩ | ⟨a_2, c_3, rfl, rfl⟩)
 · have hal3 := addSpan_len l x
   refine jF rfl (jX 0 (q := l.length) (news := l.map str) (n' := l.length) (cs' := l.map str) rfl kI kI kd rfl (by' := 16) rfl rfl rfl rfl rfl (fun w hw => Src.sees (hw.seeOut_ hs_a nM) (oneS _)) (by (try simp only [LE]); omega) (by (try simp only [LE]); omega) (by (try simp only [List.length_take, List.length_drop]); first | rfl | omega) rfl) ?_
   rintro _ _ ⟨a_4, c_5, rfl, rfl⟩
   refine go ?_
   refine jE (.inl rfl) rfl (jC (v := .slice a_4 l.length c_5) rfl) (List.Sublist.refl _) ?_
   exact ⟨_, _, by rw [hsame] <;> rfl, by rw [hsame] <;> rfl⟩
 have hal3 := addSpan_len l x
 refine jF rfl (jX 1 (q := ((addSpan l x).length)) (news := (addSpan l x).map str) (n' := (addSpan l x).length) (cs' := (addSpan l x).map str) rfl kI kI kd rfl (by' := 16) rfl rfl rfl rfl rfl (fun w hw => Src.sees (hw.see (i := 0) rfl) (oneS _)) (by (try simp only [LE]); omega) (by (try simp only [LE]); omega) (by (try simp only [List.length_take, List.length_drop]); first | rfl | omega) rfl) ?_
 rintro _ _ ⟨a_6, c_7, rfl, rfl⟩
 refine go ?_
 exact jJ [1] ⟨_, _, rfl, rfl⟩

theorem C_figure (d : Nat) (hd : d < 10) :
   Ct Tryz.prog 255 [.int .i64 ((d : Nat) : Int)] [] (fun _ => True) (fun v A' => v = .int .u8 ((48 + d : Nat) : Int) ∧ A' = []) := by
 refine Ct.intro Tryz.func255 rfl Tryz.ntmps255 (lb rfl) fun w0 hpre => ?_
 refine go ?_
 by_cases h_1 : ((d : Nat) : Int) < 10
 · refine go ?_
   refine jK (PO.convI (c := ((48 + d : Nat) : Int)) kW kU rfl (wr8 (by omega))) ?_
   refine go ?_
   exact jJ [] ⟨rfl, rfl⟩
 exfalso; omega

theorem C_sDecN (k : Nat) (h1 : k ≤ 1000000000000000000) :
   Ct Tryz.prog 131 [.int .i64 ((k : Nat) : Int)] [] (fun _ => True) (fun v A' => v = str (dec ((k : Nat) : Int)) ∧ A' = []) := by
 refine Ct.intro Tryz.func131 rfl Tryz.ntmps131 (lb rfl) fun w0 hpre => ?_
 refine go ?_
 by_cases h_1 : ((k : Nat) : Int) = 0
 · refine go ?_
   refine jE (.inl rfl) rfl (jC (v := str [48]) rfl) (List.nil_sublist _) ?_
   refine ⟨?_, rfl⟩
   rw [show ((k : Nat) : Int) = 0 by omega, dec_zero]
 refine go ?_
 refine jL (fun k_ e_ L_ => ∃ k1 : Nat, ∃ o_ : Str, (k1 ≤ k) ∧ (o_.length + k1 ≤ k) ∧ (mtAcc k1 o_ = mtAcc k []) ∧ EL e_ [(0, nv k1), (2, str []), (3, .bool (decide (((k : Nat) : Int) < 0))), (4, str o_)] ∧ L_ = [] ∧ k_ = k1 + 1) _ ⟨k, [], by omega, (by simp), rfl, EL.go, rfl, rfl⟩ ?_
 rintro _ _ _ ⟨k1, o_, hk, hl, hR, ⟨_, rfl⟩, rfl, rfl⟩
 refine go ?_
 by_cases h_2 : ((k1 : Nat) : Int) = 0
 · refine go ?_
   by_cases h_3 : ((k : Nat) : Int) < 0
   · exfalso; omega
   refine go ?_
   refine jE (.inl rfl) rfl (jC (v := str o_) rfl) (List.nil_sublist _) ?_
   refine ⟨?_, rfl⟩
   rw [dec_nat (by omega), ← hR, mtAcc_zero (by omega)]
 refine go ?_
 by_cases h_4 : ((k1 % 10 : Nat) : Int) < 0
 · exfalso; omega
 refine go ?_
 refine jN [] (C_figure (k1 % 10) (by omega)) ?_
 refine jF rfl (jR (ps := [(0, .int .u8 ((48 + (k1 % 10) : Nat) : Int))]) (cur := #[.int .u8 ((48 + (k1 % 10) : Nat) : Int)]) kN kg kj rfl (by kernel_rfl) (by decide) (by decide)) ?_
 rintro _ _ ⟨a_5, rfl, rfl⟩
 refine jU (LO.toStr 0 [UInt8.ofNat (48 + (k1 % 10))] rfl kN kU kO rfl (by rw [List.map_cons, List.map_nil, encB_of _ (by omega)])) ?_
 refine go ?_
 exact jP [] ⟨(k1 / 10), [UInt8.ofNat (48 + (k1 % 10))] ++ o_, by omega, (by simp only [List.length_append, List.length_cons, List.length_nil]; omega), (by rw [mtAcc_step (by omega)]; exact hR), EL.go, rfl, rfl⟩

theorem C_sDec (n : Int) (h0 : 0 ≤ n) (h1 : n ≤ 1000000000000000000) : Ct Tryz.prog 131 [.int .i64 n] [] (fun _ => True) (fun v A' => v = str (dec n) ∧ A' = []) := by
 have := C_sDecN n.toNat (by omega)
 rw [Int.toNat_of_nonneg h0] at this
 exact this
theorem C_sReadDec (t : Str) (ht : t.length ≤ 281474976710656) :
   Ct Tryz.prog 342 [str t] [] (fun _ => True) (fun v A' => v = .tuple #[.int .i64 (readDec t).1, .bool (readDec t).2] ∧ A' = []) := by
 refine Ct.intro Tryz.func342 rfl Tryz.ntmps342 (lb rfl) fun w0 hpre => ?_
 refine go ?_
 by_cases h_1 : 10 < (t.length : Int)
 · refine go ?_
   refine ji (.inl rfl) rfl (jC (v := iv 0) rfl) (jC (v := .bool false) rfl) (List.nil_sublist _) ?_
   refine ⟨?_, rfl⟩
   rw [readDec_long (by omega)]
 refine go ?_
 refine jL (fun k_ e_ L_ => ∃ j : Nat, ∃ n1 : Int, (j ≤ t.length) ∧ (0 ≤ n1) ∧ (n1 < ((10 ^ j : Nat) : Int)) ∧ (figs n1 (t.drop j) = figs 0 t) ∧ EL e_ [(0, str t), (4, iv n1), (5, nv j)] ∧ L_ = [] ∧ k_ = t.length - j) _ ⟨0, 0, by omega, by omega, (by decide), rfl, EL.go, rfl, rfl⟩ ?_
 rintro _ _ _ ⟨j, n1, hj, h0, hb, hR, ⟨_, rfl⟩, rfl, rfl⟩
 refine go ?_
 by_cases h_2 : ((j : Nat) : Int) < (t.length : Int)
 · have hlt : j < t.length := by omega
   have hpj : 10 ^ j ≤ 1000000000 := Nat.le_trans (Nat.pow_le_pow_right (by omega) (show j ≤ 9 by omega)) (by decide)
   refine go ?_
   have hu_3 := UInt8.toNat_lt (t.getD j 0)
   refine go ?_
   by_cases h_4 : ((t.getD j 0).toNat : Int) < 48
   · refine go ?_
     refine ji (.inl rfl) rfl (jC (v := iv 0) rfl) (jC (v := .bool false) rfl) (List.nil_sublist _) ?_
     refine ⟨?_, rfl⟩
     rw [figs_step hlt, if_neg (by omega)] at hR
     rw [readDec_figs (by omega), ← hR]
   refine go ?_
   have hu_5 := UInt8.toNat_lt (t.getD j 0)
   refine go ?_
   by_cases h_6 : 57 < ((t.getD j 0).toNat : Int)
   · refine go ?_
     refine ji (.inl rfl) rfl (jC (v := iv 0) rfl) (jC (v := .bool false) rfl) (List.nil_sublist _) ?_
     refine ⟨?_, rfl⟩
     rw [figs_step hlt, if_neg (by omega)] at hR
     rw [readDec_figs (by omega), ← hR]
   refine go ?_
   refine jK (PO.mul (c := 10 * n1) rfl rfl (wr (by omega))) ?_
   refine go ?_
   have hu_7 := UInt8.toNat_lt (t.getD j 0)
   refine jK (PO.convI (c := ((t.getD j 0).toNat : Int)) kU kW rfl (wr (by omega))) ?_
   refine go ?_
   refine jK (jg (c := ((10 * n1) + ((t.getD j 0).toNat : Int)) - 48) rfl rfl (wr (by omega))) ?_
   refine go ?_
   refine jV (t.length - (j + 1)) (by omega) ⟨j + 1, ((10 * n1) + ((t.getD j 0).toNat : Int)) - 48, by omega, by omega, (by rw [Nat.pow_succ]; omega), (by rw [figs_step hlt, if_pos (by omega)] at hR; exact hR), EL.go, rfl, rfl⟩
 have hpj : 10 ^ j ≤ 10000000000 := Nat.le_trans (Nat.pow_le_pow_right (by omega) (show j ≤ 10 by omega)) (by decide)
 rw [List.drop_of_length_le (by omega), figs] at hR
 refine go ?_
 by_cases h_8 : 1000000000 < n1
 · refine go ?_
   refine ji (.inl rfl) rfl (jC (v := iv 0) rfl) (jC (v := .bool false) rfl) (List.nil_sublist _) ?_
   refine ⟨?_, rfl⟩
   rw [readDec_figs (by omega), ← hR]
   simp only
   rw [if_neg (fun h => by simp_all <;> omega)]
 refine go ?_
 refine jW rfl rfl rfl (cB (dF h_8)) (jO [] Tryz.call131 rfl (C_sDec n1 (by omega) (by omega)) rfl (fun _ _ => trivial)) ?_
 rintro _ _ ⟨_, ⟨rfl, rfl⟩, rfl⟩
 refine go ?_
 by_cases h_9 : (dec n1) = t
 · refine go ?_
   refine ji (.inl rfl) rfl (jC (v := iv n1) rfl) (jC (v := .bool true) rfl) (List.nil_sublist _) ?_
   refine ⟨?_, rfl⟩
   rw [readDec_figs (by omega), ← hR]
   simp only
   rw [if_pos (by refine ⟨?_, ?_⟩ <;> first | omega | simp_all)]
 refine go ?_
 refine ji (.inl rfl) rfl (jC (v := iv 0) rfl) (jC (v := .bool false) rfl) (List.nil_sublist _) ?_
 refine ⟨?_, rfl⟩
 rw [readDec_figs (by omega), ← hR]
 simp only
 rw [if_neg (fun h => by simp_all <;> omega)]

theorem C_sNumOf (t : Str) (ht : t.length ≤ 281474976710656) :
   Ct Tryz.prog 280 [str t] [] (fun _ => True) (fun v A' => v = .int .i64 (numOf t) ∧ A' = []) := by
 refine Ct.intro Tryz.func280 rfl Tryz.ntmps280 (lb rfl) fun w0 hpre => ?_
 refine go ?_
 refine jN [] (C_sReadDec t ht) ?_
 refine go ?_
 rcases Bool.eq_false_or_eq_true ((readDec t).2) with h_1 | h_1
 · refine go ?_
   by_cases h_2 : 999 < ((readDec t).1)
   · refine go ?_
     refine jE (.inl rfl) rfl (jC (v := iv 0) rfl) (List.nil_sublist _) ?_
     refine ⟨?_, rfl⟩
     unfold numOf
     first | rw [if_pos (by omega)] | (rw [if_neg (by omega)] <;> first | rfl | (congr 1; omega))
   refine go ?_
   refine jE (.inl rfl) rfl (jC (v := iv ((readDec t).1)) rfl) (List.nil_sublist _) ?_
   refine ⟨?_, rfl⟩
   unfold numOf
   first | rw [if_pos (by omega)] | (rw [if_neg (by omega)] <;> first | rfl | (congr 1; omega))
 refine go ?_
 refine jE (.inl rfl) rfl (jC (v := iv 0) rfl) (List.nil_sublist _) ?_
 refine ⟨?_, rfl⟩
 unfold numOf
 have hz := readDec_no h_1
 first | rw [if_pos (by omega)] | (rw [if_neg (by omega)] <;> first | rfl | (congr 1; omega))

theorem C_joinTouch (a1 a2 e1 e2 : Option Addr) (c1 c2 f1 f2 : Nat) (r w r' w' : List Str) (h1 : r.length ≤ 1000000000) (h2 : w.length ≤ 1000000000) (h3 : r'.length ≤ 1000000000) (h4 : w'.length ≤ 1000000000) :
   Ct Tryz.prog 135 [.agg #[.slice a1 r.length c1, .slice a2 w.length c2], .agg #[.slice e1 r'.length f1, .slice e2 w'.length f2]] [] (fun w_ => Sees w_ (.slice a1 r.length c1) 1 r.length (r.map str) ∧ Sees w_ (.slice a2 w.length c2) 1 w.length (w.map str) ∧ Sees w_ (.slice e1 r'.length f1) 1 r'.length (r'.map str) ∧ Sees w_ (.slice e2 w'.length f2) 1 w'.length (w'.map str)) (fun v A' => ∃ x1 y1 x2 y2, v = .agg #[.slice x1 (r'.foldl addSpan r).length y1, .slice x2 (w'.foldl addSpan w).length y2] ∧ A' = [.row (.slice x1 (r'.foldl addSpan r).length y1) 9 1 (r'.foldl addSpan r).length ((r'.foldl addSpan r).map str), .row (.slice x2 (w'.foldl addSpan w).length y2) 9 1 (w'.foldl addSpan w).length ((w'.foldl addSpan w).map str)]) := by
 refine Ct.intro Tryz.func135 rfl Tryz.ntmps135 (lb rfl) fun w0 hpre => ?_
 have hs_a1 : Sees w0 _ _ _ _ := hpre.1
 have hs_a2 : Sees w0 _ _ _ _ := hpre.2.1
 have hs_e1 : Sees w0 _ _ _ _ := hpre.2.2.1
 have hs_e2 : Sees w0 _ _ _ _ := hpre.2.2.2
 refine go ?_
 refine jM [.slice a1 r.length c1, .slice a2 w.length c2] fun b_1 => ?_
 refine jM [.slice e1 r'.length f1, .slice e2 w'.length f2] fun b_2 => ?_
 refine jG [.slice none 0 0, .slice none 0 0] fun b_3 => ?_
 refine jb <| jT <| jc ?_
 refine JC.cut (fun e_ L_ => ∃ q : Nat, ∃ x1 : Option Addr, ∃ y1 : Nat, ∃ x2 : Option Addr, ∃ y2 : Nat, EL e_ [(3, .pointer (some ⟨b_2, 0, none⟩)), (4, .pointer (some ⟨b_3, 0, none⟩)), (5, .pointer (some ⟨q, 0, none⟩))] ∧ L_ = [bk q 32 [.slice x1 r.length y1, .slice x2 w.length y2], Res.row (.slice x1 r.length y1) 9 1 r.length (r.map str), Res.row (.slice x2 w.length y2) 9 1 w.length (w.map str), bk b_3 32 [.slice none 0 0, .slice none 0 0], bk b_2 32 [.slice e1 r'.length f1, .slice e2 w'.length f2]]) ?_ ?_
 · refine jH [0, 0, 0] 10 ?_
   refine go ?_
   repeat' first
     | refine kD (i := 0) (j := 4) (k := 9) (by decide +kernel) ?_ ?_ ?_
     | refine kD (i := 3) (j := 4) (k := 9) (by decide +kernel) ?_ ?_ ?_
     | refine jZ (i := 4) (j := 9) (by decide +kernel) ?_ ?_
     | refine jZ (i := 7) (j := 9) (by decide +kernel) ?_ ?_
     | refine jB (i := 9) ?_ (by decide +kernel)
     | refine jB (i := 10) ?_ (by decide +kernel)
     | refine jB (i := 7) ?_ (by decide +kernel)
     | refine jB (i := 4) ?_ (by decide +kernel)
     | refine jZ (i := 3) (j := 9) (by decide +kernel) ?_ ?_
     | refine jB (i := 3) ?_ (by decide +kernel)
     | refine jZ (i := 3) (j := 4) (by decide +kernel) ?_ ?_
     | refine jZ (i := 0) (j := 9) (by decide +kernel) ?_ ?_
     | refine jB (i := 0) ?_ (by decide +kernel)
     | refine jZ (i := 0) (j := 4) (by decide +kernel) ?_ ?_
     | (refine ja (i := 0) rfl rfl (jR (ps := []) (cur := #[]) kI kM kV rfl (by kernel_rfl) (by decide) (by decide)) ?_; rintro _ _ ⟨a_13, rfl, rfl⟩; refine ⟨all_go, ?_⟩)
     | (refine ja (i := 3) rfl rfl (jX 0 (q := r.length) (news := r.map str) (n' := r.length) (cs' := r.map str) rfl kI kI kd rfl (by' := 16) rfl rfl rfl rfl rfl (fun w hw => Src.sees (hw.seeOut_ hs_a1 nM) (oneS _)) (by (try simp only [LE]); omega) (by (try simp only [LE]); omega) (by (try simp only [List.length_take, List.length_drop]); first | rfl | omega) rfl) ?_; rintro _ _ ⟨a_18, c_19, rfl, rfl⟩; refine ⟨all_go, ?_⟩)
     | (refine ja (i := 4) rfl rfl (jR (ps := []) (cur := #[]) kI kM kV rfl (by kernel_rfl) (by decide) (by decide)) ?_; rintro _ _ ⟨a_22, rfl, rfl⟩; refine ⟨all_go, ?_⟩)
     | (refine ja (i := 7) rfl rfl (jX 0 (q := w.length) (news := w.map str) (n' := w.length) (cs' := w.map str) rfl kI kI kd rfl (by' := 16) rfl rfl rfl rfl rfl (fun w hw => Src.sees (hw.seeOut_ hs_a2 nM) (oneS _)) (by (try simp only [LE]); omega) (by (try simp only [LE]); omega) (by (try simp only [List.length_take, List.length_drop]); first | rfl | omega) rfl) ?_; rintro _ _ ⟨a_26, c_27, rfl, rfl⟩; refine ⟨all_go, ?_⟩; refine jd 8 rfl (je (ps := [(0, .slice a_18 r.length c_19), (1, .slice a_26 w.length c_27)]) (cs := [.slice a_18 r.length c_19, .slice a_26 w.length c_27]) rfl (by kernel_rfl)) ?_)
     | (refine JX.al (i := 9) [.slice none 0 0, .slice none 0 0] fun b_29 => ?_)
     | (refine jS (i := 10) 0 [.slice a_18 r.length c_19, .slice a_26 w.length c_27] ?_)
     | (refine ja (i := 7) rfl rfl (jX 1 (q := w.length) (news := w.map str) (n' := w.length) (cs' := w.map str) rfl kI kI kd rfl (by' := 16) rfl rfl rfl rfl rfl (fun w hw => Src.sees (hw.seeOut_ hs_a2 nM) (oneS _)) (by (try simp only [LE]); omega) (by (try simp only [LE]); omega) (by (try simp only [List.length_take, List.length_drop]); first | rfl | omega) rfl) ?_; rintro _ _ ⟨a_26, c_27, rfl, rfl⟩; refine ⟨all_go, ?_⟩; refine jd 8 rfl (je (ps := [(0, .slice a_18 r.length c_19), (1, .slice a_26 w.length c_27)]) (cs := [.slice a_18 r.length c_19, .slice a_26 w.length c_27]) rfl (by kernel_rfl)) ?_)
     | (refine jS (i := 10) 1 [.slice a_18 r.length c_19, .slice a_26 w.length c_27] ?_)
     | (refine ja (i := 3) rfl rfl (jX 1 (q := r.length) (news := r.map str) (n' := r.length) (cs' := r.map str) rfl kI kI kd rfl (by' := 16) rfl rfl rfl rfl rfl (fun w hw => Src.sees (hw.seeOut_ hs_a1 nM) (oneS _)) (by (try simp only [LE]); omega) (by (try simp only [LE]); omega) (by (try simp only [List.length_take, List.length_drop]); first | rfl | omega) rfl) ?_; rintro _ _ ⟨a_18, c_19, rfl, rfl⟩; refine ⟨all_go, ?_⟩)
     | (refine ja (i := 3) rfl rfl (jX 2 (q := r.length) (news := r.map str) (n' := r.length) (cs' := r.map str) rfl kI kI kd rfl (by' := 16) rfl rfl rfl rfl rfl (fun w hw => Src.sees (hw.seeOut_ hs_a1 nM) (oneS _)) (by (try simp only [LE]); omega) (by (try simp only [LE]); omega) (by (try simp only [List.length_take, List.length_drop]); first | rfl | omega) rfl) ?_; rintro _ _ ⟨a_18, c_19, rfl, rfl⟩; refine ⟨all_go, ?_⟩)
     | (refine ja (i := 7) rfl rfl (jX 2 (q := w.length) (news := w.map str) (n' := w.length) (cs' := w.map str) rfl kI kI kd rfl (by' := 16) rfl rfl rfl rfl rfl (fun w hw => Src.sees (hw.seeOut_ hs_a2 nM) (oneS _)) (by (try simp only [LE]); omega) (by (try simp only [LE]); omega) (by (try simp only [List.length_take, List.length_drop]); first | rfl | omega) rfl) ?_; rintro _ _ ⟨a_26, c_27, rfl, rfl⟩; refine ⟨all_go, ?_⟩; refine jd 8 rfl (je (ps := [(0, .slice a_18 r.length c_19), (1, .slice a_26 w.length c_27)]) (cs := [.slice a_18 r.length c_19, .slice a_26 w.length c_27]) rfl (by kernel_rfl)) ?_)
     | (refine jS (i := 10) 2 [.slice a_18 r.length c_19, .slice a_26 w.length c_27] ?_)
     | exact jh [0, 1, 0, 0, 0] ⟨b_29, a_18, c_19, a_26, c_27, EL.go, rfl⟩
     | exact jh [1, 1, 0, 0, 0] ⟨b_29, a_18, c_19, a_26, c_27, EL.go, rfl⟩
     | exact jh [0, 0, 0, 0, 0] ⟨b_29, a_18, c_19, a_26, c_27, EL.go, rfl⟩
     | exact jh [1, 0, 0, 0, 0] ⟨b_29, a_18, c_19, a_26, c_27, EL.go, rfl⟩
     | exact jh [2, 1, 0, 0, 0] ⟨b_29, a_18, c_19, a_26, c_27, EL.go, rfl⟩
     | exact jh [2, 0, 0, 0, 0] ⟨b_29, a_18, c_19, a_26, c_27, EL.go, rfl⟩
 rintro _ _ ⟨q, x1, y1, x2, y2, ⟨_, rfl⟩, rfl⟩
 refine go ?_
 refine jL (fun k_ e_ L_ => ∃ j : Nat, ∃ D : List Str, ∃ x1 : Option Addr, ∃ y1 : Nat, (j ≤ r'.length) ∧ (D = (r'.take j).foldl addSpan r) ∧ (D.length ≤ r.length + j) ∧ EL e_ [(3, .pointer (some ⟨b_2, 0, none⟩)), (4, .pointer (some ⟨b_3, 0, none⟩)), (5, .pointer (some ⟨q, 0, none⟩)), (6, nv j)] ∧ L_ = [bk q 32 [.slice x1 D.length y1, .slice x2 w.length y2], Res.row (.slice x1 D.length y1) 9 1 D.length (D.map str), Res.row (.slice x2 w.length y2) 9 1 w.length (w.map str), bk b_3 32 [.slice none 0 0, .slice none 0 0], bk b_2 32 [.slice e1 r'.length f1, .slice e2 w'.length f2]] ∧ k_ = r'.length - j) _ ⟨0, r, x1, y1, by omega, rfl, by omega, EL.go, rfl, rfl⟩ ?_
 rintro _ _ _ ⟨j, D, x1, y1, hj, hD, hl, ⟨_, rfl⟩, rfl, rfl⟩
 refine go ?_
 by_cases h_166 : ((j : Nat) : Int) < ((r'.length : Nat) : Int)
 · have hlt : j < r'.length := by omega
   refine go ?_
   refine jH [0, 0, 0, 0, 0] 8 ?_
   refine go ?_
   obtain ⟨hr_167, hr_167b, -⟩ := sees_some hs_e1 (by omega)
   refine go ?_
   refine jk 6 rfl (jY (v := str (r'.getD j [])) hs_e1 nM rfl kJ (atS (by omega))) ?_
   refine jB (i := 7) ?_
   refine jI [] (C_sAddSpan x1 y1 D (r'.getD j []) (by omega)) (hpre := fun w hw => hw.see (i := 1) rfl) ?_
   rintro _ _ ⟨a_170, c_171, rfl, rfl⟩
   refine go ?_
   refine jB (i := 9) ?_
   refine jS 1 [.slice a_170 ((addSpan D (r'.getD j [])).length) c_171, .slice x2 w.length y2] ?_
   refine go ?_
   exact jP [1, 0, 1, 1, 1] ⟨j + 1, (addSpan D (r'.getD j [])), a_170, c_171, by omega, (by rw [take_at (getD_some (d := []) hlt), List.foldl_append, ← hD]; rfl), (by have := addSpan_len D (r'.getD j []); omega), EL.go, rfl, rfl⟩
 rw [List.take_of_length_le (by omega)] at hD
 have hDr := hD
 have hlr := hl
 refine go ?_
 refine jL (fun k_ e_ L_ => ∃ j : Nat, ∃ E : List Str, ∃ x2 : Option Addr, ∃ y2 : Nat, (j ≤ w'.length) ∧ (E = (w'.take j).foldl addSpan w) ∧ (E.length ≤ w.length + j) ∧ EL e_ [(3, .pointer (some ⟨b_2, 0, none⟩)), (4, .pointer (some ⟨b_3, 0, none⟩)), (5, .pointer (some ⟨q, 0, none⟩)), (7, nv j)] ∧ L_ = [bk q 32 [.slice x1 D.length y1, .slice x2 E.length y2], Res.row (.slice x1 D.length y1) 9 1 D.length (D.map str), Res.row (.slice x2 E.length y2) 9 1 E.length (E.map str), bk b_3 32 [.slice none 0 0, .slice none 0 0], bk b_2 32 [.slice e1 r'.length f1, .slice e2 w'.length f2]] ∧ k_ = w'.length - j) _ ⟨0, w, x2, y2, by omega, rfl, by omega, EL.go, rfl, rfl⟩ ?_
 rintro _ _ _ ⟨j, E, x2, y2, hj, hD, hl, ⟨_, rfl⟩, rfl, rfl⟩
 refine go ?_
 by_cases h_172 : ((j : Nat) : Int) < ((w'.length : Nat) : Int)
 · have hlt : j < w'.length := by omega
   refine go ?_
   refine jH [0, 0, 0, 0, 0] 8 ?_
   refine go ?_
   obtain ⟨hr_173, hr_173b, -⟩ := sees_some hs_e2 (by omega)
   refine go ?_
   refine jk 6 rfl (jY (v := str (w'.getD j [])) hs_e2 nM rfl kJ (atS (by omega))) ?_
   refine jB (i := 7) ?_
   refine jI [] (C_sAddSpan x2 y2 E (w'.getD j []) (by omega)) (hpre := fun w hw => hw.see (i := 2) rfl) ?_
   rintro _ _ ⟨a_176, c_177, rfl, rfl⟩
   refine go ?_
   refine jB (i := 9) ?_
   refine jS 1 [.slice x1 D.length y1, .slice a_176 ((addSpan E (w'.getD j [])).length) c_177] ?_
   refine go ?_
   exact jP [1, 1, 0, 1, 1] ⟨j + 1, (addSpan E (w'.getD j [])), a_176, c_177, by omega, (by rw [take_at (getD_some (d := []) hlt), List.foldl_append, ← hD]; rfl), (by have := addSpan_len E (w'.getD j []); omega), EL.go, rfl, rfl⟩
 rw [List.take_of_length_le (by omega)] at hD
 have hDw := hD
 have hlw := hl
 refine go ?_
 refine jD 3 [.slice x1 D.length y1, .slice x2 E.length y2] ?_
 refine go ?_
 refine ju (pick_perm [1, 1] (A := [Res.row (.slice x1 D.length y1) 9 1 D.length (D.map str), Res.row (.slice x2 E.length y2) 9 1 E.length (E.map str)]) (F := [bk q 32 [.slice x1 D.length y1, .slice x2 E.length y2], bk b_3 32 [.slice x1 D.length y1, .slice x2 E.length y2], bk b_2 32 [.slice e1 r'.length f1, .slice e2 w'.length f2]]) rfl).symm ?_
 refine jE (.inl rfl) rfl (js (jl 3 (vs := [.slice x1 D.length y1, .slice x2 E.length y2]) rfl rfl kt ku rfl rfl) ⟨_, rfl⟩) (tS 2 _) ?_
 subst hDr
 subst hDw
 exact ⟨_, _, _, _, rfl, rfl⟩

theorem C_sLook (a0 a1 a2 : Option Addr) (c0_ c1 c2 : Nat) (m : MS) (key : Str) (h0 : m.s.length ≤ 5000000000) (h1 : m.r.length ≤ 5000000000) (h2 : m.w.length ≤ 5000000000) :
   Ct Tryz.prog 117 [.agg #[.slice a0 m.s.length c0_, .slice a1 m.r.length c1, .slice a2 m.w.length c2], str key] [Res.row (.slice a0 m.s.length c0_) 130 2 m.s.length (m.s.flatMap encC), Res.row (.slice a1 m.r.length c1) 9 1 m.r.length (m.r.map str), Res.row (.slice a2 m.w.length c2) 9 1 m.w.length (m.w.map str)] (fun _ => True) (fun v A' => ∃ x0 y0 x1 y1 x2 y2, v = .tuple #[.agg #[.slice x0 (((m.look key).1).s.length) y0, .slice x1 (((m.look key).1).r.length) y1, .slice x2 (((m.look key).1).w.length) y2], str (m.look key).2] ∧ A' = [Res.row (.slice x0 (((m.look key).1).s.length) y0) 130 2 ((((m.look key).1).s).length) ((((m.look key).1).s).flatMap encC), Res.row (.slice x1 (((m.look key).1).r.length) y1) 9 1 ((((m.look key).1).r).length) ((((m.look key).1).r).map str), Res.row (.slice x2 (((m.look key).1).w.length) y2) 9 1 ((((m.look key).1).w).length) ((((m.look key).1).w).map str)]) := by
 refine Ct.intro Tryz.func117 rfl Tryz.ntmps117 (lb rfl) fun w0 hpre => ?_
 refine go ?_
 refine jM [.slice a0 m.s.length c0_, .slice a1 m.r.length c1, .slice a2 m.w.length c2] fun b_1 => ?_
 refine jG zC fun b_2 => ?_
 refine go ?_
 refine jA [] (C_sAddSpan a1 c1 m.r key (by omega)) (hpre := fun w hw => hw.see (i := 3) rfl) ?_
 rintro _ _ ⟨a_3, c_4, rfl, rfl⟩
 refine go ?_
 refine jD 2 [.slice a0 m.s.length c0_, .slice a_3 ((addSpan m.r key).length) c_4, .slice a2 m.w.length c2] ?_
 refine go ?_
 refine jH [0, 1, 1, 1, 1] 6 ?_
 refine go ?_
 refine jB (i := 4) ?_
 refine jI [] (C_sGetKey a0 c0_ m.s key (by omega)) (hpre := fun w hw => hw.see (i := 3) rfl) ?_
 rintro _ _ ⟨rfl, rfl⟩
 refine jB (i := 5) ?_
 refine jp 1 [.slice a0 m.s.length c0_, .slice a_3 ((addSpan m.r key).length) c_4, .slice a2 m.w.length c2] ?_
 refine go ?_
 exact jQ [3, 0, 3] ⟨_, _, _, _, _, _, rfl, rfl⟩

theorem C_sLay (a0 a1 a2 : Option Addr) (c0_ c1 c2 : Nat) (m : MS) (key val : Str) (h0 : m.s.length ≤ 5000000000) (h1 : m.r.length ≤ 5000000000) (h2 : m.w.length ≤ 5000000000) (hk : key.length ≤ 1000000000000) :
   Ct Tryz.prog 281 [.agg #[.slice a0 m.s.length c0_, .slice a1 m.r.length c1, .slice a2 m.w.length c2], str key, str val] [Res.row (.slice a0 m.s.length c0_) 130 2 m.s.length (m.s.flatMap encC), Res.row (.slice a1 m.r.length c1) 9 1 m.r.length (m.r.map str), Res.row (.slice a2 m.w.length c2) 9 1 m.w.length (m.w.map str)] (fun _ => True) (fun v A' => ∃ x0 y0 x1 y1 x2 y2, v = .agg #[.slice x0 ((m.lay key val).s.length) y0, .slice x1 ((m.lay key val).r.length) y1, .slice x2 ((m.lay key val).w.length) y2] ∧ A' = [Res.row (.slice x0 ((m.lay key val).s.length) y0) 130 2 (((m.lay key val).s).length) (((m.lay key val).s).flatMap encC), Res.row (.slice x1 ((m.lay key val).r.length) y1) 9 1 (((m.lay key val).r).length) (((m.lay key val).r).map str), Res.row (.slice x2 ((m.lay key val).w.length) y2) 9 1 (((m.lay key val).w).length) (((m.lay key val).w).map str)]) := by
 refine Ct.intro Tryz.func281 rfl Tryz.ntmps281 (lb rfl) fun w0 hpre => ?_
 refine go ?_
 refine jM [.slice a0 m.s.length c0_, .slice a1 m.r.length c1, .slice a2 m.w.length c2] fun b_1 => ?_
 refine jG zC fun b_2 => ?_
 refine go ?_
 refine jA [] (C_sAddSpan a2 c2 m.w key (by omega)) (hpre := fun w hw => hw.see (i := 4) rfl) ?_
 rintro _ _ ⟨a_3, c_4, rfl, rfl⟩
 refine go ?_
 refine jD 2 [.slice a0 m.s.length c0_, .slice a1 m.r.length c1, .slice a_3 ((addSpan m.w key).length) c_4] ?_
 refine go ?_
 refine jA [] (C_sPutKey a0 c0_ m.s key val (by omega) (by omega)) (hpre := fun w hw => hw.see (i := 3) rfl) ?_
 rintro _ _ ⟨a_5, c_6, rfl, rfl⟩
 refine go ?_
 refine jD 3 [.slice a_5 ((putKey m.s key val).length) c_6, .slice a1 m.r.length c1, .slice a_3 ((addSpan m.w key).length) c_4] ?_
 refine go ?_
 refine jD 2 [.slice a_5 ((putKey m.s key val).length) c_6, .slice a1 m.r.length c1, .slice a_3 ((addSpan m.w key).length) c_4] ?_
 refine go ?_
 exact jJ [0, 4, 0] ⟨_, _, _, _, _, _, rfl, rfl⟩

theorem C_sBump (a0 a1 a2 : Option Addr) (c0_ c1 c2 : Nat) (m : MS) (key : Str) (h0 : m.s.length ≤ 2000000000) (h1 : m.r.length ≤ 2000000000) (h2 : m.w.length ≤ 2000000000) (hv : (getKey m.s key).length ≤ 281474976710656) (hk : key.length ≤ 1000000000000) :
   Ct Tryz.prog 196 [.agg #[.slice a0 m.s.length c0_, .slice a1 m.r.length c1, .slice a2 m.w.length c2], str key] [Res.row (.slice a0 m.s.length c0_) 130 2 m.s.length (m.s.flatMap encC), Res.row (.slice a1 m.r.length c1) 9 1 m.r.length (m.r.map str), Res.row (.slice a2 m.w.length c2) 9 1 m.w.length (m.w.map str)] (fun _ => True) (fun v A' => ∃ x0 y0 x1 y1 x2 y2, v = .tuple #[.agg #[.slice x0 (((m.bump key).1).s.length) y0, .slice x1 (((m.bump key).1).r.length) y1, .slice x2 (((m.bump key).1).w.length) y2], .int .i64 (m.bump key).2] ∧ A' = [Res.row (.slice x0 (((m.bump key).1).s.length) y0) 130 2 ((((m.bump key).1).s).length) ((((m.bump key).1).s).flatMap encC), Res.row (.slice x1 (((m.bump key).1).r.length) y1) 9 1 ((((m.bump key).1).r).length) ((((m.bump key).1).r).map str), Res.row (.slice x2 (((m.bump key).1).w.length) y2) 9 1 ((((m.bump key).1).w).length) ((((m.bump key).1).w).map str)]) := by
 refine Ct.intro Tryz.func196 rfl Tryz.ntmps196 (lb rfl) fun w0 hpre => ?_
 refine go ?_
 refine jM [.slice a0 m.s.length c0_, .slice a1 m.r.length c1, .slice a2 m.w.length c2] fun b_1 => ?_
 refine jG zC fun b_2 => ?_
 refine go ?_
 refine jA [2, 2, 2] (C_sLook a0 a1 a2 c0_ c1 c2 m key (by omega) (by omega) (by omega)) ?_
 rintro _ _ ⟨a_3, c_4, a_5, c_6, a_7, c_8, rfl, rfl⟩
 have hlk8 := look_len m key
 refine go ?_
 refine jD 4 [.slice a_3 (((MS.look m key).1).s.length) c_4, .slice a_5 (((MS.look m key).1).r.length) c_6, .slice a_7 (((MS.look m key).1).w.length) c_8] ?_
 refine go ?_
 refine jN [] (C_sNumOf ((MS.look m key).2) hv) ?_
 have hno8 := numOf_lo ((MS.look m key).2)
 refine go ?_
 by_cases h_9 : 999 < ((numOf ((MS.look m key).2)) + 1)
 · refine go ?_
   refine jD 3 [.slice a_3 (((MS.look m key).1).s.length) c_4, .slice a_5 (((MS.look m key).1).r.length) c_6, .slice a_7 (((MS.look m key).1).w.length) c_8] ?_
   refine go ?_
   refine ji (.inl rfl) rfl (js (jl 3 (vs := [.slice a_3 (((MS.look m key).1).s.length) c_4, .slice a_5 (((MS.look m key).1).r.length) c_6, .slice a_7 (((MS.look m key).1).w.length) c_8]) rfl rfl Tryz.isAgg60 Tryz.sizeOf60 rfl rfl) ⟨_, rfl⟩) (jC (v := iv 0) rfl) (tS 3 _) ?_
   have hq : (m.num key).2 = numOf (m.look key).2 := rfl
   have hb : m.bump key = ((m.num key).1, 0) := by unfold MS.bump; rw [if_pos (by omega)]
   rw [hb]
   exact ⟨_, _, _, _, _, _, rfl, rfl⟩
 refine go ?_
 refine jH [4] 6 ?_
 refine go ?_
 refine jB (i := 3) ?_
 refine jI [] (C_sDec ((numOf ((MS.look m key).2)) + 1) (by omega) (by omega)) ?_
 rintro _ _ ⟨rfl, rfl⟩
 refine jB (i := 4) ?_
 refine ja rfl rfl (jO [0, 0, 0] Tryz.call281 rfl (C_sLay a_3 a_5 a_7 c_4 c_6 c_8 ((MS.look m key).1) key (dec ((numOf ((MS.look m key).2)) + 1)) (by omega) (by omega) (by omega) (by omega)) rfl (fun _ _ => trivial)) ?_
 rintro _ _ ⟨_, ⟨a_16, c_17, a_18, c_19, a_20, c_21, rfl, rfl⟩, rfl⟩
 have hly21 := lay_len ((MS.look m key).1) key (dec ((numOf ((MS.look m key).2)) + 1))
 refine ⟨all_go, ?_⟩
 refine jB (i := 6) ?_
 refine jf 3 [.slice a_16 ((MS.lay ((MS.look m key).1) key (dec ((numOf ((MS.look m key).2)) + 1))).s.length) c_17, .slice a_18 ((MS.lay ((MS.look m key).1) key (dec ((numOf ((MS.look m key).2)) + 1))).r.length) c_19, .slice a_20 ((MS.lay ((MS.look m key).1) key (dec ((numOf ((MS.look m key).2)) + 1))).w.length) c_21] ?_
 refine go ?_
 refine ji (.inl rfl) rfl (js (jl 3 (vs := [.slice a_16 ((MS.lay ((MS.look m key).1) key (dec ((numOf ((MS.look m key).2)) + 1))).s.length) c_17, .slice a_18 ((MS.lay ((MS.look m key).1) key (dec ((numOf ((MS.look m key).2)) + 1))).r.length) c_19, .slice a_20 ((MS.lay ((MS.look m key).1) key (dec ((numOf ((MS.look m key).2)) + 1))).w.length) c_21]) rfl rfl Tryz.isAgg60 Tryz.sizeOf60 rfl rfl) ⟨_, rfl⟩) (jC (v := iv ((numOf ((MS.look m key).2)) + 1)) rfl) (tS 3 _) ?_
 have hq : (m.num key).2 = numOf (m.look key).2 := rfl
 have hb : m.bump key = ((m.look key).1.lay key (dec (numOf (m.look key).2 + 1)), numOf (m.look key).2 + 1) := by unfold MS.bump; rw [if_neg (by omega)]; unfold MS.setNum; rw [if_pos (by omega)]; rfl
 rw [hb]
 exact ⟨_, _, _, _, _, _, rfl, rfl⟩
end Go.Proofs.YthlfmbbaomdciaaGreatDoor
