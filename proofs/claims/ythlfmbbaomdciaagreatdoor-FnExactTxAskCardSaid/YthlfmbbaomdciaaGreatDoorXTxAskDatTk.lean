/-
Texts of the walk, joined: what each one proves stands at its theorems.
-/
import Derived.Test.YthlfmbbaomdciaaGreatDoorXTxAskS06HELT
set_option linter.unusedSimpArgs false
set_option linter.unusedVariables false
set_option linter.unnecessarySimpa false
set_option maxHeartbeats 4000000
set_option maxRecDepth 4000
namespace Go.Proofs.YthlfmbbaomdciaaGreatDoor
open Go Go.RowKit
attribute [local irreducible] JL JC JQ JO LO PO JA JX Ct
theorem setI' {l : List Int} {i : Nat} {c : Int} (h : i < l.length) : (l.map (Value.int .i64)).take (i * 1) ++ [.int .i64 c] ++ (l.map (Value.int .i64)).drop (i * 1 + 1) = (l.set i c).map (Value.int .i64) := by
 rw [List.map_set, List.set_eq_take_append_cons_drop, if_pos (by simpa using h)]
 simp
theorem replI (m : Nat) : (List.replicate m [Value.int .i64 0]).flatten = (List.replicate m (0 : Int)).map (Value.int .i64) := by
 induction m with
 | zero => rfl
 | succ m ih => rw [List.replicate_succ, List.flatten_cons, ih, List.replicate_succ, List.map_cons]; rfl

theorem Y_eqTouch (a1 a2 b1 b2 : Option Addr) (c1 c2 d1 d2 : Nat) (r w r' w' : List Str) (h1 : r.length ≤ 9223372036854775807) (h2 : w.length ≤ 9223372036854775807) : Ct Tryz.prog 177 [.agg #[.slice a1 r.length c1, .slice a2 w.length c2], .agg #[.slice b1 r'.length d1, .slice b2 w'.length d2]] [] (fun w_ => Sees w_ (.slice a1 r.length c1) 1 r.length (r.map str) ∧ Sees w_ (.slice a2 w.length c2) 1 w.length (w.map str) ∧ Sees w_ (.slice b1 r'.length d1) 1 r'.length (r'.map str) ∧ Sees w_ (.slice b2 w'.length d2) 1 w'.length (w'.map str)) (fun v A' => v = .bool (decide (r = r' ∧ w = w')) ∧ A' = []) :=
 (C_eqTouch a1 a2 b1 b2 c1 c2 d1 d2 r w r' w' h1 h2).weak (fun _ h => h) fun v A' ⟨hv, hA⟩ => ⟨by rw [hv, Bool.decide_and], hA⟩

theorem Y_eqIntS (a b : Option Addr) (c c' : Nat) (s t : List Int) (hn : s.length ≤ 9223372036854775807) :
   Ct Tryz.prog 178 [.slice a s.length c, .slice b t.length c'] [] (fun w => Sees w (.slice a s.length c) 1 s.length (s.map (Value.int .i64)) ∧ Sees w (.slice b t.length c') 1 t.length (t.map (Value.int .i64))) (fun r A' => r = .bool (decide (s = t)) ∧ A' = []) := by
 refine Ct.intro Tryz.func178 rfl Tryz.ntmps178 (lb rfl) fun w0 hpre => ?_
 have hs_a : Sees w0 _ _ _ _ := hpre.1
 have hs_b : Sees w0 _ _ _ _ := hpre.2
 refine go ?_
 by_cases h_1 : ((s.length : Nat) : Int) = ((t.length : Nat) : Int)
 · have hlen := h_1
   refine go ?_
   refine jL (fun k_ e_ L_ => ∃ j : Nat, (j ≤ s.length) ∧ (s.take j = t.take j) ∧ (s.length = t.length) ∧ EL e_ [(0, .slice a s.length c), (1, .slice b t.length c'), (5, nv j)] ∧ L_ = [] ∧ k_ = s.length - j) _ ⟨0, by omega, rfl, by omega, EL.go, rfl, rfl⟩ ?_
   rintro _ _ _ ⟨j, hj, hE, hln, ⟨_, rfl⟩, rfl, rfl⟩
   refine go ?_
   by_cases h_2 : ((j : Nat) : Int) < ((s.length : Nat) : Int)
   · have hlt : j < s.length := by omega
     refine go ?_
     refine jH [] 8 ?_
     refine go ?_
     obtain ⟨hr_3, hr_3b, -⟩ := sees_some hs_a (by omega)
     refine go ?_
     refine jk 3 rfl (jY (v := iv (s.getD j 0)) hs_a nM rfl kR (atI (by omega))) ?_
     refine go ?_
     obtain ⟨hr_4, hr_4b, -⟩ := sees_some hs_b (by omega)
     refine go ?_
     refine jk 7 rfl (jY (v := iv (t.getD j 0)) hs_b nM rfl kR (atI (by omega))) ?_
     refine go ?_
     by_cases h_5 : (s.getD j 0) = (t.getD j 0)
     · have heq := h_5
       refine go ?_
       refine jV (s.length - (j + 1)) (by omega) ⟨j + 1, by omega, take_succ_eq 0 hE hlt hln heq, hln, EL.go, rfl, rfl⟩
     have hne := h_5
     refine go ?_
     refine jE (.inl rfl) rfl (jC (v := .bool false) rfl) (List.nil_sublist _) ?_
     refine ⟨?_, rfl⟩
     rw [dF (fun h => hne (by rw [h]))]
   refine go ?_
   refine jE (.inl rfl) rfl (jC (v := .bool true) rfl) (List.nil_sublist _) ?_
   refine ⟨?_, rfl⟩
   rw [dT (take_all_eq hE (by omega) (by omega))]
 have hlen := h_1
 refine go ?_
 refine jE (.inl rfl) rfl (jC (v := .bool false) rfl) (List.nil_sublist _) ?_
 refine ⟨?_, rfl⟩
 rw [dF (fun h => by rw [h] at hlen; omega)]

theorem Y_markIntS (a : Option Addr) (c : Nat) (l : List Int) (k : Nat) (h0 : 0 < k) (h1 : k + 1 * l.length ≤ 10000000000) :
   Ct Tryz.prog 184 [.slice a l.length c, .int .i64 ((k : Nat) : Int)] [rI a c l] (fun _ => True) (fun v A' => v = .int .i64 ((k + 1 * l.length : Nat) : Int) ∧ A' = [.row (.slice a l.length c) 3 1 l.length ((markG mkI 1 l k).map (Value.int .i64))]) := by
 refine Ct.intro Tryz.func184 rfl Tryz.ntmps184 (lb rfl) fun w0 hpre => ?_
 refine go ?_
 refine jL (fun k_ e_ L_ => ∃ j : Nat, (j ≤ l.length) ∧ EL e_ [(0, .slice a l.length c), (1, iv ((k + 1 * j : Nat) : Int)), (4, iv 0), (5, nv j)] ∧ L_ = [Res.row (.slice a l.length c) 3 1 l.length (((markG mkI 1 l k).take j ++ l.drop j).map (Value.int .i64))] ∧ k_ = l.length - j) _ ⟨0, by omega, EL.go, rfl, rfl⟩ ?_
 rintro _ _ _ ⟨j, hj, ⟨_, rfl⟩, rfl, rfl⟩
 refine go ?_
 by_cases h_1 : ((j : Nat) : Int) < ((l.length : Nat) : Int)
 · have hlt : j < l.length := by omega
   refine go ?_
   refine jo fun hst => ?_
   obtain ⟨hr_2, hr_2b, -⟩ := row_some 0 rfl (by omega) hst
   refine go ?_
   refine jF rfl (jx 0 (vs := [iv ((k + 1 * j : Nat) : Int)]) (cs' := (((markG mkI 1 l k).take j ++ l.drop j).set j ((k + 1 * j : Nat) : Int)).map (Value.int .i64)) rfl rfl rfl rfl kS rfl rfl (by decide) (by rw [List.length_map]; rw [markG_lenj mkI 1 hj]; omega) (setI' (by rw [markG_lenj mkI 1 hj]; omega))) ?_
   rintro _ _ rfl
   refine go ?_
   refine jV (l.length - (j + 1)) (by omega) ⟨j + 1, by omega, EL.go, (by rw [← markG_step mkI 1 hlt]; rfl), rfl⟩
 refine go ?_
 refine jE (.inl rfl) rfl (jC (v := iv ((k + 1 * j : Nat) : Int)) rfl) (List.Sublist.refl _) ?_
 exact ⟨by rw [show j = l.length by omega], by rw [show j = l.length by omega, List.drop_of_length_le (Nat.le_refl _), List.append_nil, List.take_of_length_le (by rw [markG_len]; exact Nat.le_refl _)]⟩

theorem Y_heldIntS (a : Option Addr) (c : Nat) (l : List Int) (k : Nat) (h0 : 0 < k) (h1 : k + 1 * l.length ≤ 10000000000) :
   Ct Tryz.prog 188 [.slice a l.length c, .int .i64 ((k : Nat) : Int)] [] (fun w => Sees w (.slice a l.length c) 1 l.length ((markG mkI 1 l k).map (Value.int .i64))) (fun v A' => v = .int .i64 ((k + 1 * l.length : Nat) : Int) ∧ A' = []) := by
 refine Ct.intro Tryz.func188 rfl Tryz.ntmps188 (lb rfl) fun w0 hpre => ?_
 have hs_a : Sees w0 _ _ _ _ := hpre
 refine go ?_
 refine jL (fun k_ e_ L_ => ∃ j : Nat, (j ≤ l.length) ∧ EL e_ [(0, .slice a l.length c), (1, iv ((k + 1 * j : Nat) : Int)), (5, nv j)] ∧ L_ = [] ∧ k_ = l.length - j) _ ⟨0, by omega, EL.go, rfl, rfl⟩ ?_
 rintro _ _ _ ⟨j, hj, ⟨_, rfl⟩, rfl, rfl⟩
 refine go ?_
 by_cases h_1 : ((j : Nat) : Int) < ((l.length : Nat) : Int)
 · have hlt : j < l.length := by omega
   refine go ?_
   obtain ⟨hr_2, hr_2b, -⟩ := sees_some hs_a (by omega)
   refine go ?_
   refine jU (jY (v := iv ((markG mkI 1 l k).getD j 0)) hs_a nM rfl kR (atI (by rw [markG_len]; omega))) ?_
   refine go ?_
   by_cases h_3 : ((markG mkI 1 l k).getD j 0) = ((k + 1 * j : Nat) : Int)
   · refine go ?_
     refine jV (l.length - (j + 1)) (by omega) ⟨j + 1, by omega, EL.go, rfl, rfl⟩
   exfalso; rw [markG_get mkI 1 0 l k j hlt] at h_3; first | omega | exact h_3 rfl
 refine go ?_
 refine jE (.inl rfl) rfl (jC (v := iv ((k + 1 * j : Nat) : Int)) rfl) (List.nil_sublist _) ?_
 exact ⟨by rw [show j = l.length by omega], rfl⟩

theorem Y_heldStringS (a : Option Addr) (c : Nat) (l : List Str) (k : Nat) (h0 : 0 < k) (h1 : k + l.length ≤ 10000000000) : Ct Tryz.prog 276 [.slice a l.length c, .int .i64 ((k : Nat) : Int)] [] (fun w => Sees w (.slice a l.length c) 1 l.length ((markS l k).map str)) (fun v A' => v = .int .i64 ((k + l.length : Nat) : Int) ∧ A' = []) :=
 (C_heldStringS a l.length c (markS l k) k (markS_len l k) h0 (by rw [markS_len]; omega)).weak (fun w h => by rw [markS_len]; exact h) fun v A' ⟨hv, hA⟩ => ⟨by rw [hv, heldS_mark], hA⟩

theorem E_szCallS (a : Option Addr) (c : Nat) (s : List CL) (l : Int) (h0 : 0 ≤ l) (h1 : l ≤ 1048576) (hn : s.length ≤ 9223372036854775807) (hse : ∀ j, j < s.length → (s.getD j k0).ok 9223372036854775807) :
   Ct Tryz.prog 166 [.slice a s.length c, .int .i64 l] [] (fun w => SeesE w (.slice a s.length c) 6 s.length (s.flatMap encK)) (fun r A' => r = .int .i64 (szLS szCallF s l) ∧ A' = []) := by
 refine Ct.intro Tryz.func166 rfl Tryz.ntmps166 (lb rfl) fun w0 hpre => ?_
 have hs_a' : SeesE w0 _ _ _ _ := hpre
 refine go ?_
 refine jK (jg (c := l - ((s.length : Nat) : Int)) rfl rfl (wr (by omega))) ?_
 refine go ?_
 by_cases h_1 : (l - ((s.length : Nat) : Int)) < 0
 · refine go ?_
   refine jE (.inl rfl) rfl (jC (v := iv (-1)) rfl) (List.nil_sublist _) ?_
   refine ⟨?_, rfl⟩
   rw [szLS, if_pos (by omega)]
 refine go ?_
 refine jL (fun k_ e_ L_ => ∃ j : Nat, ∃ l1 : Int, (j ≤ s.length) ∧ (0 ≤ l1) ∧ (l1 ≤ 1048576) ∧ (szL szCallF (s.drop j) l1 = szLS szCallF s l) ∧ EL e_ [(0, .slice a s.length c), (1, iv l1), (5, nv j)] ∧ L_ = [] ∧ k_ = s.length - j) _ ⟨0, (l - (s.length : Int)), by omega, by omega, by omega, (by rw [szLS, if_neg (by omega)]; rfl), EL.go, rfl, rfl⟩ ?_
 rintro _ _ _ ⟨j, l1, hj, hl, hl2, hR, ⟨_, rfl⟩, rfl, rfl⟩
 refine go ?_
 by_cases h_2 : ((j : Nat) : Int) < ((s.length : Nat) : Int)
 · have hlt : j < s.length := by omega
   have hs_a : Sees w0 _ _ _ _ := hs_a'.full (by omega)
   refine go ?_
   obtain ⟨hr_3, hr_3b, -⟩ := sees_some hs_a (by omega)
   refine go ?_
   refine jU (jj (vs := [iv ((s.getD j k0).kind), str ((s.getD j k0).name), str ((s.getD j k0).to_), iv ((s.getD j k0).a), iv ((s.getD j k0).b), str ((s.getD j k0).text)]) hs_a nM rfl Tryz.isAgg115 Tryz.sizeOf115 (flat_take encK_len k0 s j (by omega)) rfl (by decide)) ?_
   refine go ?_
   refine jA [] (N_szCall (s.getD j k0) l1 (hse j hlt) (by omega) (by omega)) ?_
   rintro _ _ ⟨_, rfl, rfl, rfl⟩
   refine go ?_
   by_cases h_4 : (szCallF (s.getD j k0) l1) < 0
   · have hneg := h_4
     refine go ?_
     refine jE (.inl rfl) rfl (jC (v := iv (-1)) rfl) (List.nil_sublist _) ?_
     refine ⟨?_, rfl⟩
     rw [szL_step k0 hlt, if_pos hneg] at hR
     rw [← hR]
   have hneg := h_4
   refine go ?_
   refine jV (s.length - (j + 1)) (by omega) ⟨j + 1, szCallF (s.getD j k0) l1, by omega, by omega, by have : szCallF (s.getD j k0) l1 ≤ l1 ∧ -1 ≤ szCallF (s.getD j k0) l1 := szCallF_le (s.getD j k0) l1 (by omega); omega, (by rw [szL_step k0 hlt, if_neg hneg] at hR; exact hR), EL.go, rfl, rfl⟩
 refine go ?_
 refine jE (.inl rfl) rfl (jC (v := iv l1) rfl) (List.nil_sublist _) ?_
 refine ⟨?_, rfl⟩
 rw [List.drop_of_length_le (by omega)] at hR
 rw [← hR]
 rfl

theorem E_toCallS (a : Option Addr) (c : Nat) (s : List CL) (hn : s.length ≤ 1048576) :
   Ct Tryz.prog 171 [.slice a s.length c] [] (fun w => SeesE w (.slice a s.length c) 6 s.length (s.flatMap encK)) (fun r A' => ∃ a' c', r = .slice a' s.length c' ∧ A' = [.row (.slice a' s.length c') 43 6 s.length (s.flatMap encK)]) := by
 refine Ct.intro Tryz.func171 rfl Tryz.ntmps171 (lb rfl) fun w0 hpre => ?_
 have hs_a' : SeesE w0 _ _ _ _ := hpre
 refine go ?_
 refine jF rfl (JO.makeSlice (z := .agg #[iv 0, str [], str [], iv 0, iv 0, str []]) (zc := [iv 0, str [], str [], iv 0, iv 0, str []]) (m := s.length) kf Tryz.typeInfo43 rfl rfl rfl rfl rfl (by unfold maxLen; omega) (by show 72 * _ ≤ _; omega)) ?_
 rintro _ _ ⟨a_1, rfl, rfl⟩
 refine go ?_
 refine jL (fun k_ e_ L_ => ∃ j : Nat, (j ≤ s.length) ∧ EL e_ [(0, .slice a s.length c), (2, .slice none 0 0), (3, .slice a_1 s.length s.length), (4, nv j)] ∧ L_ = [Res.row (.slice a_1 s.length s.length) 43 6 s.length ((s.take j ++ List.replicate (s.length - j) k0).flatMap encK)] ∧ k_ = s.length - j) _ ⟨0, by omega, EL.go, (by rw [flatK]; rfl), rfl⟩ ?_
 rintro _ _ _ ⟨j, hj, ⟨_, rfl⟩, rfl, rfl⟩
 refine go ?_
 by_cases h_2 : ((j : Nat) : Int) < ((s.length : Nat) : Int)
 · have hlt : j < s.length := by omega
   have hs_a : Sees w0 _ _ _ _ := hs_a'.full (by omega)
   refine go ?_
   obtain ⟨hr_3, hr_3b, -⟩ := sees_some hs_a (by omega)
   refine go ?_
   refine jU (jj (vs := [iv ((s.getD j k0).kind), str ((s.getD j k0).name), str ((s.getD j k0).to_), iv ((s.getD j k0).a), iv ((s.getD j k0).b), str ((s.getD j k0).text)]) hs_a nM rfl Tryz.isAgg115 Tryz.sizeOf115 (flat_take encK_len k0 s j (by omega)) rfl (by decide)) ?_
   refine jN [] (N_toCall (s.getD j k0)) ?_
   refine jo fun hst => ?_
   obtain ⟨hr_4, hr_4b, -⟩ := row_some 0 rfl (by omega) hst
   refine go ?_
   refine jF rfl (jx 0 (vs := [iv ((s.getD j k0).kind), str ((s.getD j k0).name), str ((s.getD j k0).to_), iv ((s.getD j k0).a), iv ((s.getD j k0).b), str ((s.getD j k0).text)]) (cs' := ((s.take j ++ List.replicate (s.length - j) k0).set j (s.getD j k0)).flatMap encK) rfl rfl rfl rfl kX rfl rfl (by decide) (by rw [flat_length encK_len]; (try rw [List.length_set]); rw [fill_len k0 hj]; omega) (flat_set encK_len (s.take j ++ List.replicate (s.length - j) k0) j (s.getD j k0) (by rw [fill_len k0 hj]; omega))) ?_
   rintro _ _ rfl
   refine go ?_
   refine jV (s.length - (j + 1)) (by omega) ⟨j + 1, by omega, EL.go, (by rw [← fill_step k0 hlt]; rfl), rfl⟩
 refine go ?_
 refine jE (.inl rfl) rfl (jC (v := .slice a_1 s.length s.length) rfl) (List.Sublist.refl _) ?_
 exact ⟨_, _, rfl, by rw [fill_done k0 (by omega)]⟩

theorem E_szAnswerS (a : Option Addr) (c : Nat) (s : List AN) (l : Int) (h0 : 0 ≤ l) (h1 : l ≤ 1048576) (hn : s.length ≤ 9223372036854775807) (hse : ∀ j, j < s.length → (s.getD j a0_).text.length ≤ 9223372036854775807) :
   Ct Tryz.prog 167 [.slice a s.length c, .int .i64 l] [] (fun w => SeesE w (.slice a s.length c) 3 s.length (s.flatMap encA)) (fun r A' => r = .int .i64 (szLS szAnsF s l) ∧ A' = []) := by
 refine Ct.intro Tryz.func167 rfl Tryz.ntmps167 (lb rfl) fun w0 hpre => ?_
 have hs_a' : SeesE w0 _ _ _ _ := hpre
 refine go ?_
 refine jK (jg (c := l - ((s.length : Nat) : Int)) rfl rfl (wr (by omega))) ?_
 refine go ?_
 by_cases h_1 : (l - ((s.length : Nat) : Int)) < 0
 · refine go ?_
   refine jE (.inl rfl) rfl (jC (v := iv (-1)) rfl) (List.nil_sublist _) ?_
   refine ⟨?_, rfl⟩
   rw [szLS, if_pos (by omega)]
 refine go ?_
 refine jL (fun k_ e_ L_ => ∃ j : Nat, ∃ l1 : Int, (j ≤ s.length) ∧ (0 ≤ l1) ∧ (l1 ≤ 1048576) ∧ (szL szAnsF (s.drop j) l1 = szLS szAnsF s l) ∧ EL e_ [(0, .slice a s.length c), (1, iv l1), (5, nv j)] ∧ L_ = [] ∧ k_ = s.length - j) _ ⟨0, (l - (s.length : Int)), by omega, by omega, by omega, (by rw [szLS, if_neg (by omega)]; rfl), EL.go, rfl, rfl⟩ ?_
 rintro _ _ _ ⟨j, l1, hj, hl, hl2, hR, ⟨_, rfl⟩, rfl, rfl⟩
 refine go ?_
 by_cases h_2 : ((j : Nat) : Int) < ((s.length : Nat) : Int)
 · have hlt : j < s.length := by omega
   have hs_a : Sees w0 _ _ _ _ := hs_a'.full (by omega)
   refine go ?_
   obtain ⟨hr_3, hr_3b, -⟩ := sees_some hs_a (by omega)
   refine go ?_
   refine jU (jj (vs := [iv ((s.getD j a0_).code), iv ((s.getD j a0_).n), str ((s.getD j a0_).text)]) hs_a nM rfl Tryz.isAgg246 Tryz.sizeOf246 (flat_take encA_len a0_ s j (by omega)) rfl (by decide)) ?_
   refine go ?_
   refine jN [] (C_szAnswer (s.getD j a0_) l1 (by omega) (by omega) (hse j hlt)) ?_
   refine go ?_
   by_cases h_4 : (szAnsF (s.getD j a0_) l1) < 0
   · have hneg := h_4
     refine go ?_
     refine jE (.inl rfl) rfl (jC (v := iv (-1)) rfl) (List.nil_sublist _) ?_
     refine ⟨?_, rfl⟩
     rw [szL_step a0_ hlt, if_pos hneg] at hR
     rw [← hR]
   have hneg := h_4
   refine go ?_
   refine jV (s.length - (j + 1)) (by omega) ⟨j + 1, szAnsF (s.getD j a0_) l1, by omega, by omega, by have : szAnsF (s.getD j a0_) l1 ≤ l1 ∧ -1 ≤ szAnsF (s.getD j a0_) l1 := szAnsF_le (s.getD j a0_) l1 (by omega); omega, (by rw [szL_step a0_ hlt, if_neg hneg] at hR; exact hR), EL.go, rfl, rfl⟩
 refine go ?_
 refine jE (.inl rfl) rfl (jC (v := iv l1) rfl) (List.nil_sublist _) ?_
 refine ⟨?_, rfl⟩
 rw [List.drop_of_length_le (by omega)] at hR
 rw [← hR]
 rfl

theorem E_toAnswerS (a : Option Addr) (c : Nat) (s : List AN) (hn : s.length ≤ 1048576) :
   Ct Tryz.prog 172 [.slice a s.length c] [] (fun w => SeesE w (.slice a s.length c) 3 s.length (s.flatMap encA)) (fun r A' => ∃ a' c', r = .slice a' s.length c' ∧ A' = [.row (.slice a' s.length c') 39 3 s.length (s.flatMap encA)]) := by
 refine Ct.intro Tryz.func172 rfl Tryz.ntmps172 (lb rfl) fun w0 hpre => ?_
 have hs_a' : SeesE w0 _ _ _ _ := hpre
 refine go ?_
 refine jF rfl (JO.makeSlice (z := .agg #[iv 0, iv 0, str []]) (zc := [iv 0, iv 0, str []]) (m := s.length) ke Tryz.typeInfo39 rfl rfl rfl rfl rfl (by unfold maxLen; omega) (by show 32 * _ ≤ _; omega)) ?_
 rintro _ _ ⟨a_1, rfl, rfl⟩
 refine go ?_
 refine jL (fun k_ e_ L_ => ∃ j : Nat, (j ≤ s.length) ∧ EL e_ [(0, .slice a s.length c), (2, .slice none 0 0), (3, .slice a_1 s.length s.length), (4, nv j)] ∧ L_ = [Res.row (.slice a_1 s.length s.length) 39 3 s.length ((s.take j ++ List.replicate (s.length - j) a0_).flatMap encA)] ∧ k_ = s.length - j) _ ⟨0, by omega, EL.go, (by rw [flatA]; rfl), rfl⟩ ?_
 rintro _ _ _ ⟨j, hj, ⟨_, rfl⟩, rfl, rfl⟩
 refine go ?_
 by_cases h_2 : ((j : Nat) : Int) < ((s.length : Nat) : Int)
 · have hlt : j < s.length := by omega
   have hs_a : Sees w0 _ _ _ _ := hs_a'.full (by omega)
   refine go ?_
   obtain ⟨hr_3, hr_3b, -⟩ := sees_some hs_a (by omega)
   refine go ?_
   refine jU (jj (vs := [iv ((s.getD j a0_).code), iv ((s.getD j a0_).n), str ((s.getD j a0_).text)]) hs_a nM rfl Tryz.isAgg246 Tryz.sizeOf246 (flat_take encA_len a0_ s j (by omega)) rfl (by decide)) ?_
   refine jN [] (N_toAnswer (s.getD j a0_)) ?_
   refine jo fun hst => ?_
   obtain ⟨hr_4, hr_4b, -⟩ := row_some 0 rfl (by omega) hst
   refine go ?_
   refine jF rfl (jx 0 (vs := [iv ((s.getD j a0_).code), iv ((s.getD j a0_).n), str ((s.getD j a0_).text)]) (cs' := ((s.take j ++ List.replicate (s.length - j) a0_).set j (s.getD j a0_)).flatMap encA) rfl rfl rfl rfl kY rfl rfl (by decide) (by rw [flat_length encA_len]; (try rw [List.length_set]); rw [fill_len a0_ hj]; omega) (flat_set encA_len (s.take j ++ List.replicate (s.length - j) a0_) j (s.getD j a0_) (by rw [fill_len a0_ hj]; omega))) ?_
   rintro _ _ rfl
   refine go ?_
   refine jV (s.length - (j + 1)) (by omega) ⟨j + 1, by omega, EL.go, (by rw [← fill_step a0_ hlt]; rfl), rfl⟩
 refine go ?_
 refine jE (.inl rfl) rfl (jC (v := .slice a_1 s.length s.length) rfl) (List.Sublist.refl _) ?_
 exact ⟨_, _, rfl, by rw [fill_done a0_ (by omega)]⟩

theorem E_szStringS (a : Option Addr) (c : Nat) (s : List Str) (l : Int) (h0 : 0 ≤ l) (h1 : l ≤ 1048576) (hn : s.length ≤ 9223372036854775807) (hsz : ∀ j, j < s.length → (s.getD j []).length ≤ 9223372036854775807) :
   Ct Tryz.prog 270 [.slice a s.length c, .int .i64 l] [] (fun w => SeesE w (.slice a s.length c) 1 s.length (s.map str)) (fun r A' => r = .int .i64 (szStringS s l) ∧ A' = []) := by
 refine Ct.intro Tryz.func270 rfl Tryz.ntmps270 (lb rfl) fun w0 hpre => ?_
 have hs_a' : SeesE w0 _ _ _ _ := hpre
 refine go ?_
 refine jK (jg (c := l - ((s.length : Nat) : Int)) rfl rfl (wr (by omega))) ?_
 refine go ?_
 by_cases h_1 : (l - ((s.length : Nat) : Int)) < 0
 · refine go ?_
   refine jE (.inl rfl) rfl (jC (v := iv (-1)) rfl) (List.nil_sublist _) ?_
   refine ⟨?_, rfl⟩
   rw [szStringS, if_pos (by omega)]
 refine go ?_
 refine jL (fun k_ e_ L_ => ∃ j : Nat, ∃ l1 : Int, (j ≤ s.length) ∧ (0 ≤ l1) ∧ (l1 ≤ 1048576) ∧ (szStrs (s.drop j) l1 = szStringS s l) ∧ EL e_ [(0, .slice a s.length c), (1, iv l1), (5, nv j)] ∧ L_ = [] ∧ k_ = s.length - j) _ ⟨0, (l - (s.length : Int)), by omega, by omega, by omega, (by rw [szStringS, if_neg (by omega)]; rfl), EL.go, rfl, rfl⟩ ?_
 rintro _ _ _ ⟨j, l1, hj, hl, hl2, hR, ⟨_, rfl⟩, rfl, rfl⟩
 refine go ?_
 by_cases h_2 : ((j : Nat) : Int) < ((s.length : Nat) : Int)
 · have hlt : j < s.length := by omega
   have hs_a : Sees w0 _ _ _ _ := hs_a'.full (by omega)
   refine go ?_
   obtain ⟨hr_3, hr_3b, -⟩ := sees_some hs_a (by omega)
   refine go ?_
   have hszj := hsz j hlt
   refine jU (jY (v := str (s.getD j [])) hs_a nM rfl kJ (atS (by omega))) ?_
   refine go ?_
   refine jK (jg (c := l1 - ((s.getD j []).length : Int)) rfl rfl (wr (by omega))) ?_
   refine go ?_
   by_cases h_4 : (l1 - ((s.getD j []).length : Int)) < 0
   · have hneg := h_4
     refine go ?_
     refine jE (.inl rfl) rfl (jC (v := iv (-1)) rfl) (List.nil_sublist _) ?_
     refine ⟨?_, rfl⟩
     rw [szStrs_step hlt, if_pos hneg] at hR
     rw [← hR]
   have hneg := h_4
   refine go ?_
   refine jV (s.length - (j + 1)) (by omega) ⟨j + 1, l1 - ((s.getD j []).length : Int), by omega, by omega, by omega, (by rw [szStrs_step hlt, if_neg hneg] at hR; exact hR), EL.go, rfl, rfl⟩
 refine go ?_
 refine jE (.inl rfl) rfl (jC (v := iv l1) rfl) (List.nil_sublist _) ?_
 refine ⟨?_, rfl⟩
 rw [List.drop_of_length_le (by omega)] at hR
 rw [← hR]
 rfl

theorem E_toStringS (a : Option Addr) (c : Nat) (s : List Str) (hn : s.length ≤ 1048576) :
   Ct Tryz.prog 272 [.slice a s.length c] [] (fun w => SeesE w (.slice a s.length c) 1 s.length (s.map str)) (fun r A' => ∃ a' c', r = .slice a' s.length c' ∧ A' = [.row (.slice a' s.length c') 9 1 s.length (s.map str)]) := by
 refine Ct.intro Tryz.func272 rfl Tryz.ntmps272 (lb rfl) fun w0 hpre => ?_
 have hs_a' : SeesE w0 _ _ _ _ := hpre
 refine go ?_
 refine jF rfl (JO.makeSlice (z := str []) (zc := [str []]) (m := s.length) kI kd rfl rfl rfl rfl rfl (by unfold maxLen; omega) (by show 16 * _ ≤ _; omega)) ?_
 rintro _ _ ⟨a_1, rfl, rfl⟩
 refine go ?_
 refine jL (fun k_ e_ L_ => ∃ j : Nat, (j ≤ s.length) ∧ EL e_ [(0, .slice a s.length c), (2, .slice none 0 0), (3, .slice a_1 s.length s.length), (4, nv j)] ∧ L_ = [Res.row (.slice a_1 s.length s.length) 9 1 s.length ((s.take j ++ List.replicate (s.length - j) []).map str)] ∧ k_ = s.length - j) _ ⟨0, by omega, EL.go, (by rw [replS]; rfl), rfl⟩ ?_
 rintro _ _ _ ⟨j, hj, ⟨_, rfl⟩, rfl, rfl⟩
 refine go ?_
 by_cases h_2 : ((j : Nat) : Int) < ((s.length : Nat) : Int)
 · have hlt : j < s.length := by omega
   have hs_a : Sees w0 _ _ _ _ := hs_a'.full (by omega)
   refine go ?_
   obtain ⟨hr_3, hr_3b, -⟩ := sees_some hs_a (by omega)
   refine go ?_
   refine jU (jY (v := str (s.getD j [])) hs_a nM rfl kJ (atS (by omega))) ?_
   refine jo fun hst => ?_
   obtain ⟨hr_4, hr_4b, -⟩ := row_some 0 rfl (by omega) hst
   refine go ?_
   refine jF rfl (jx 0 (vs := [str (s.getD j [])]) (cs' := ((s.take j ++ List.replicate (s.length - j) []).set j (s.getD j [])).map str) rfl rfl rfl rfl kM rfl rfl (by decide) (by rw [List.length_map]; rw [fill_len [] hj]; omega) (setS (by rw [fill_len [] hj]; omega))) ?_
   rintro _ _ rfl
   refine go ?_
   refine jV (s.length - (j + 1)) (by omega) ⟨j + 1, by omega, EL.go, (by rw [← fill_step [] hlt]; rfl), rfl⟩
 refine go ?_
 refine jE (.inl rfl) rfl (jC (v := .slice a_1 s.length s.length) rfl) (List.Sublist.refl _) ?_
 exact ⟨_, _, rfl, by rw [fill_done [] (by omega)]⟩

theorem E_szCellS (a : Option Addr) (c : Nat) (s : List Cell) (l : Int) (h0 : 0 ≤ l) (h1 : l ≤ 1048576) (hn : s.length ≤ 9223372036854775807) (hsz : ∀ j, j < s.length → (s.getD j c0).1.length ≤ 9223372036854775807 ∧ (s.getD j c0).2.length ≤ 9223372036854775807) :
   Ct Tryz.prog 83 [.slice a s.length c, .int .i64 l] [] (fun w => SeesE w (.slice a s.length c) 2 s.length (s.flatMap encC)) (fun r A' => r = .int .i64 (szCellS s l) ∧ A' = []) := by
 refine Ct.intro Tryz.func83 rfl Tryz.ntmps83 (lb rfl) fun w0 hpre => ?_
 have hs_a' : SeesE w0 _ _ _ _ := hpre
 refine go ?_
 refine jK (jg (c := l - ((s.length : Nat) : Int)) rfl rfl (wr (by omega))) ?_
 refine go ?_
 by_cases h_1 : (l - ((s.length : Nat) : Int)) < 0
 · refine go ?_
   refine jE (.inl rfl) rfl (jC (v := iv (-1)) rfl) (List.nil_sublist _) ?_
   refine ⟨?_, rfl⟩
   rw [szCellS, if_pos (by omega)]
 refine go ?_
 refine jL (fun k_ e_ L_ => ∃ j : Nat, ∃ l1 : Int, (j ≤ s.length) ∧ (0 ≤ l1) ∧ (l1 ≤ 1048576) ∧ (szCells (s.drop j) l1 = szCellS s l) ∧ EL e_ [(0, .slice a s.length c), (1, iv l1), (5, nv j)] ∧ L_ = [] ∧ k_ = s.length - j) _ ⟨0, (l - (s.length : Int)), by omega, by omega, by omega, (by rw [szCellS, if_neg (by omega)]; rfl), EL.go, rfl, rfl⟩ ?_
 rintro _ _ _ ⟨j, l1, hj, hl, hl2, hR, ⟨_, rfl⟩, rfl, rfl⟩
 refine go ?_
 by_cases h_2 : ((j : Nat) : Int) < ((s.length : Nat) : Int)
 · have hlt : j < s.length := by omega
   have hs_a : Sees w0 _ _ _ _ := hs_a'.full (by omega)
   refine go ?_
   obtain ⟨hr_3, hr_3b, -⟩ := sees_some hs_a (by omega)
   refine go ?_
   refine jU (jj (vs := [str ((s.getD j c0).1), str ((s.getD j c0).2)]) hs_a nM rfl Tryz.isAgg180 Tryz.sizeOf180 (atC (by omega)) rfl (by decide)) ?_
   refine go ?_
   refine jN [] (C_szCell ((s.getD j c0).1) ((s.getD j c0).2) l1 (by omega) (by omega) (hsz j (by omega)).1 (hsz j (by omega)).2) ?_
   refine go ?_
   by_cases h_4 : (szCell ((s.getD j c0).1) ((s.getD j c0).2) l1) < 0
   · have hneg := h_4
     refine go ?_
     refine jE (.inl rfl) rfl (jC (v := iv (-1)) rfl) (List.nil_sublist _) ?_
     refine ⟨?_, rfl⟩
     rw [szCells_step hlt, if_pos hneg] at hR
     rw [← hR]
   have hneg := h_4
   refine go ?_
   refine jV (s.length - (j + 1)) (by omega) ⟨j + 1, szCell ((s.getD j c0).1) ((s.getD j c0).2) l1, by omega, by omega, by have := szCell_le (s.getD j c0).1 (s.getD j c0).2 l1 (by omega); omega, (by rw [szCells_step hlt, if_neg hneg] at hR; exact hR), EL.go, rfl, rfl⟩
 refine go ?_
 refine jE (.inl rfl) rfl (jC (v := iv l1) rfl) (List.nil_sublist _) ?_
 refine ⟨?_, rfl⟩
 rw [List.drop_of_length_le (by omega)] at hR
 rw [← hR]
 rfl

theorem E_toCellS (a : Option Addr) (c : Nat) (s : List Cell) (hn : s.length ≤ 1048576) :
   Ct Tryz.prog 86 [.slice a s.length c] [] (fun w => SeesE w (.slice a s.length c) 2 s.length (s.flatMap encC)) (fun r A' => ∃ a' c', r = .slice a' s.length c' ∧ A' = [.row (.slice a' s.length c') 130 2 s.length (s.flatMap encC)]) := by
 refine Ct.intro Tryz.func86 rfl Tryz.ntmps86 (lb rfl) fun w0 hpre => ?_
 have hs_a' : SeesE w0 _ _ _ _ := hpre
 refine go ?_
 refine jF rfl (JO.makeSlice (z := .agg #[str [], str []]) (zc := [str [], str []]) (m := s.length) kK ko rfl rfl rfl rfl rfl (by unfold maxLen; omega) (by show 32 * _ ≤ _; omega)) ?_
 rintro _ _ ⟨a_1, rfl, rfl⟩
 refine go ?_
 refine jL (fun k_ e_ L_ => ∃ j : Nat, (j ≤ s.length) ∧ EL e_ [(0, .slice a s.length c), (2, .slice none 0 0), (3, .slice a_1 s.length s.length), (4, nv j)] ∧ L_ = [Res.row (.slice a_1 s.length s.length) 130 2 s.length ((s.take j ++ List.replicate (s.length - j) c0).flatMap encC)] ∧ k_ = s.length - j) _ ⟨0, by omega, EL.go, (by rw [replC]; rfl), rfl⟩ ?_
 rintro _ _ _ ⟨j, hj, ⟨_, rfl⟩, rfl, rfl⟩
 refine go ?_
 by_cases h_2 : ((j : Nat) : Int) < ((s.length : Nat) : Int)
 · have hlt : j < s.length := by omega
   have hs_a : Sees w0 _ _ _ _ := hs_a'.full (by omega)
   refine go ?_
   obtain ⟨hr_3, hr_3b, -⟩ := sees_some hs_a (by omega)
   refine go ?_
   refine jU (jj (vs := [str ((s.getD j c0).1), str ((s.getD j c0).2)]) hs_a nM rfl Tryz.isAgg180 Tryz.sizeOf180 (atC (by omega)) rfl (by decide)) ?_
   refine jN [] (C_toCell ((s.getD j c0).1) ((s.getD j c0).2)) ?_
   refine jo fun hst => ?_
   obtain ⟨hr_4, hr_4b, -⟩ := row_some 0 rfl (by omega) hst
   refine go ?_
   refine jF rfl (jx 0 (vs := [str ((s.getD j c0).1), str ((s.getD j c0).2)]) (cs' := ((s.take j ++ List.replicate (s.length - j) c0).set j ((s.getD j c0).1, (s.getD j c0).2)).flatMap encC) rfl rfl rfl rfl kP rfl rfl (by decide) (by rw [lenC]; rw [fill_len c0 hj]; omega) (setC (by rw [fill_len c0 hj]; omega))) ?_
   rintro _ _ rfl
   refine go ?_
   refine jV (s.length - (j + 1)) (by omega) ⟨j + 1, by omega, EL.go, (by rw [← fill_step c0 hlt]; rfl), rfl⟩
 refine go ?_
 refine jE (.inl rfl) rfl (jC (v := .slice a_1 s.length s.length) rfl) (List.Sublist.refl _) ?_
 exact ⟨_, _, rfl, by rw [fill_done c0 (by omega)]⟩

theorem E_szIntS (a : Option Addr) (c : Nat) (s : List Int) (l : Int) (h0 : 0 ≤ l) (h1 : l ≤ 1048576) (hn : s.length ≤ 9223372036854775807) :
   Ct Tryz.prog 169 [.slice a s.length c, .int .i64 l] [] (fun w => SeesE w (.slice a s.length c) 1 s.length (s.map (Value.int .i64))) (fun r A' => r = .int .i64 (szIntF s l) ∧ A' = []) := by
 refine Ct.intro Tryz.func169 rfl Tryz.ntmps169 (lb rfl) fun w0 hpre => ?_
 have hs_a' : SeesE w0 _ _ _ _ := hpre
 refine go ?_
 refine jK (jg (c := l - ((s.length : Nat) : Int)) rfl rfl (wr (by omega))) ?_
 refine go ?_
 by_cases h_1 : (l - ((s.length : Nat) : Int)) < 0
 · refine go ?_
   refine jE (.inl rfl) rfl (jC (v := iv (-1)) rfl) (List.nil_sublist _) ?_
   refine ⟨congrArg (Value.int .i64) ?_, rfl⟩
   unfold szIntF
   first | rw [if_pos (by omega)] | rw [if_neg (by omega)]
 refine go ?_
 refine jE (.inl rfl) rfl (jC (v := iv (l - ((s.length : Nat) : Int))) rfl) (List.nil_sublist _) ?_
 refine ⟨congrArg (Value.int .i64) ?_, rfl⟩
 unfold szIntF
 first | rw [if_pos (by omega)] | rw [if_neg (by omega)]

theorem E_toIntS (a : Option Addr) (c : Nat) (s : List Int) (hn : s.length ≤ 1048576) :
   Ct Tryz.prog 174 [.slice a s.length c] [] (fun w => SeesE w (.slice a s.length c) 1 s.length (s.map (Value.int .i64))) (fun r A' => ∃ a' c', r = .slice a' s.length c' ∧ A' = [.row (.slice a' s.length c') 3 1 s.length (s.map (Value.int .i64))]) := by
 refine Ct.intro Tryz.func174 rfl Tryz.ntmps174 (lb rfl) fun w0 hpre => ?_
 have hs_a' : SeesE w0 _ _ _ _ := hpre
 refine go ?_
 refine jF rfl (JO.makeSlice (z := iv 0) (zc := [iv 0]) (m := s.length) kL kl rfl rfl rfl rfl rfl (by unfold maxLen; omega) (by show 8 * _ ≤ _; omega)) ?_
 rintro _ _ ⟨a_1, rfl, rfl⟩
 refine go ?_
 refine jL (fun k_ e_ L_ => ∃ j : Nat, (j ≤ s.length) ∧ EL e_ [(0, .slice a s.length c), (2, .slice none 0 0), (3, .slice a_1 s.length s.length), (4, nv j)] ∧ L_ = [Res.row (.slice a_1 s.length s.length) 3 1 s.length ((s.take j ++ List.replicate (s.length - j) 0).map (Value.int .i64))] ∧ k_ = s.length - j) _ ⟨0, by omega, EL.go, (by rw [replI]; rfl), rfl⟩ ?_
 rintro _ _ _ ⟨j, hj, ⟨_, rfl⟩, rfl, rfl⟩
 refine go ?_
 by_cases h_2 : ((j : Nat) : Int) < ((s.length : Nat) : Int)
 · have hlt : j < s.length := by omega
   have hs_a : Sees w0 _ _ _ _ := hs_a'.full (by omega)
   refine go ?_
   obtain ⟨hr_3, hr_3b, -⟩ := sees_some hs_a (by omega)
   refine go ?_
   refine jU (jY (v := iv (s.getD j 0)) hs_a nM rfl kR (atI (by omega))) ?_
   refine jo fun hst => ?_
   obtain ⟨hr_4, hr_4b, -⟩ := row_some 0 rfl (by omega) hst
   refine go ?_
   refine jF rfl (jx 0 (vs := [iv (s.getD j 0)]) (cs' := ((s.take j ++ List.replicate (s.length - j) 0).set j (s.getD j 0)).map (Value.int .i64)) rfl rfl rfl rfl kS rfl rfl (by decide) (by rw [List.length_map]; rw [fill_len 0 hj]; omega) (setI' (by rw [fill_len 0 hj]; omega))) ?_
   rintro _ _ rfl
   refine go ?_
   refine jV (s.length - (j + 1)) (by omega) ⟨j + 1, by omega, EL.go, (by rw [← fill_step 0 hlt]; rfl), rfl⟩
 refine go ?_
 refine jE (.inl rfl) rfl (jC (v := .slice a_1 s.length s.length) rfl) (List.Sublist.refl _) ?_
 exact ⟨_, _, rfl, by rw [fill_done 0 (by omega)]⟩

theorem E_szTouch (a1 a2 : Option Addr) (c1 c2 : Nat) (r w : List Str) (l : Int) (h0 : 0 ≤ l) (h1 : l ≤ 1048576) (hok_r : okS r) (hok_w : okS w) :
   Ct Tryz.prog 168 [.agg #[.slice a1 r.length c1, .slice a2 w.length c2], .int .i64 l] [] (fun w_ => SeesE w_ (.slice a1 r.length c1) 1 r.length (r.map str) ∧ SeesE w_ (.slice a2 w.length c2) 1 w.length (w.map str)) (fun v A' => v = .int .i64 (szTouch r w l) ∧ A' = []) := by
 refine Ct.intro Tryz.func168 rfl Tryz.ntmps168 (lb rfl) fun w0 hpre => ?_
 refine go ?_
 refine jM [.slice a1 r.length c1, .slice a2 w.length c2] fun b_1 => ?_
 refine go ?_
 refine jN [] (E_szStringS a1 c1 r l (by omega) (by omega) hok_r.1 hok_r.2) (hpre := fun w hw => hw.seeOutE hpre.1 nM) ?_
 have hle_2 := szStringS_le r l (by omega)
 refine go ?_
 by_cases h_3 : (szStringS r l) < 0
 · refine go ?_
   refine jE (.inl rfl) rfl (jC (v := iv (-1)) rfl) (List.nil_sublist _) ?_
   refine ⟨congrArg (Value.int .i64) ?_, rfl⟩
   unfold szTouch
   (repeat (first | rw [if_pos (by omega)] | rw [if_neg (by omega)]))
 refine go ?_
 refine jN [] (E_szStringS a2 c2 w (szStringS r l) (by omega) (by omega) hok_w.1 hok_w.2) (hpre := fun w hw => hw.seeOutE hpre.2 nM) ?_
 have hle_4 := szStringS_le w (szStringS r l) (by omega)
 refine go ?_
 by_cases h_5 : (szStringS w (szStringS r l)) < 0
 · refine go ?_
   refine jE (.inl rfl) rfl (jC (v := iv (-1)) rfl) (List.nil_sublist _) ?_
   refine ⟨congrArg (Value.int .i64) ?_, rfl⟩
   unfold szTouch
   (repeat (first | rw [if_pos (by omega)] | rw [if_neg (by omega)]))
 refine go ?_
 refine jE (.inl rfl) rfl (jC (v := iv (szStringS w (szStringS r l))) rfl) (List.nil_sublist _) ?_
 refine ⟨congrArg (Value.int .i64) ?_, rfl⟩
 unfold szTouch
 (repeat (first | rw [if_pos (by omega)] | rw [if_neg (by omega)]))

theorem E_toTouch (a1 a2 : Option Addr) (c1 c2 : Nat) (r w : List Str) (hr : r.length ≤ 1048576) (hw_ : w.length ≤ 1048576) :
   Ct Tryz.prog 173 [.agg #[.slice a1 r.length c1, .slice a2 w.length c2]] [] (fun w_ => SeesE w_ (.slice a1 r.length c1) 1 r.length (r.map str) ∧ SeesE w_ (.slice a2 w.length c2) 1 w.length (w.map str)) (fun v A' => ∃ b1 d1 b2 d2, v = .agg #[.slice b1 r.length d1, .slice b2 w.length d2] ∧ A' = [.row (.slice b1 r.length d1) 9 1 r.length (r.map str), .row (.slice b2 w.length d2) 9 1 w.length (w.map str)]) := by
 refine Ct.intro Tryz.func173 rfl Tryz.ntmps173 (lb rfl) fun w0 hpre => ?_
 refine go ?_
 refine jM [.slice a1 r.length c1, .slice a2 w.length c2] fun b_1 => ?_
 refine jG [.slice none 0 0, .slice none 0 0] fun b_2 => ?_
 refine go ?_
 refine jG [.slice none 0 0, .slice none 0 0] fun b_3 => ?_
 refine go ?_
 refine jA [] (E_toStringS a1 c1 r (by omega)) (hpre := fun w hw => hw.seeOutE hpre.1 nM) ?_
 rintro _ _ ⟨a_4, c_5, rfl, rfl⟩
 refine go ?_
 refine jD 1 [.slice a_4 r.length c_5, .slice none 0 0] ?_
 refine go ?_
 refine jA [] (E_toStringS a2 c2 w (by omega)) (hpre := fun w hw => hw.seeOutE hpre.2 nM) ?_
 rintro _ _ ⟨a_6, c_7, rfl, rfl⟩
 refine go ?_
 refine jD 2 [.slice a_4 r.length c_5, .slice a_6 w.length c_7] ?_
 refine go ?_
 refine jD 3 [.slice a_4 r.length c_5, .slice a_6 w.length c_7] ?_
 refine go ?_
 exact jJ [1, 0] ⟨_, _, _, _, rfl, rfl⟩

theorem C_szTx (p : TX) (l : Int) (h0 : 0 ≤ l) (h1 : l ≤ 1048576) (hz : p.t.okz) :
   Ct Tryz.prog 84 [.agg #[.int .i64 p.t.id, .int .i64 p.t.age, .int .i64 p.t.proc, .int .i64 p.t.began, .slice p.x.a0 p.t.calls.length p.x.c0, .slice p.x.a1 p.t.ans.length p.x.c1, .slice p.x.a2 p.t.rd.length p.x.c2, .slice p.x.a3 p.t.wr.length p.x.c3, .slice p.x.a4 p.t.marks.length p.x.c4, .int .i64 p.t.state], .int .i64 l] [] (fun w => SeesAE w (rdsX p)) (fun r A' => r = .int .i64 (szTxF p.t l) ∧ A' = []) := by
 refine Ct.intro Tryz.func84 rfl Tryz.ntmps84 (lb rfl) fun w0 hpre => ?_
 obtain ⟨hs_1, hs_2, hs_3, hs_4, hs_5⟩ := seesXE hpre
 refine go ?_
 refine jM (xc p) fun b_6 => ?_
 refine go ?_
 refine jN [] (E_szCallS p.x.a0 p.x.c0 p.t.calls l (by omega) (by omega) hz.k0.1 hz.k0.2) (hpre := fun w hw => hw.seeOutE hs_1 nM) ?_
 have hle_7 := szLS_le szCallF_le p.t.calls l (by omega)
 refine go ?_
 by_cases h_8 : (szLS szCallF p.t.calls l) < 0
 · refine go ?_
   refine jE (.inl rfl) rfl (jC (v := iv (-1)) rfl) (List.nil_sublist _) ?_
   refine ⟨congrArg (Value.int .i64) ?_, rfl⟩
   simp only [szTxF, chk, id_eq]
   (repeat (first | rw [if_pos (by omega)] | rw [if_neg (by omega)]))
 refine go ?_
 refine jN [] (E_szAnswerS p.x.a1 p.x.c1 p.t.ans (szLS szCallF p.t.calls l) (by omega) (by omega) hz.k1.1 hz.k1.2) (hpre := fun w hw => hw.seeOutE hs_2 nM) ?_
 have hle_9 := szLS_le szAnsF_le p.t.ans (szLS szCallF p.t.calls l) (by omega)
 refine go ?_
 by_cases h_10 : (szLS szAnsF p.t.ans (szLS szCallF p.t.calls l)) < 0
 · refine go ?_
   refine jE (.inl rfl) rfl (jC (v := iv (-1)) rfl) (List.nil_sublist _) ?_
   refine ⟨congrArg (Value.int .i64) ?_, rfl⟩
   simp only [szTxF, chk, id_eq]
   (repeat (first | rw [if_pos (by omega)] | rw [if_neg (by omega)]))
 refine go ?_
 refine jN [] (E_szTouch p.x.a2 p.x.a3 p.x.c2 p.x.c3 p.t.rd p.t.wr (szLS szAnsF p.t.ans (szLS szCallF p.t.calls l)) (by omega) (by omega) hz.k2 hz.k3) (hpre := fun w hw => ⟨hw.seeOutE hs_3 nM, hw.seeOutE hs_4 nM⟩) ?_
 have hle_11 := szTouch_le p.t.rd p.t.wr (szLS szAnsF p.t.ans (szLS szCallF p.t.calls l)) (by omega)
 refine go ?_
 by_cases h_12 : (szTouch p.t.rd p.t.wr (szLS szAnsF p.t.ans (szLS szCallF p.t.calls l))) < 0
 · refine go ?_
   refine jE (.inl rfl) rfl (jC (v := iv (-1)) rfl) (List.nil_sublist _) ?_
   refine ⟨congrArg (Value.int .i64) ?_, rfl⟩
   simp only [szTxF, chk, id_eq]
   (repeat (first | rw [if_pos (by omega)] | rw [if_neg (by omega)]))
 refine go ?_
 refine jN [] (E_szIntS p.x.a4 p.x.c4 p.t.marks (szTouch p.t.rd p.t.wr (szLS szAnsF p.t.ans (szLS szCallF p.t.calls l))) (by omega) (by omega) hz.k4) (hpre := fun w hw => hw.seeOutE hs_5 nM) ?_
 have hle_13 := szIntF_le p.t.marks (szTouch p.t.rd p.t.wr (szLS szAnsF p.t.ans (szLS szCallF p.t.calls l))) (by omega)
 refine go ?_
 by_cases h_14 : (szIntF p.t.marks (szTouch p.t.rd p.t.wr (szLS szAnsF p.t.ans (szLS szCallF p.t.calls l)))) < 0
 · refine go ?_
   refine jE (.inl rfl) rfl (jC (v := iv (-1)) rfl) (List.nil_sublist _) ?_
   refine ⟨congrArg (Value.int .i64) ?_, rfl⟩
   simp only [szTxF, chk, id_eq]
   (repeat (first | rw [if_pos (by omega)] | rw [if_neg (by omega)]))
 refine go ?_
 refine jE (.inl rfl) rfl (jC (v := iv (szIntF p.t.marks (szTouch p.t.rd p.t.wr (szLS szAnsF p.t.ans (szLS szCallF p.t.calls l))))) rfl) (List.nil_sublist _) ?_
 refine ⟨congrArg (Value.int .i64) ?_, rfl⟩
 simp only [szTxF, chk, id_eq]
 (repeat (first | rw [if_pos (by omega)] | rw [if_neg (by omega)]))

theorem C_toTx (p : TX) (hl : p.t.lim 1048576) :
   Ct Tryz.prog 87 [.agg #[.int .i64 p.t.id, .int .i64 p.t.age, .int .i64 p.t.proc, .int .i64 p.t.began, .slice p.x.a0 p.t.calls.length p.x.c0, .slice p.x.a1 p.t.ans.length p.x.c1, .slice p.x.a2 p.t.rd.length p.x.c2, .slice p.x.a3 p.t.wr.length p.x.c3, .slice p.x.a4 p.t.marks.length p.x.c4, .int .i64 p.t.state]] [] (fun w => SeesAE w (rdsX p)) (fun v A' => ∃ y : TX, y.t = p.t ∧ v = .agg #[.int .i64 y.t.id, .int .i64 y.t.age, .int .i64 y.t.proc, .int .i64 y.t.began, .slice y.x.a0 y.t.calls.length y.x.c0, .slice y.x.a1 y.t.ans.length y.x.c1, .slice y.x.a2 y.t.rd.length y.x.c2, .slice y.x.a3 y.t.wr.length y.x.c3, .slice y.x.a4 y.t.marks.length y.x.c4, .int .i64 y.t.state] ∧ A' = [.rows (rdsX y)]) := by
 obtain ⟨hb0, hb1, hb2, hb3, hb4⟩ := hl
 refine Ct.intro Tryz.func87 rfl Tryz.ntmps87 (lb rfl) fun w0 hpre => ?_
 obtain ⟨hs_1, hs_2, hs_3, hs_4, hs_5⟩ := seesXE hpre
 refine go ?_
 refine jM (xc p) fun b_6 => ?_
 refine jG xzc fun b_7 => ?_
 refine go ?_
 refine jG xzc fun b_8 => ?_
 refine go ?_
 refine jD 0 [iv p.t.id, iv 0, iv 0, iv 0, .slice none 0 0, .slice none 0 0, .slice none 0 0, .slice none 0 0, .slice none 0 0, iv 0] ?_
 refine go ?_
 refine jD 0 [iv p.t.id, iv p.t.age, iv 0, iv 0, .slice none 0 0, .slice none 0 0, .slice none 0 0, .slice none 0 0, .slice none 0 0, iv 0] ?_
 refine go ?_
 refine jD 0 [iv p.t.id, iv p.t.age, iv p.t.proc, iv 0, .slice none 0 0, .slice none 0 0, .slice none 0 0, .slice none 0 0, .slice none 0 0, iv 0] ?_
 refine go ?_
 refine jD 0 [iv p.t.id, iv p.t.age, iv p.t.proc, iv p.t.began, .slice none 0 0, .slice none 0 0, .slice none 0 0, .slice none 0 0, .slice none 0 0, iv 0] ?_
 refine go ?_
 refine jA [] (E_toCallS p.x.a0 p.x.c0 p.t.calls (by omega)) (hpre := fun w hw => hw.seeOutE hs_1 nM) ?_
 rintro _ _ ⟨a_9, c_10, rfl, rfl⟩
 refine go ?_
 refine jD 1 [iv p.t.id, iv p.t.age, iv p.t.proc, iv p.t.began, .slice a_9 p.t.calls.length c_10, .slice none 0 0, .slice none 0 0, .slice none 0 0, .slice none 0 0, iv 0] ?_
 refine go ?_
 refine jA [] (E_toAnswerS p.x.a1 p.x.c1 p.t.ans (by omega)) (hpre := fun w hw => hw.seeOutE hs_2 nM) ?_
 rintro _ _ ⟨a_11, c_12, rfl, rfl⟩
 refine go ?_
 refine jD 2 [iv p.t.id, iv p.t.age, iv p.t.proc, iv p.t.began, .slice a_9 p.t.calls.length c_10, .slice a_11 p.t.ans.length c_12, .slice none 0 0, .slice none 0 0, .slice none 0 0, iv 0] ?_
 refine go ?_
 refine jA [] (E_toTouch p.x.a2 p.x.a3 p.x.c2 p.x.c3 p.t.rd p.t.wr (by omega) (by omega)) (hpre := fun w hw => ⟨hw.seeOutE hs_3 nM, hw.seeOutE hs_4 nM⟩) ?_
 rintro _ _ ⟨a_13, c_14, a_15, c_16, rfl, rfl⟩
 refine go ?_
 refine jD 4 [iv p.t.id, iv p.t.age, iv p.t.proc, iv p.t.began, .slice a_9 p.t.calls.length c_10, .slice a_11 p.t.ans.length c_12, .slice a_13 p.t.rd.length c_14, .slice a_15 p.t.wr.length c_16, .slice none 0 0, iv 0] ?_
 refine go ?_
 refine jA [] (E_toIntS p.x.a4 p.x.c4 p.t.marks (by omega)) (hpre := fun w hw => hw.seeOutE hs_5 nM) ?_
 rintro _ _ ⟨a_17, c_18, rfl, rfl⟩
 refine go ?_
 refine jD 5 [iv p.t.id, iv p.t.age, iv p.t.proc, iv p.t.began, .slice a_9 p.t.calls.length c_10, .slice a_11 p.t.ans.length c_12, .slice a_13 p.t.rd.length c_14, .slice a_15 p.t.wr.length c_16, .slice a_17 p.t.marks.length c_18, iv 0] ?_
 refine go ?_
 refine jD 5 [iv p.t.id, iv p.t.age, iv p.t.proc, iv p.t.began, .slice a_9 p.t.calls.length c_10, .slice a_11 p.t.ans.length c_12, .slice a_13 p.t.rd.length c_14, .slice a_15 p.t.wr.length c_16, .slice a_17 p.t.marks.length c_18, iv p.t.state] ?_
 refine go ?_
 refine jD 6 [iv p.t.id, iv p.t.age, iv p.t.proc, iv p.t.began, .slice a_9 p.t.calls.length c_10, .slice a_11 p.t.ans.length c_12, .slice a_13 p.t.rd.length c_14, .slice a_15 p.t.wr.length c_16, .slice a_17 p.t.marks.length c_18, iv p.t.state] ?_
 refine jb <| jT <| jz ?_
 refine jw (L' := [Res.rows (rdsX (⟨⟨a_9, c_10, a_11, c_12, a_13, c_14, a_15, c_16, a_17, c_18⟩, p.t⟩ : TX)), bk b_8 35 [iv p.t.id, iv p.t.age, iv p.t.proc, iv p.t.began, .slice a_9 p.t.calls.length c_10, .slice a_11 p.t.ans.length c_12, .slice a_13 p.t.rd.length c_14, .slice a_15 p.t.wr.length c_16, .slice a_17 p.t.marks.length c_18, iv p.t.state], bk b_7 35 [iv p.t.id, iv p.t.age, iv p.t.proc, iv p.t.began, .slice a_9 p.t.calls.length c_10, .slice a_11 p.t.ans.length c_12, .slice a_13 p.t.rd.length c_14, .slice a_15 p.t.wr.length c_16, .slice a_17 p.t.marks.length c_18, iv p.t.state], bk b_6 114 (xc p)]) (fun w hw => hw.closeR (A := rdsX (⟨⟨a_9, c_10, a_11, c_12, a_13, c_14, a_15, c_16, a_17, c_18⟩, p.t⟩ : TX)) [4, 3, 1, 1, 0] rfl) ?_
 exact jJ [0] ⟨(⟨⟨a_9, c_10, a_11, c_12, a_13, c_14, a_15, c_16, a_17, c_18⟩, p.t⟩ : TX), rfl, rfl, rfl⟩

theorem C_eqTx (p q : TX) (hl : p.t.lim 1000000000) :
   Ct Tryz.prog 89 [.agg #[.int .i64 p.t.id, .int .i64 p.t.age, .int .i64 p.t.proc, .int .i64 p.t.began, .slice p.x.a0 p.t.calls.length p.x.c0, .slice p.x.a1 p.t.ans.length p.x.c1, .slice p.x.a2 p.t.rd.length p.x.c2, .slice p.x.a3 p.t.wr.length p.x.c3, .slice p.x.a4 p.t.marks.length p.x.c4, .int .i64 p.t.state], .agg #[.int .i64 q.t.id, .int .i64 q.t.age, .int .i64 q.t.proc, .int .i64 q.t.began, .slice q.x.a0 q.t.calls.length q.x.c0, .slice q.x.a1 q.t.ans.length q.x.c1, .slice q.x.a2 q.t.rd.length q.x.c2, .slice q.x.a3 q.t.wr.length q.x.c3, .slice q.x.a4 q.t.marks.length q.x.c4, .int .i64 q.t.state]] [] (fun w => SeesA w (rdsX p) ∧ SeesA w (rdsX q)) (fun v A' => v = .bool (decide (p.t = q.t)) ∧ A' = []) := by
 obtain ⟨hb0, hb1, hb2, hb3, hb4⟩ := hl
 refine Ct.intro Tryz.func89 rfl Tryz.ntmps89 (lb rfl) fun w0 hpre => ?_
 obtain ⟨hs_1, hs_2, hs_3, hs_4, hs_5⟩ := seesX hpre.1
 obtain ⟨hs_6, hs_7, hs_8, hs_9, hs_10⟩ := seesX hpre.2
 refine go ?_
 refine jM (xc p) fun b_11 => ?_
 refine jM (xc q) fun b_12 => ?_
 refine go ?_
 by_cases h_13 : p.t.id = q.t.id
 · refine go ?_
   by_cases h_14 : p.t.age = q.t.age
   · refine go ?_
     by_cases h_15 : p.t.proc = q.t.proc
     · refine go ?_
       by_cases h_16 : p.t.began = q.t.began
       · refine go ?_
         refine jN [] (C_eqCallS p.x.a0 q.x.a0 p.x.c0 q.x.c0 p.t.calls q.t.calls (by omega)) (hpre := fun w hw => ⟨hw.seeOut_ hs_1 nM, hw.seeOut_ hs_6 nM⟩) ?_
         refine go ?_
         by_cases h_17 : p.t.calls = q.t.calls
         · refine go ?_
           refine jN [] (C_eqAnswerS p.x.a1 q.x.a1 p.x.c1 q.x.c1 p.t.ans q.t.ans (by omega)) (hpre := fun w hw => ⟨hw.seeOut_ hs_2 nM, hw.seeOut_ hs_7 nM⟩) ?_
           refine go ?_
           by_cases h_18 : p.t.ans = q.t.ans
           · refine go ?_
             refine jN [] (Y_eqTouch p.x.a2 p.x.a3 q.x.a2 q.x.a3 p.x.c2 p.x.c3 q.x.c2 q.x.c3 p.t.rd p.t.wr q.t.rd q.t.wr (by omega) (by omega)) (hpre := fun w hw => ⟨hw.seeOut_ hs_3 nM, hw.seeOut_ hs_4 nM, hw.seeOut_ hs_8 nM, hw.seeOut_ hs_9 nM⟩) ?_
             refine go ?_
             by_cases h_19 : p.t.rd = q.t.rd ∧ p.t.wr = q.t.wr
             · obtain ⟨ht_20, ht_21⟩ := id h_19
               refine go ?_
               refine jN [] (Y_eqIntS p.x.a4 q.x.a4 p.x.c4 q.x.c4 p.t.marks q.t.marks (by omega)) (hpre := fun w hw => ⟨hw.seeOut_ hs_5 nM, hw.seeOut_ hs_10 nM⟩) ?_
               refine go ?_
               by_cases h_22 : p.t.marks = q.t.marks
               · refine go ?_
                 by_cases h_23 : p.t.state = q.t.state
                 · refine go ?_
                   refine jE (.inl rfl) rfl (jC (v := .bool true) rfl) (List.nil_sublist _) ?_
                   exact ⟨cB (dT (TD.same.2 ⟨by assumption, by assumption, by assumption, by assumption, by assumption, by assumption, by assumption, by assumption, by assumption, by assumption⟩)).symm, rfl⟩
                 refine go ?_
                 refine jE (.inl rfl) rfl (jC (v := .bool false) rfl) (List.nil_sublist _) ?_
                 exact ⟨cB (dF (fun h_ => by obtain ⟨h_0, h_1, h_2, h_3, h_4, h_5, h_6, h_7, h_8, h_9⟩ := TD.same.1 h_; first | contradiction | (exact absurd ⟨h_6, h_7⟩ ‹¬(_ ∧ _)›))).symm, rfl⟩
               refine go ?_
               refine jE (.inl rfl) rfl (jC (v := .bool false) rfl) (List.nil_sublist _) ?_
               exact ⟨cB (dF (fun h_ => by obtain ⟨h_0, h_1, h_2, h_3, h_4, h_5, h_6, h_7, h_8, h_9⟩ := TD.same.1 h_; first | contradiction | (exact absurd ⟨h_6, h_7⟩ ‹¬(_ ∧ _)›))).symm, rfl⟩
             refine go ?_
             refine jE (.inl rfl) rfl (jC (v := .bool false) rfl) (List.nil_sublist _) ?_
             exact ⟨cB (dF (fun h_ => by obtain ⟨h_0, h_1, h_2, h_3, h_4, h_5, h_6, h_7, h_8, h_9⟩ := TD.same.1 h_; first | contradiction | (exact absurd ⟨h_6, h_7⟩ ‹¬(_ ∧ _)›))).symm, rfl⟩
           refine go ?_
           refine jE (.inl rfl) rfl (jC (v := .bool false) rfl) (List.nil_sublist _) ?_
           exact ⟨cB (dF (fun h_ => by obtain ⟨h_0, h_1, h_2, h_3, h_4, h_5, h_6, h_7, h_8, h_9⟩ := TD.same.1 h_; first | contradiction | (exact absurd ⟨h_6, h_7⟩ ‹¬(_ ∧ _)›))).symm, rfl⟩
         refine go ?_
         refine jE (.inl rfl) rfl (jC (v := .bool false) rfl) (List.nil_sublist _) ?_
         exact ⟨cB (dF (fun h_ => by obtain ⟨h_0, h_1, h_2, h_3, h_4, h_5, h_6, h_7, h_8, h_9⟩ := TD.same.1 h_; first | contradiction | (exact absurd ⟨h_6, h_7⟩ ‹¬(_ ∧ _)›))).symm, rfl⟩
       refine go ?_
       refine jE (.inl rfl) rfl (jC (v := .bool false) rfl) (List.nil_sublist _) ?_
       exact ⟨cB (dF (fun h_ => by obtain ⟨h_0, h_1, h_2, h_3, h_4, h_5, h_6, h_7, h_8, h_9⟩ := TD.same.1 h_; first | contradiction | (exact absurd ⟨h_6, h_7⟩ ‹¬(_ ∧ _)›))).symm, rfl⟩
     refine go ?_
     refine jE (.inl rfl) rfl (jC (v := .bool false) rfl) (List.nil_sublist _) ?_
     exact ⟨cB (dF (fun h_ => by obtain ⟨h_0, h_1, h_2, h_3, h_4, h_5, h_6, h_7, h_8, h_9⟩ := TD.same.1 h_; first | contradiction | (exact absurd ⟨h_6, h_7⟩ ‹¬(_ ∧ _)›))).symm, rfl⟩
   refine go ?_
   refine jE (.inl rfl) rfl (jC (v := .bool false) rfl) (List.nil_sublist _) ?_
   exact ⟨cB (dF (fun h_ => by obtain ⟨h_0, h_1, h_2, h_3, h_4, h_5, h_6, h_7, h_8, h_9⟩ := TD.same.1 h_; first | contradiction | (exact absurd ⟨h_6, h_7⟩ ‹¬(_ ∧ _)›))).symm, rfl⟩
 refine go ?_
 refine jE (.inl rfl) rfl (jC (v := .bool false) rfl) (List.nil_sublist _) ?_
 exact ⟨cB (dF (fun h_ => by obtain ⟨h_0, h_1, h_2, h_3, h_4, h_5, h_6, h_7, h_8, h_9⟩ := TD.same.1 h_; first | contradiction | (exact absurd ⟨h_6, h_7⟩ ‹¬(_ ∧ _)›))).symm, rfl⟩
end Go.Proofs.YthlfmbbaomdciaaGreatDoor
namespace Go.Proofs.YthlfmbbaomdciaaGreatDoor
open Go Go.RowKit
theorem szCells_memK : ∀ (s : List Cell) (l : Int), ¬ szCells s l < 0 → 0 ≤ l → ∀ c ∈ s, (c.1.length : Int) ≤ l ∧ (c.2.length : Int) ≤ l
 | [], l, _, h0, c, hc => by simp at hc
 | d :: s, l, h, h0, c, hc => by
   unfold szCells at h
   split at h
   · omega
   · rename_i hd
     have hle := szCell_le d.1 d.2 l h0
     simp only [List.mem_cons] at hc
     rcases hc with rfl | hc
     · unfold szCell at hd
       split at hd
       · omega
       · split at hd <;> omega
     · have ih := szCells_memK s _ h (by omega) c hc
       omega
theorem szCellS_okC {s : List Cell} (h : ¬ szCellS s 1048576 < 0) : okC' 1048576 1048576 s := by
 unfold szCellS at h
 split at h
 · omega
 · rename_i h1
   refine ⟨by omega, fun c hc => ?_⟩
   have := szCells_memK s _ h (by omega) c hc
   omega
theorem szL_memK {α : Type} {f : α → Int → Int} (hf : ∀ x l, 0 ≤ l → f x l ≤ l ∧ -1 ≤ f x l) : ∀ (s : List α) (l : Int), ¬ szL f s l < 0 → 0 ≤ l → ∀ x ∈ s, ∃ q, 0 ≤ q ∧ q ≤ l ∧ ¬ f x q < 0
 | [], l, _, h0, c, hc => by simp at hc
 | d :: s, l, h, h0, c, hc => by
   unfold szL at h
   split at h
   · omega
   · rename_i hd
     have hle := hf d l h0
     simp only [List.mem_cons] at hc
     rcases hc with rfl | hc
     · exact ⟨l, h0, Int.le_refl _, hd⟩
     · obtain ⟨q, h1, h2, h3⟩ := szL_memK hf s _ h (by omega) c hc
       exact ⟨q, h1, by omega, h3⟩
theorem call_okK {c : CL} {l : Int} (hz : c.ok 9223372036854775807) (h : ¬ szCallF c l < 0) (hl : l ≤ 1048576) : c.ok 1048576 := by
 have h1 := szCall_ok h
 exact ⟨hz.h1, hz.h2, hz.h3, by omega, by omega, by omega⟩
theorem szTxF_okT {t : TD} {l : Int} (hz : t.okz) (hp : -9223372036854775808 ≤ t.proc ∧ t.proc ≤ 9223372036854775807) (h0 : 0 ≤ l) (hl : l ≤ 1048576) (h : ¬ szTxF t l < 0) : okT t := by
 have h1 := szTxF_all h0 h
 unfold szTxF at h
 obtain ⟨h2, _, _⟩ := chk_pos h
 refine ⟨fun c hc => ?_, by omega, hp⟩
 unfold szLS at h2
 split at h2
 · omega
 · rename_i h3
   obtain ⟨q, q1, q2, q3⟩ := szL_memK szCallF_le t.calls _ h2 (by omega) c hc
   obtain ⟨j, hj, rfl⟩ := List.getElem_of_mem hc
   have h4 := hz.k0.2 j hj
   rw [List.getD_eq_getElem?_getD, List.getElem?_eq_getElem hj] at h4
   exact call_okK h4 q3 (by omega)
theorem ask_lim {v : List Cell} {t z : TD} {c : CL} {a : AN} (h : t.lim 1048576) (e : TD.askV v t c = (z, a)) (hb : z.rd.length ≤ t.rd.length + 200000000 ∧ z.wr.length ≤ t.wr.length + 200000000) : z.lim 500000000 := by
 obtain ⟨h0, h1, h2, h3, h4⟩ := h
 by_cases hs : t.state = 1
 · by_cases h12 : 12 ≤ t.calls.length
   · rw [askV_full hs h12] at e
     cases e
     exact ⟨by omega, by omega, by omega, by omega, by omega⟩
   · rw [askV_on hs h12] at e
     simp only [Prod.mk.injEq] at e
     obtain ⟨rfl, _⟩ := e
     dsimp only at hb
     exact ⟨by simp only [List.length_append, List.length_cons, List.length_nil]; omega, by simp only [List.length_append, List.length_cons, List.length_nil]; omega, by dsimp only; omega, by dsimp only; omega, by dsimp only; omega⟩
 · rw [askV_off hs] at e
   cases e
   exact ⟨by omega, by omega, by omega, by omega, by omega⟩
theorem growX {i : Nat} (h : i < 12) : gro 1048576 i ≤ 28000000 := Nat.le_trans (gro_le 1048576 (show i ≤ 11 by omega)) (by decide)
theorem growTX {i : Nat} (h : i < 12) : groT 1048576 0 i ≤ 1000000000 := Nat.le_trans (groT_le 1048576 0 (show i ≤ 11 by omega)) (by decide)
theorem growBX {i : Nat} (h : i < 12) : 7 * gro 1048576 i + 200 ≤ 200000000 := Nat.le_trans (Nat.add_le_add_right (Nat.mul_le_mul_left 7 (gro_le 1048576 (show i ≤ 11 by omega))) 200) (by decide)
/-- The same call asked once more, by the program or by the reference. -/
theorem ask_same {s : List Cell} {t y y' z z' : TD} {c : CL} {a a' : AN} (hy : y = t) (hy' : y' = t) (e : TD.askV (viewL s y) y c = (z, a)) (e' : TD.askV (viewL s y') y' c = (z', a')) : z' = z ∧ a = a' := by
 subst hy
 subst hy'
 rw [e] at e'
 simp only [Prod.mk.injEq] at e'
 exact ⟨e'.1.symm, e'.2⟩
theorem ask_A {s : List Cell} {y z : TD} {c : CL} {a : AN} (e : TD.askV (viewA s y) y c = (z, a)) : TD.askV (viewL s y) y c = (z, a) := by rw [← view_eq]; exact e
end Go.Proofs.YthlfmbbaomdciaaGreatDoor
