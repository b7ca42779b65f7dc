/-
  The laws' own helpers on nested rows: transactions, slots, disks, entries, kernels (part 40).
-/
import Derived.Test.YtkmpmjficoohkaaGreatDatX
set_option linter.unusedSimpArgs false
set_option linter.unusedVariables false
set_option linter.unnecessarySimpa false
namespace Go.Proofs.YtkmpmjficoohkaaGreat
open Go Go.RowKit
attribute [local irreducible] JL JC JQ JO LO PO JA JX Ct
theorem setI' {l : List Int} {i : Nat} {c : Int} (h : i < l.length) : (l.map (Value.int .i64)).take (i * 1) ++ [.int .i64 c] ++ (l.map (Value.int .i64)).drop (i * 1 + 1) = (l.set i c).map (Value.int .i64) := by
  rw [List.map_set, List.set_eq_take_append_cons_drop, if_pos (by simpa using h)]
  simp
theorem replI (m : Nat) : (List.replicate m [Value.int .i64 0]).flatten = (List.replicate m (0 : Int)).map (Value.int .i64) := by
  induction m with
  | zero => rfl
  | succ m ih => rw [List.replicate_succ, List.flatten_cons, ih, List.replicate_succ, List.map_cons]; rfl

theorem Y_eqTouch (a1 a2 b1 b2 : Option Addr) (c1 c2 d1 d2 : Nat) (r w r' w' : List Str) (h1 : r.length ≤ 9223372036854775807) (h2 : w.length ≤ 9223372036854775807) : Ct Tryz.prog 68 [.agg #[.slice a1 r.length c1, .slice a2 w.length c2], .agg #[.slice b1 r'.length d1, .slice b2 w'.length d2]] [] (fun w_ => Sees w_ (.slice a1 r.length c1) 1 r.length (r.map str) ∧ Sees w_ (.slice a2 w.length c2) 1 w.length (w.map str) ∧ Sees w_ (.slice b1 r'.length d1) 1 r'.length (r'.map str) ∧ Sees w_ (.slice b2 w'.length d2) 1 w'.length (w'.map str)) (fun v A' => v = .bool (decide (r = r' ∧ w = w')) ∧ A' = []) :=
  (C_eqTouch a1 a2 b1 b2 c1 c2 d1 d2 r w r' w' h1 h2).weak (fun _ h => h) fun v A' ⟨hv, hA⟩ => ⟨by rw [hv, Bool.decide_and], hA⟩

theorem Y_eqIntS (a b : Option Addr) (c c' : Nat) (s t : List Int) (hn : s.length ≤ 9223372036854775807) :
    Ct Tryz.prog 69 [.slice a s.length c, .slice b t.length c'] [] (fun w => Sees w (.slice a s.length c) 1 s.length (s.map (Value.int .i64)) ∧ Sees w (.slice b t.length c') 1 t.length (t.map (Value.int .i64))) (fun r A' => r = .bool (decide (s = t)) ∧ A' = []) := by
  refine Ct.intro Tryz.func69 rfl Tryz.ntmps69 (lb rfl) fun w0 hpre => ?_
  have hs_a : Sees w0 _ _ _ _ := hpre.1
  have hs_b : Sees w0 _ _ _ _ := hpre.2
  refine jC <| jE <| jA (jG (v := .bool false) rfl) <| jD <| jB <| jC <| jC <| jE <| jA (jF (v := .slice a s.length c) rfl) <| jA (jf ke rfl) ?_
  refine jA (jF (v := .slice b t.length c') rfl) <| jA (jf ke rfl) <| jA (jz rfl rfl) <| jD <| jB ?_
  by_cases h_1 : ((s.length : Nat) : Int) = ((t.length : Nat) : Int)
  · have hlen := h_1
    refine jP (cB (cN (dT h_1))) <| jQ <| jB <| jC <| jC <| jE <| jA (jG (v := iv 0) rfl) <| jD <| jB <| jZ ?_
    refine jp (fun k_ e_ L_ => ∃ j : Nat, (j ≤ s.length) ∧ (s.take j = t.take j) ∧ (s.length = t.length) ∧ e_ 0 = .slice a s.length c ∧ e_ 1 = .slice b t.length c' ∧ e_ 5 = nv j ∧ L_ = [] ∧ k_ = s.length - j) _ ⟨0, by omega, rfl, by omega, rfl, rfl, rfl, rfl, rfl⟩ ?_
    rintro _ e_2 _ ⟨j, hj, hE, hln, he_3, he_4, he_5, rfl, rfl⟩
    refine jC <| jC <| jE <| jA (jF (v := nv j) he_5) <| jA (jF (v := .slice a s.length c) he_3) <| jA (jf ke rfl) <| jA (jc rfl rfl) <| jD <| jB ?_
    by_cases h_6 : ((j : Nat) : Int) < ((s.length : Nat) : Int)
    · have hlt : j < s.length := by omega
      refine jS (cB (dT h_6)) <| jQ <| jB <| jC <| jZ <| jC <| kG [] 8 mixed (by simp) <| jT 0 rfl (jF (v := .slice a s.length c) he_3) <| jT 1 rfl (jF (v := nv j) he_5) ?_
      obtain ⟨hr_7, hr_7b, -⟩ := sees_some hs_a (by omega)
      refine jT 2 rfl (jX (i := j) ke kW hr_7 hr_7b rfl rfl (by omega)) <| jw 3 rfl (ju (v := iv (s.getD j 0)) hs_a nM rfl kR (atI (by omega))) <| jT 4 rfl (jF (v := .slice b t.length c') he_4) <| jT 5 rfl (jF (v := nv j) he_5) ?_
      obtain ⟨hr_8, hr_8b, -⟩ := sees_some hs_b (by omega)
      refine jT 6 rfl (jX (i := j) ke kW hr_8 hr_8b rfl rfl (by omega)) <| jw 7 rfl (ju (v := iv (t.getD j 0)) hs_b nM rfl kR (atI (by omega))) <| jT 8 rfl (jz rfl rfl) <| kH (by kernel_rfl) <| jB ?_
      by_cases h_9 : (s.getD j 0) = (t.getD j 0)
      · have heq := h_9
        refine jP (cB (cN (dT h_9))) <| jQ <| jk <| jB <| jE <| jA (jF (v := nv j) he_5) <| jA (ja (c := ((j + 1 : Nat) : Int)) rfl rfl (wr (by omega))) <| jA (jG (v := iv ((j + 1 : Nat) : Int)) rfl) <| jD ?_
        refine jl (s.length - (j + 1)) (by omega) ⟨j + 1, by omega, take_succ_eq 0 hE hlt hln heq, hln, he_3, he_4, rfl, rfl, rfl⟩
      have hne := h_9
      refine jS (cB (cN (dF h_9))) <| jC <| jE <| jA (jG (v := .bool false) rfl) <| jD <| jB <| jJ <| je <| jO <| jO ?_
      refine je <| jO <| jL (.inl rfl) rfl (jM (v := .bool false) rfl) (List.nil_sublist _) ?_
      refine ⟨?_, rfl⟩
      rw [dF (fun h => hne (by rw [h]))]
    refine jP (cB (dF h_6)) <| jn <| jb <| jb <| jo <| jB <| jC <| jE <| jA (jG (v := .bool true) rfl) <| jD ?_
    refine jB <| jJ <| jL (.inl rfl) rfl (jM (v := .bool true) rfl) (List.nil_sublist _) ?_
    refine ⟨?_, rfl⟩
    rw [dT (take_all_eq hE (by omega) (by omega))]
  have hlen := h_1
  refine jS (cB (cN (dF h_1))) <| jC <| jE <| jA (jG (v := .bool false) rfl) <| jD <| jB <| jJ <| jO <| jL (.inl rfl) rfl (jM (v := .bool false) rfl) (List.nil_sublist _) ?_
  refine ⟨?_, rfl⟩
  rw [dF (fun h => by rw [h] at hlen; omega)]

theorem Y_markIntS (a : Option Addr) (c : Nat) (l : List Int) (k : Nat) (h0 : 0 < k) (h1 : k + 1 * l.length ≤ 100000000) :
    Ct Tryz.prog 73 [.slice a l.length c, .int .i64 ((k : Nat) : Int)] [rI a c l] (fun _ => True) (fun v A' => v = .int .i64 ((k + 1 * l.length : Nat) : Int) ∧ A' = [.row (.slice a l.length c) 3 1 l.length ((markG mkI 1 l k).map (Value.int .i64))]) := by
  refine Ct.intro Tryz.func73 rfl Tryz.ntmps73 (lb rfl) fun w0 hpre => ?_
  refine jC <| jE <| jA (jG (v := iv 0) rfl) <| jD <| jB <| jC <| jC <| jE <| jA (jG (v := iv 0) rfl) <| jD ?_
  refine jB <| jZ <| jp (fun k_ e_ L_ => ∃ j : Nat, (j ≤ l.length) ∧ e_ 0 = .slice a l.length c ∧ e_ 1 = iv ((k + 1 * j : Nat) : Int) ∧ e_ 4 = iv 0 ∧ e_ 5 = nv j ∧ L_ = [Res.row (.slice a l.length c) 3 1 l.length (((markG mkI 1 l k).take j ++ l.drop j).map (Value.int .i64))] ∧ k_ = l.length - j) _ ⟨0, by omega, rfl, rfl, rfl, rfl, rfl, rfl⟩ ?_
  rintro _ e_1 _ ⟨j, hj, he_2, he_3, he_4, he_5, rfl, rfl⟩
  refine jC <| jC <| jE <| jA (jF (v := nv j) he_5) <| jA (jF (v := .slice a l.length c) he_2) <| jA (jf ke rfl) <| jA (jc rfl rfl) <| jD <| jB ?_
  by_cases h_6 : ((j : Nat) : Int) < ((l.length : Nat) : Int)
  · have hlt : j < l.length := by omega
    refine jS (cB (dT h_6)) <| jQ <| jB <| jC <| jZ <| jC <| jE <| jA (jF (v := .slice a l.length c) he_2) <| jA (jF (v := nv j) he_5) <| jA (jF (v := iv ((k + 1 * j : Nat) : Int)) he_3) ?_
    refine kQ fun hst => ?_
    obtain ⟨hr_7, hr_7b, -⟩ := row_some 0 rfl (by omega) hst
    refine jA (jX (i := j) ke kW hr_7 hr_7b rfl rfl (by omega)) ?_
    refine jH rfl (kD 0 (vs := [iv ((k + 1 * j : Nat) : Int)]) (cs' := (((markG mkI 1 l k).take j ++ l.drop j).set j ((k + 1 * j : Nat) : Int)).map (Value.int .i64)) rfl rfl rfl rfl kW rfl rfl (by decide) (by rw [List.length_map]; rw [markG_lenj mkI 1 hj]; omega) (setI' (by rw [markG_lenj mkI 1 hj]; omega))) ?_
    rintro _ _ rfl
    refine jD <| jB <| jE <| jA (jF (v := iv ((k + 1 * j : Nat) : Int)) he_3) <| jA (ja (c := (((k + 1 * j) + 1 : Nat) : Int)) rfl rfl (wr (by omega))) <| jA (jG (v := iv (((k + 1 * j) + 1 : Nat) : Int)) rfl) <| jD <| jk <| jB <| jE ?_
    refine jA (jF (v := nv j) he_5) <| jA (ja (c := ((j + 1 : Nat) : Int)) rfl rfl (wr (by omega))) <| jA (jG (v := iv ((j + 1 : Nat) : Int)) rfl) <| jD ?_
    refine jl (l.length - (j + 1)) (by omega) ⟨j + 1, by omega, he_2, rfl, he_4, rfl, (by rw [← markG_step mkI 1 hlt]; rfl), rfl⟩
  refine jP (cB (dF h_6)) <| jn <| jb <| jb <| jo <| jB <| jC <| jE <| jA (jF (v := iv ((k + 1 * j : Nat) : Int)) he_3) <| jA (jG (v := iv ((k + 1 * j : Nat) : Int)) rfl) ?_
  refine jD <| jB <| jJ <| jL (.inl rfl) rfl (jM (v := iv ((k + 1 * j : Nat) : Int)) rfl) (List.Sublist.refl _) ?_
  exact ⟨by rw [show j = l.length by omega], by rw [show j = l.length by omega, List.drop_of_length_le (Nat.le_refl _), List.append_nil, List.take_of_length_le (by rw [markG_len]; exact Nat.le_refl _)]⟩

theorem Y_heldIntS (a : Option Addr) (c : Nat) (l : List Int) (k : Nat) (h0 : 0 < k) (h1 : k + 1 * l.length ≤ 100000000) :
    Ct Tryz.prog 107 [.slice a l.length c, .int .i64 ((k : Nat) : Int)] [] (fun w => Sees w (.slice a l.length c) 1 l.length ((markG mkI 1 l k).map (Value.int .i64))) (fun v A' => v = .int .i64 ((k + 1 * l.length : Nat) : Int) ∧ A' = []) := by
  refine Ct.intro Tryz.func107 rfl Tryz.ntmps107 (lb rfl) fun w0 hpre => ?_
  have hs_a : Sees w0 _ _ _ _ := hpre
  refine jC <| jE <| jA (jG (v := iv 0) rfl) <| jD <| jB <| jC <| jC <| jE <| jA (jG (v := iv 0) rfl) <| jD ?_
  refine jB <| jZ <| jp (fun k_ e_ L_ => ∃ j : Nat, (j ≤ l.length) ∧ e_ 0 = .slice a l.length c ∧ e_ 1 = iv ((k + 1 * j : Nat) : Int) ∧ e_ 5 = nv j ∧ L_ = [] ∧ k_ = l.length - j) _ ⟨0, by omega, rfl, rfl, rfl, rfl, rfl⟩ ?_
  rintro _ e_1 _ ⟨j, hj, he_2, he_3, he_4, rfl, rfl⟩
  refine jC <| jC <| jE <| jA (jF (v := nv j) he_4) <| jA (jF (v := .slice a l.length c) he_2) <| jA (jf ke rfl) <| jA (jc rfl rfl) <| jD <| jB ?_
  by_cases h_5 : ((j : Nat) : Int) < ((l.length : Nat) : Int)
  · have hlt : j < l.length := by omega
    refine jS (cB (dT h_5)) <| jQ <| jB <| jC <| jZ <| jC <| jC <| jE <| jA (jF (v := .slice a l.length c) he_2) <| jA (jF (v := nv j) he_4) ?_
    obtain ⟨hr_6, hr_6b, -⟩ := sees_some hs_a (by omega)
    refine jA (jX (i := j) ke kW hr_6 hr_6b rfl rfl (by omega)) <| jK (ju (v := iv ((markG mkI 1 l k).getD j 0)) hs_a nM rfl kR (atI (by rw [markG_len]; omega))) <| jA (jF (v := iv ((k + 1 * j : Nat) : Int)) he_3) <| jA (jz rfl rfl) <| jD <| jB ?_
    by_cases h_7 : ((markG mkI 1 l k).getD j 0) = ((k + 1 * j : Nat) : Int)
    · refine jP (cB (cN (dT h_7))) <| jQ <| jB <| jE <| jA (jF (v := iv ((k + 1 * j : Nat) : Int)) he_3) <| jA (ja (c := (((k + 1 * j) + 1 : Nat) : Int)) rfl rfl (wr (by omega))) <| jA (jG (v := iv (((k + 1 * j) + 1 : Nat) : Int)) rfl) <| jD <| jk <| jB ?_
      refine jE <| jA (jF (v := nv j) he_4) <| jA (ja (c := ((j + 1 : Nat) : Int)) rfl rfl (wr (by omega))) <| jA (jG (v := iv ((j + 1 : Nat) : Int)) rfl) <| jD ?_
      refine jl (l.length - (j + 1)) (by omega) ⟨j + 1, by omega, he_2, rfl, rfl, rfl, rfl⟩
    exfalso; rw [markG_get mkI 1 0 l k j hlt] at h_7; first | omega | exact h_7 rfl
  refine jP (cB (dF h_5)) <| jn <| jb <| jb <| jo <| jB <| jC <| jE <| jA (jF (v := iv ((k + 1 * j : Nat) : Int)) he_3) <| jA (jG (v := iv ((k + 1 * j : Nat) : Int)) rfl) ?_
  refine jD <| jB <| jJ <| jL (.inl rfl) rfl (jM (v := iv ((k + 1 * j : Nat) : Int)) rfl) (List.nil_sublist _) ?_
  exact ⟨by rw [show j = l.length by omega], rfl⟩

theorem Y_heldStringS (a : Option Addr) (c : Nat) (l : List Str) (k : Nat) (h0 : 0 < k) (h1 : k + l.length ≤ 100000000) : Ct Tryz.prog 53 [.slice a l.length c, .int .i64 ((k : Nat) : Int)] [] (fun w => Sees w (.slice a l.length c) 1 l.length ((markS l k).map str)) (fun v A' => v = .int .i64 ((k + l.length : Nat) : Int) ∧ A' = []) :=
  (C_heldStringS a l.length c (markS l k) k (markS_len l k) h0 (by rw [markS_len]; omega)).weak (fun w h => by rw [markS_len]; exact h) fun v A' ⟨hv, hA⟩ => ⟨by rw [hv, heldS_mark], hA⟩

theorem Y_heldCellS (a : Option Addr) (c : Nat) (l : List Cell) (k : Nat) (h0 : 0 < k) (h1 : k + 2 * l.length ≤ 100000000) : Ct Tryz.prog 49 [.slice a l.length c, .int .i64 ((k : Nat) : Int)] [] (fun w => Sees w (.slice a l.length c) 2 l.length ((markC l k).flatMap encC)) (fun v A' => v = .int .i64 ((k + 2 * l.length : Nat) : Int) ∧ A' = []) :=
  (C_heldCellS a l.length c (markC l k) k (markC_len l k) h0 (by rw [markC_len]; omega)).weak (fun w h => by rw [markC_len]; exact h) fun v A' ⟨hv, hA⟩ => ⟨by rw [hv, heldC_mark], hA⟩

theorem E_szCallS (a : Option Addr) (c : Nat) (s : List CL) (l : Int) (h0 : 0 ≤ l) (h1 : l ≤ 1048576) (hn : s.length ≤ 9223372036854775807) (hse : ∀ j, j < s.length → (s.getD j k0).ok 9223372036854775807) :
    Ct Tryz.prog 54 [.slice a s.length c, .int .i64 l] [] (fun w => SeesE w (.slice a s.length c) 6 s.length (s.flatMap encK)) (fun r A' => r = .int .i64 (szLS szCallF s l) ∧ A' = []) := by
  refine Ct.intro Tryz.func54 rfl Tryz.ntmps54 (lb rfl) fun w0 hpre => ?_
  have hs_a' : SeesE w0 _ _ _ _ := hpre
  refine jC <| jE <| jA (jG (v := iv 0) rfl) <| jD <| jB <| jC <| jE <| jA (jF (v := iv l) rfl) <| jA (jF (v := .slice a s.length c) rfl) <| jA (jf Tryz.underlying48 rfl) ?_
  refine jA (kM (c := l - ((s.length : Nat) : Int)) rfl rfl (wr (by omega))) <| jA (jG (v := iv (l - ((s.length : Nat) : Int))) rfl) <| jD <| jB <| jC <| jC <| jE <| jA (jF (v := iv (l - ((s.length : Nat) : Int))) rfl) <| jA (jc rfl rfl) <| jD ?_
  refine jB ?_
  by_cases h_1 : (l - ((s.length : Nat) : Int)) < 0
  · refine jS (cB (dT h_1)) <| jC <| jE <| jA (jG (v := iv (-1)) rfl) <| jD <| jB <| jJ <| jO <| jL (.inl rfl) rfl (jM (v := iv (-1)) rfl) (List.nil_sublist _) ?_
    refine ⟨?_, rfl⟩
    rw [szLS, if_pos (by omega)]
  refine jP (cB (dF h_1)) <| jQ <| jB <| jC <| jC <| jE <| jA (jG (v := iv 0) rfl) <| jD <| jB <| jZ ?_
  refine jp (fun k_ e_ L_ => ∃ j : Nat, ∃ l1 : Int, (j ≤ s.length) ∧ (0 ≤ l1) ∧ (l1 ≤ 1048576) ∧ (szL szCallF (s.drop j) l1 = szLS szCallF s l) ∧ e_ 0 = .slice a s.length c ∧ e_ 1 = iv l1 ∧ e_ 5 = nv j ∧ L_ = [] ∧ k_ = s.length - j) _ ⟨0, (l - (s.length : Int)), by omega, by omega, by omega, (by rw [szLS, if_neg (by omega)]; rfl), rfl, rfl, rfl, rfl, rfl⟩ ?_
  rintro _ e_2 _ ⟨j, l1, hj, hl, hl2, hR, he_3, he_4, he_5, rfl, rfl⟩
  refine jC <| jC <| jE <| jA (jF (v := nv j) he_5) <| jA (jF (v := .slice a s.length c) he_3) <| jA (jf Tryz.underlying48 rfl) <| jA (jc rfl rfl) <| jD <| jB ?_
  by_cases h_6 : ((j : Nat) : Int) < ((s.length : Nat) : Int)
  · have hlt : j < s.length := by omega
    have hs_a : Sees w0 _ _ _ _ := hs_a'.full (by omega)
    refine jS (cB (dT h_6)) <| jQ <| jB <| jC <| jZ <| jC <| jE <| jA (jF (v := .slice a s.length c) he_3) <| jA (jF (v := nv j) he_5) ?_
    obtain ⟨hr_7, hr_7b, -⟩ := sees_some hs_a (by omega)
    refine jA (jX (i := j) Tryz.underlying48 Tryz.sizeOf148 hr_7 hr_7b rfl rfl (by omega)) <| jK (kF (vs := [iv ((s.getD j k0).kind), str ((s.getD j k0).name), str ((s.getD j k0).to_), iv ((s.getD j k0).a), iv ((s.getD j k0).b), str ((s.getD j k0).text)]) hs_a nM rfl Tryz.isAgg148 Tryz.sizeOf148 (flat_take encK_len k0 s j (by omega)) rfl (by decide)) <| jA (jF (v := iv l1) he_4) ?_
    refine jH rfl (jU [] Tryz.call110 rfl (N_szCall (s.getD j k0) l1 (hse j hlt) (by omega) (by omega)) rfl (fun _ _ => trivial)) ?_
    rintro _ _ ⟨_, ⟨_, rfl, rfl, rfl⟩, rfl⟩
    refine jA (jG (v := iv (szCallF (s.getD j k0) l1)) rfl) <| jD <| jB <| jC <| jE <| jA (jF (v := iv (szCallF (s.getD j k0) l1)) rfl) <| jA (jc rfl rfl) <| jD <| jB ?_
    by_cases h_8 : (szCallF (s.getD j k0) l1) < 0
    · have hneg := h_8
      refine jS (cB (dT h_8)) <| jC <| jE <| jA (jG (v := iv (-1)) rfl) <| jD <| jB <| jJ <| je <| jO <| jO ?_
      refine je <| jO <| jL (.inl rfl) rfl (jM (v := iv (-1)) rfl) (List.nil_sublist _) ?_
      refine ⟨?_, rfl⟩
      rw [szL_step k0 hlt, if_pos hneg] at hR
      rw [← hR]
    have hneg := h_8
    refine jP (cB (dF h_8)) <| jQ <| jk <| jB <| jE <| jA (jF (v := nv j) he_5) <| jA (ja (c := ((j + 1 : Nat) : Int)) rfl rfl (wr (by omega))) <| jA (jG (v := iv ((j + 1 : Nat) : Int)) rfl) <| jD ?_
    refine jl (s.length - (j + 1)) (by omega) ⟨j + 1, szCallF (s.getD j k0) l1, by omega, by omega, by have : szCallF (s.getD j k0) l1 ≤ l1 ∧ -1 ≤ szCallF (s.getD j k0) l1 := szCallF_le (s.getD j k0) l1 (by omega); omega, (by rw [szL_step k0 hlt, if_neg hneg] at hR; exact hR), he_3, rfl, rfl, rfl, rfl⟩
  refine jP (cB (dF h_6)) <| jn <| jb <| jb <| jo <| jB <| jC <| jE <| jA (jF (v := iv l1) he_4) <| jA (jG (v := iv l1) rfl) ?_
  refine jD <| jB <| jJ <| jL (.inl rfl) rfl (jM (v := iv l1) rfl) (List.nil_sublist _) ?_
  refine ⟨?_, rfl⟩
  rw [List.drop_of_length_le (by omega)] at hR
  rw [← hR]
  rfl

theorem E_toCallS (a : Option Addr) (c : Nat) (s : List CL) (hn : s.length ≤ 1048576) :
    Ct Tryz.prog 60 [.slice a s.length c] [] (fun w => SeesE w (.slice a s.length c) 6 s.length (s.flatMap encK)) (fun r A' => ∃ a' c', r = .slice a' s.length c' ∧ A' = [.row (.slice a' s.length c') 152 6 s.length (s.flatMap encK)]) := by
  refine Ct.intro Tryz.func60 rfl Tryz.ntmps60 (lb rfl) fun w0 hpre => ?_
  have hs_a' : SeesE w0 _ _ _ _ := hpre
  refine jC <| jE <| jA (jG (v := .slice none 0 0) rfl) <| jD <| jB <| jC <| jE <| jA (jF (v := .slice a s.length c) rfl) <| jA (jf Tryz.underlying48 rfl) ?_
  refine jH rfl (JO.makeSlice (z := .agg #[iv 0, str [], str [], iv 0, iv 0, str []]) (zc := [iv 0, str [], str [], iv 0, iv 0, str []]) (m := s.length) ki Tryz.typeInfo152 rfl rfl rfl rfl rfl (by unfold maxLen; omega) (by show 72 * _ ≤ _; omega)) ?_
  rintro _ _ ⟨a_1, rfl, rfl⟩
  refine jA (jG (v := .slice a_1 s.length s.length) rfl) <| jD <| jB <| jC <| jC <| jE <| jA (jG (v := iv 0) rfl) <| jD <| jB <| jZ ?_
  refine jp (fun k_ e_ L_ => ∃ j : Nat, (j ≤ s.length) ∧ e_ 0 = .slice a s.length c ∧ e_ 2 = .slice none 0 0 ∧ e_ 3 = .slice a_1 s.length s.length ∧ e_ 4 = nv j ∧ L_ = [Res.row (.slice a_1 s.length s.length) 152 6 s.length ((s.take j ++ List.replicate (s.length - j) k0).flatMap encK)] ∧ k_ = s.length - j) _ ⟨0, by omega, rfl, rfl, rfl, rfl, (by rw [flatK]; rfl), rfl⟩ ?_
  rintro _ e_2 _ ⟨j, hj, he_3, he_4, he_5, he_6, rfl, rfl⟩
  refine jC <| jC <| jE <| jA (jF (v := nv j) he_6) <| jA (jF (v := .slice a s.length c) he_3) <| jA (jf Tryz.underlying48 rfl) <| jA (jc rfl rfl) <| jD <| jB ?_
  by_cases h_7 : ((j : Nat) : Int) < ((s.length : Nat) : Int)
  · have hlt : j < s.length := by omega
    have hs_a : Sees w0 _ _ _ _ := hs_a'.full (by omega)
    refine jS (cB (dT h_7)) <| jQ <| jB <| jC <| jZ <| jE <| jA (jF (v := .slice a_1 s.length s.length) he_5) <| jA (jF (v := nv j) he_6) <| jA (jF (v := .slice a s.length c) he_3) <| jA (jF (v := nv j) he_6) ?_
    obtain ⟨hr_8, hr_8b, -⟩ := sees_some hs_a (by omega)
    refine jA (jX (i := j) Tryz.underlying48 Tryz.sizeOf148 hr_8 hr_8b rfl rfl (by omega)) <| jK (kF (vs := [iv ((s.getD j k0).kind), str ((s.getD j k0).name), str ((s.getD j k0).to_), iv ((s.getD j k0).a), iv ((s.getD j k0).b), str ((s.getD j k0).text)]) hs_a nM rfl Tryz.isAgg148 Tryz.sizeOf148 (flat_take encK_len k0 s j (by omega)) rfl (by decide)) ?_
    refine jH rfl (jU [] Tryz.call112 rfl (N_toCall (s.getD j k0)) rfl (fun _ _ => trivial)) ?_
    rintro _ _ ⟨_, ⟨rfl, rfl⟩, rfl⟩
    refine kQ fun hst => ?_
    obtain ⟨hr_9, hr_9b, -⟩ := row_some 0 rfl (by omega) hst
    refine jA (jX (i := j) ki kp hr_9 hr_9b rfl rfl (by omega)) ?_
    refine jH rfl (kD 0 (vs := [iv ((s.getD j k0).kind), str ((s.getD j k0).name), str ((s.getD j k0).to_), iv ((s.getD j k0).a), iv ((s.getD j k0).b), str ((s.getD j k0).text)]) (cs' := ((s.take j ++ List.replicate (s.length - j) k0).set j (s.getD j k0)).flatMap encK) rfl rfl rfl rfl kp rfl rfl (by decide) (by rw [flat_length encK_len]; (try rw [List.length_set]); rw [fill_len k0 hj]; omega) (flat_set encK_len (s.take j ++ List.replicate (s.length - j) k0) j (s.getD j k0) (by rw [fill_len k0 hj]; omega))) ?_
    rintro _ _ rfl
    refine jD <| jk <| jB <| jE <| jA (jF (v := nv j) he_6) <| jA (ja (c := ((j + 1 : Nat) : Int)) rfl rfl (wr (by omega))) <| jA (jG (v := iv ((j + 1 : Nat) : Int)) rfl) <| jD ?_
    refine jl (s.length - (j + 1)) (by omega) ⟨j + 1, by omega, he_3, he_4, he_5, rfl, (by rw [← fill_step k0 hlt]; rfl), rfl⟩
  refine jP (cB (dF h_7)) <| jn <| jb <| jb <| jo <| jB <| jC <| jE <| jA (jF (v := .slice a_1 s.length s.length) he_5) <| jA (jG (v := .slice a_1 s.length s.length) rfl) ?_
  refine jD <| jB <| jJ <| jL (.inl rfl) rfl (jM (v := .slice a_1 s.length s.length) rfl) (List.Sublist.refl _) ?_
  exact ⟨_, _, rfl, by rw [fill_done k0 (by omega)]⟩

theorem E_szAnswerS (a : Option Addr) (c : Nat) (s : List AN) (l : Int) (h0 : 0 ≤ l) (h1 : l ≤ 1048576) (hn : s.length ≤ 9223372036854775807) (hse : ∀ j, j < s.length → (s.getD j a0_).text.length ≤ 9223372036854775807) :
    Ct Tryz.prog 55 [.slice a s.length c, .int .i64 l] [] (fun w => SeesE w (.slice a s.length c) 3 s.length (s.flatMap encA)) (fun r A' => r = .int .i64 (szLS szAnsF s l) ∧ A' = []) := by
  refine Ct.intro Tryz.func55 rfl Tryz.ntmps55 (lb rfl) fun w0 hpre => ?_
  have hs_a' : SeesE w0 _ _ _ _ := hpre
  refine jC <| jE <| jA (jG (v := iv 0) rfl) <| jD <| jB <| jC <| jE <| jA (jF (v := iv l) rfl) <| jA (jF (v := .slice a s.length c) rfl) <| jA (jf Tryz.underlying49 rfl) ?_
  refine jA (kM (c := l - ((s.length : Nat) : Int)) rfl rfl (wr (by omega))) <| jA (jG (v := iv (l - ((s.length : Nat) : Int))) rfl) <| jD <| jB <| jC <| jC <| jE <| jA (jF (v := iv (l - ((s.length : Nat) : Int))) rfl) <| jA (jc rfl rfl) <| jD ?_
  refine jB ?_
  by_cases h_1 : (l - ((s.length : Nat) : Int)) < 0
  · refine jS (cB (dT h_1)) <| jC <| jE <| jA (jG (v := iv (-1)) rfl) <| jD <| jB <| jJ <| jO <| jL (.inl rfl) rfl (jM (v := iv (-1)) rfl) (List.nil_sublist _) ?_
    refine ⟨?_, rfl⟩
    rw [szLS, if_pos (by omega)]
  refine jP (cB (dF h_1)) <| jQ <| jB <| jC <| jC <| jE <| jA (jG (v := iv 0) rfl) <| jD <| jB <| jZ ?_
  refine jp (fun k_ e_ L_ => ∃ j : Nat, ∃ l1 : Int, (j ≤ s.length) ∧ (0 ≤ l1) ∧ (l1 ≤ 1048576) ∧ (szL szAnsF (s.drop j) l1 = szLS szAnsF s l) ∧ e_ 0 = .slice a s.length c ∧ e_ 1 = iv l1 ∧ e_ 5 = nv j ∧ L_ = [] ∧ k_ = s.length - j) _ ⟨0, (l - (s.length : Int)), by omega, by omega, by omega, (by rw [szLS, if_neg (by omega)]; rfl), rfl, rfl, rfl, rfl, rfl⟩ ?_
  rintro _ e_2 _ ⟨j, l1, hj, hl, hl2, hR, he_3, he_4, he_5, rfl, rfl⟩
  refine jC <| jC <| jE <| jA (jF (v := nv j) he_5) <| jA (jF (v := .slice a s.length c) he_3) <| jA (jf Tryz.underlying49 rfl) <| jA (jc rfl rfl) <| jD <| jB ?_
  by_cases h_6 : ((j : Nat) : Int) < ((s.length : Nat) : Int)
  · have hlt : j < s.length := by omega
    have hs_a : Sees w0 _ _ _ _ := hs_a'.full (by omega)
    refine jS (cB (dT h_6)) <| jQ <| jB <| jC <| jZ <| jC <| jE <| jA (jF (v := .slice a s.length c) he_3) <| jA (jF (v := nv j) he_5) ?_
    obtain ⟨hr_7, hr_7b, -⟩ := sees_some hs_a (by omega)
    refine jA (jX (i := j) Tryz.underlying49 Tryz.sizeOf151 hr_7 hr_7b rfl rfl (by omega)) <| jK (kF (vs := [iv ((s.getD j a0_).code), iv ((s.getD j a0_).n), str ((s.getD j a0_).text)]) hs_a nM rfl Tryz.isAgg151 Tryz.sizeOf151 (flat_take encA_len a0_ s j (by omega)) rfl (by decide)) <| jA (jF (v := iv l1) he_4) ?_
    refine jH rfl (jU [] Tryz.call111 rfl (C_szAnswer (s.getD j a0_) l1 (by omega) (by omega) (hse j hlt)) rfl (fun _ _ => trivial)) ?_
    rintro _ _ ⟨_, ⟨rfl, rfl⟩, rfl⟩
    refine jA (jG (v := iv (szAnsF (s.getD j a0_) l1)) rfl) <| jD <| jB <| jC <| jE <| jA (jF (v := iv (szAnsF (s.getD j a0_) l1)) rfl) <| jA (jc rfl rfl) <| jD <| jB ?_
    by_cases h_8 : (szAnsF (s.getD j a0_) l1) < 0
    · have hneg := h_8
      refine jS (cB (dT h_8)) <| jC <| jE <| jA (jG (v := iv (-1)) rfl) <| jD <| jB <| jJ <| je <| jO <| jO ?_
      refine je <| jO <| jL (.inl rfl) rfl (jM (v := iv (-1)) rfl) (List.nil_sublist _) ?_
      refine ⟨?_, rfl⟩
      rw [szL_step a0_ hlt, if_pos hneg] at hR
      rw [← hR]
    have hneg := h_8
    refine jP (cB (dF h_8)) <| jQ <| jk <| jB <| jE <| jA (jF (v := nv j) he_5) <| jA (ja (c := ((j + 1 : Nat) : Int)) rfl rfl (wr (by omega))) <| jA (jG (v := iv ((j + 1 : Nat) : Int)) rfl) <| jD ?_
    refine jl (s.length - (j + 1)) (by omega) ⟨j + 1, szAnsF (s.getD j a0_) l1, by omega, by omega, by have : szAnsF (s.getD j a0_) l1 ≤ l1 ∧ -1 ≤ szAnsF (s.getD j a0_) l1 := szAnsF_le (s.getD j a0_) l1 (by omega); omega, (by rw [szL_step a0_ hlt, if_neg hneg] at hR; exact hR), he_3, rfl, rfl, rfl, rfl⟩
  refine jP (cB (dF h_6)) <| jn <| jb <| jb <| jo <| jB <| jC <| jE <| jA (jF (v := iv l1) he_4) <| jA (jG (v := iv l1) rfl) ?_
  refine jD <| jB <| jJ <| jL (.inl rfl) rfl (jM (v := iv l1) rfl) (List.nil_sublist _) ?_
  refine ⟨?_, rfl⟩
  rw [List.drop_of_length_le (by omega)] at hR
  rw [← hR]
  rfl

theorem E_toAnswerS (a : Option Addr) (c : Nat) (s : List AN) (hn : s.length ≤ 1048576) :
    Ct Tryz.prog 61 [.slice a s.length c] [] (fun w => SeesE w (.slice a s.length c) 3 s.length (s.flatMap encA)) (fun r A' => ∃ a' c', r = .slice a' s.length c' ∧ A' = [.row (.slice a' s.length c') 154 3 s.length (s.flatMap encA)]) := by
  refine Ct.intro Tryz.func61 rfl Tryz.ntmps61 (lb rfl) fun w0 hpre => ?_
  have hs_a' : SeesE w0 _ _ _ _ := hpre
  refine jC <| jE <| jA (jG (v := .slice none 0 0) rfl) <| jD <| jB <| jC <| jE <| jA (jF (v := .slice a s.length c) rfl) <| jA (jf Tryz.underlying49 rfl) ?_
  refine jH rfl (JO.makeSlice (z := .agg #[iv 0, iv 0, str []]) (zc := [iv 0, iv 0, str []]) (m := s.length) km Tryz.typeInfo154 rfl rfl rfl rfl rfl (by unfold maxLen; omega) (by show 32 * _ ≤ _; omega)) ?_
  rintro _ _ ⟨a_1, rfl, rfl⟩
  refine jA (jG (v := .slice a_1 s.length s.length) rfl) <| jD <| jB <| jC <| jC <| jE <| jA (jG (v := iv 0) rfl) <| jD <| jB <| jZ ?_
  refine jp (fun k_ e_ L_ => ∃ j : Nat, (j ≤ s.length) ∧ e_ 0 = .slice a s.length c ∧ e_ 2 = .slice none 0 0 ∧ e_ 3 = .slice a_1 s.length s.length ∧ e_ 4 = nv j ∧ L_ = [Res.row (.slice a_1 s.length s.length) 154 3 s.length ((s.take j ++ List.replicate (s.length - j) a0_).flatMap encA)] ∧ k_ = s.length - j) _ ⟨0, by omega, rfl, rfl, rfl, rfl, (by rw [flatA]; rfl), rfl⟩ ?_
  rintro _ e_2 _ ⟨j, hj, he_3, he_4, he_5, he_6, rfl, rfl⟩
  refine jC <| jC <| jE <| jA (jF (v := nv j) he_6) <| jA (jF (v := .slice a s.length c) he_3) <| jA (jf Tryz.underlying49 rfl) <| jA (jc rfl rfl) <| jD <| jB ?_
  by_cases h_7 : ((j : Nat) : Int) < ((s.length : Nat) : Int)
  · have hlt : j < s.length := by omega
    have hs_a : Sees w0 _ _ _ _ := hs_a'.full (by omega)
    refine jS (cB (dT h_7)) <| jQ <| jB <| jC <| jZ <| jE <| jA (jF (v := .slice a_1 s.length s.length) he_5) <| jA (jF (v := nv j) he_6) <| jA (jF (v := .slice a s.length c) he_3) <| jA (jF (v := nv j) he_6) ?_
    obtain ⟨hr_8, hr_8b, -⟩ := sees_some hs_a (by omega)
    refine jA (jX (i := j) Tryz.underlying49 Tryz.sizeOf151 hr_8 hr_8b rfl rfl (by omega)) <| jK (kF (vs := [iv ((s.getD j a0_).code), iv ((s.getD j a0_).n), str ((s.getD j a0_).text)]) hs_a nM rfl Tryz.isAgg151 Tryz.sizeOf151 (flat_take encA_len a0_ s j (by omega)) rfl (by decide)) ?_
    refine jH rfl (jU [] Tryz.call113 rfl (N_toAnswer (s.getD j a0_)) rfl (fun _ _ => trivial)) ?_
    rintro _ _ ⟨_, ⟨rfl, rfl⟩, rfl⟩
    refine kQ fun hst => ?_
    obtain ⟨hr_9, hr_9b, -⟩ := row_some 0 rfl (by omega) hst
    refine jA (jX (i := j) km ku hr_9 hr_9b rfl rfl (by omega)) ?_
    refine jH rfl (kD 0 (vs := [iv ((s.getD j a0_).code), iv ((s.getD j a0_).n), str ((s.getD j a0_).text)]) (cs' := ((s.take j ++ List.replicate (s.length - j) a0_).set j (s.getD j a0_)).flatMap encA) rfl rfl rfl rfl ku rfl rfl (by decide) (by rw [flat_length encA_len]; (try rw [List.length_set]); rw [fill_len a0_ hj]; omega) (flat_set encA_len (s.take j ++ List.replicate (s.length - j) a0_) j (s.getD j a0_) (by rw [fill_len a0_ hj]; omega))) ?_
    rintro _ _ rfl
    refine jD <| jk <| jB <| jE <| jA (jF (v := nv j) he_6) <| jA (ja (c := ((j + 1 : Nat) : Int)) rfl rfl (wr (by omega))) <| jA (jG (v := iv ((j + 1 : Nat) : Int)) rfl) <| jD ?_
    refine jl (s.length - (j + 1)) (by omega) ⟨j + 1, by omega, he_3, he_4, he_5, rfl, (by rw [← fill_step a0_ hlt]; rfl), rfl⟩
  refine jP (cB (dF h_7)) <| jn <| jb <| jb <| jo <| jB <| jC <| jE <| jA (jF (v := .slice a_1 s.length s.length) he_5) <| jA (jG (v := .slice a_1 s.length s.length) rfl) ?_
  refine jD <| jB <| jJ <| jL (.inl rfl) rfl (jM (v := .slice a_1 s.length s.length) rfl) (List.Sublist.refl _) ?_
  exact ⟨_, _, rfl, by rw [fill_done a0_ (by omega)]⟩

theorem E_szStepS (a : Option Addr) (c : Nat) (s : List SP) (l : Int) (h0 : 0 ≤ l) (h1 : l ≤ 1048576) (hn : s.length ≤ 9223372036854775807) (hse : ∀ j, j < s.length → (s.getD j p0_).call.ok 9223372036854775807) :
    Ct Tryz.prog 137 [.slice a s.length c, .int .i64 l] [] (fun w => SeesE w (.slice a s.length c) 7 s.length (s.flatMap encP)) (fun r A' => r = .int .i64 (szLS szStepF s l) ∧ A' = []) := by
  refine Ct.intro Tryz.func137 rfl Tryz.ntmps137 (lb rfl) fun w0 hpre => ?_
  have hs_a' : SeesE w0 _ _ _ _ := hpre
  refine jC <| jE <| jA (jG (v := iv 0) rfl) <| jD <| jB <| jC <| jE <| jA (jF (v := iv l) rfl) <| jA (jF (v := .slice a s.length c) rfl) <| jA (jf Tryz.underlying122 rfl) ?_
  refine jA (kM (c := l - ((s.length : Nat) : Int)) rfl rfl (wr (by omega))) <| jA (jG (v := iv (l - ((s.length : Nat) : Int))) rfl) <| jD <| jB <| jC <| jC <| jE <| jA (jF (v := iv (l - ((s.length : Nat) : Int))) rfl) <| jA (jc rfl rfl) <| jD ?_
  refine jB ?_
  by_cases h_1 : (l - ((s.length : Nat) : Int)) < 0
  · refine jS (cB (dT h_1)) <| jC <| jE <| jA (jG (v := iv (-1)) rfl) <| jD <| jB <| jJ <| jO <| jL (.inl rfl) rfl (jM (v := iv (-1)) rfl) (List.nil_sublist _) ?_
    refine ⟨?_, rfl⟩
    rw [szLS, if_pos (by omega)]
  refine jP (cB (dF h_1)) <| jQ <| jB <| jC <| jC <| jE <| jA (jG (v := iv 0) rfl) <| jD <| jB <| jZ ?_
  refine jp (fun k_ e_ L_ => ∃ j : Nat, ∃ l1 : Int, (j ≤ s.length) ∧ (0 ≤ l1) ∧ (l1 ≤ 1048576) ∧ (szL szStepF (s.drop j) l1 = szLS szStepF s l) ∧ e_ 0 = .slice a s.length c ∧ e_ 1 = iv l1 ∧ e_ 5 = nv j ∧ L_ = [] ∧ k_ = s.length - j) _ ⟨0, (l - (s.length : Int)), by omega, by omega, by omega, (by rw [szLS, if_neg (by omega)]; rfl), rfl, rfl, rfl, rfl, rfl⟩ ?_
  rintro _ e_2 _ ⟨j, l1, hj, hl, hl2, hR, he_3, he_4, he_5, rfl, rfl⟩
  refine jC <| jC <| jE <| jA (jF (v := nv j) he_5) <| jA (jF (v := .slice a s.length c) he_3) <| jA (jf Tryz.underlying122 rfl) <| jA (jc rfl rfl) <| jD <| jB ?_
  by_cases h_6 : ((j : Nat) : Int) < ((s.length : Nat) : Int)
  · have hlt : j < s.length := by omega
    have hs_a : Sees w0 _ _ _ _ := hs_a'.full (by omega)
    refine jS (cB (dT h_6)) <| jQ <| jB <| jC <| jZ <| jC <| jE <| jA (jF (v := .slice a s.length c) he_3) <| jA (jF (v := nv j) he_5) ?_
    obtain ⟨hr_7, hr_7b, -⟩ := sees_some hs_a (by omega)
    refine jA (jX (i := j) Tryz.underlying122 Tryz.sizeOf188 hr_7 hr_7b rfl rfl (by omega)) <| jK (kF (vs := [iv ((s.getD j p0_).proc), iv ((s.getD j p0_).call.kind), str ((s.getD j p0_).call.name), str ((s.getD j p0_).call.to_), iv ((s.getD j p0_).call.a), iv ((s.getD j p0_).call.b), str ((s.getD j p0_).call.text)]) hs_a nM rfl Tryz.isAgg188 Tryz.sizeOf188 (flat_take encP_len p0_ s j (by omega)) rfl (by decide)) <| jA (jF (v := iv l1) he_4) ?_
    refine jH rfl (jU [] Tryz.call152 rfl (C_szStep (⟨(s.getD j p0_).proc, (s.getD j p0_).call⟩ : SP) l1 (by omega) (by omega) (hse j hlt)) rfl (fun _ _ => trivial)) ?_
    rintro _ _ ⟨_, ⟨rfl, rfl⟩, rfl⟩
    refine jA (jG (v := iv (szStepF (⟨(s.getD j p0_).proc, (s.getD j p0_).call⟩ : SP) l1)) rfl) <| jD <| jB <| jC <| jE <| jA (jF (v := iv (szStepF (⟨(s.getD j p0_).proc, (s.getD j p0_).call⟩ : SP) l1)) rfl) <| jA (jc rfl rfl) <| jD <| jB ?_
    by_cases h_8 : (szStepF (⟨(s.getD j p0_).proc, (s.getD j p0_).call⟩ : SP) l1) < 0
    · have hneg := h_8
      refine jS (cB (dT h_8)) <| jC <| jE <| jA (jG (v := iv (-1)) rfl) <| jD <| jB <| jJ <| je <| jO <| jO ?_
      refine je <| jO <| jL (.inl rfl) rfl (jM (v := iv (-1)) rfl) (List.nil_sublist _) ?_
      refine ⟨?_, rfl⟩
      rw [szL_step p0_ hlt, if_pos hneg] at hR
      rw [← hR]
    have hneg := h_8
    refine jP (cB (dF h_8)) <| jQ <| jk <| jB <| jE <| jA (jF (v := nv j) he_5) <| jA (ja (c := ((j + 1 : Nat) : Int)) rfl rfl (wr (by omega))) <| jA (jG (v := iv ((j + 1 : Nat) : Int)) rfl) <| jD ?_
    refine jl (s.length - (j + 1)) (by omega) ⟨j + 1, szStepF (⟨(s.getD j p0_).proc, (s.getD j p0_).call⟩ : SP) l1, by omega, by omega, by have : szStepF (⟨(s.getD j p0_).proc, (s.getD j p0_).call⟩ : SP) l1 ≤ l1 ∧ -1 ≤ szStepF (⟨(s.getD j p0_).proc, (s.getD j p0_).call⟩ : SP) l1 := szStepF_le (s.getD j p0_) l1 (by omega); omega, (by rw [szL_step p0_ hlt, if_neg hneg] at hR; exact hR), he_3, rfl, rfl, rfl, rfl⟩
  refine jP (cB (dF h_6)) <| jn <| jb <| jb <| jo <| jB <| jC <| jE <| jA (jF (v := iv l1) he_4) <| jA (jG (v := iv l1) rfl) ?_
  refine jD <| jB <| jJ <| jL (.inl rfl) rfl (jM (v := iv l1) rfl) (List.nil_sublist _) ?_
  refine ⟨?_, rfl⟩
  rw [List.drop_of_length_le (by omega)] at hR
  rw [← hR]
  rfl

theorem E_toStepS (a : Option Addr) (c : Nat) (s : List SP) (hn : s.length ≤ 1048576) :
    Ct Tryz.prog 139 [.slice a s.length c] [] (fun w => SeesE w (.slice a s.length c) 7 s.length (s.flatMap encP)) (fun r A' => ∃ a' c', r = .slice a' s.length c' ∧ A' = [.row (.slice a' s.length c') 179 7 s.length (s.flatMap encP)]) := by
  refine Ct.intro Tryz.func139 rfl Tryz.ntmps139 (lb rfl) fun w0 hpre => ?_
  have hs_a' : SeesE w0 _ _ _ _ := hpre
  refine jC <| jE <| jA (jG (v := .slice none 0 0) rfl) <| jD <| jB <| jC <| jE <| jA (jF (v := .slice a s.length c) rfl) <| jA (jf Tryz.underlying122 rfl) ?_
  refine jH rfl (JO.makeSlice (z := .agg #[iv 0, iv 0, str [], str [], iv 0, iv 0, str []]) (zc := [iv 0, iv 0, str [], str [], iv 0, iv 0, str []]) (m := s.length) ko Tryz.typeInfo179 rfl rfl rfl rfl rfl (by unfold maxLen; omega) (by show 80 * _ ≤ _; omega)) ?_
  rintro _ _ ⟨a_1, rfl, rfl⟩
  refine jA (jG (v := .slice a_1 s.length s.length) rfl) <| jD <| jB <| jC <| jC <| jE <| jA (jG (v := iv 0) rfl) <| jD <| jB <| jZ ?_
  refine jp (fun k_ e_ L_ => ∃ j : Nat, (j ≤ s.length) ∧ e_ 0 = .slice a s.length c ∧ e_ 2 = .slice none 0 0 ∧ e_ 3 = .slice a_1 s.length s.length ∧ e_ 4 = nv j ∧ L_ = [Res.row (.slice a_1 s.length s.length) 179 7 s.length ((s.take j ++ List.replicate (s.length - j) p0_).flatMap encP)] ∧ k_ = s.length - j) _ ⟨0, by omega, rfl, rfl, rfl, rfl, (by rw [flatP]; rfl), rfl⟩ ?_
  rintro _ e_2 _ ⟨j, hj, he_3, he_4, he_5, he_6, rfl, rfl⟩
  refine jC <| jC <| jE <| jA (jF (v := nv j) he_6) <| jA (jF (v := .slice a s.length c) he_3) <| jA (jf Tryz.underlying122 rfl) <| jA (jc rfl rfl) <| jD <| jB ?_
  by_cases h_7 : ((j : Nat) : Int) < ((s.length : Nat) : Int)
  · have hlt : j < s.length := by omega
    have hs_a : Sees w0 _ _ _ _ := hs_a'.full (by omega)
    refine jS (cB (dT h_7)) <| jQ <| jB <| jC <| jZ <| jE <| jA (jF (v := .slice a_1 s.length s.length) he_5) <| jA (jF (v := nv j) he_6) <| jA (jF (v := .slice a s.length c) he_3) <| jA (jF (v := nv j) he_6) ?_
    obtain ⟨hr_8, hr_8b, -⟩ := sees_some hs_a (by omega)
    refine jA (jX (i := j) Tryz.underlying122 Tryz.sizeOf188 hr_8 hr_8b rfl rfl (by omega)) <| jK (kF (vs := [iv ((s.getD j p0_).proc), iv ((s.getD j p0_).call.kind), str ((s.getD j p0_).call.name), str ((s.getD j p0_).call.to_), iv ((s.getD j p0_).call.a), iv ((s.getD j p0_).call.b), str ((s.getD j p0_).call.text)]) hs_a nM rfl Tryz.isAgg188 Tryz.sizeOf188 (flat_take encP_len p0_ s j (by omega)) rfl (by decide)) ?_
    refine jH rfl (jU [] Tryz.call153 rfl (N_toStep (⟨(s.getD j p0_).proc, (s.getD j p0_).call⟩ : SP)) rfl (fun _ _ => trivial)) ?_
    rintro _ _ ⟨_, ⟨rfl, rfl⟩, rfl⟩
    refine kQ fun hst => ?_
    obtain ⟨hr_9, hr_9b, -⟩ := row_some 0 rfl (by omega) hst
    refine jA (jX (i := j) ko kt hr_9 hr_9b rfl rfl (by omega)) ?_
    refine jH rfl (kD 0 (vs := [iv ((s.getD j p0_).proc), iv ((s.getD j p0_).call.kind), str ((s.getD j p0_).call.name), str ((s.getD j p0_).call.to_), iv ((s.getD j p0_).call.a), iv ((s.getD j p0_).call.b), str ((s.getD j p0_).call.text)]) (cs' := ((s.take j ++ List.replicate (s.length - j) p0_).set j (⟨(s.getD j p0_).proc, (s.getD j p0_).call⟩ : SP)).flatMap encP) rfl rfl rfl rfl kt rfl rfl (by decide) (by rw [flat_length encP_len]; (try rw [List.length_set]); rw [fill_len p0_ hj]; omega) (flat_set encP_len (s.take j ++ List.replicate (s.length - j) p0_) j (⟨(s.getD j p0_).proc, (s.getD j p0_).call⟩ : SP) (by rw [fill_len p0_ hj]; omega))) ?_
    rintro _ _ rfl
    refine jD <| jk <| jB <| jE <| jA (jF (v := nv j) he_6) <| jA (ja (c := ((j + 1 : Nat) : Int)) rfl rfl (wr (by omega))) <| jA (jG (v := iv ((j + 1 : Nat) : Int)) rfl) <| jD ?_
    refine jl (s.length - (j + 1)) (by omega) ⟨j + 1, by omega, he_3, he_4, he_5, rfl, (by rw [← fill_step p0_ hlt]; rfl), rfl⟩
  refine jP (cB (dF h_7)) <| jn <| jb <| jb <| jo <| jB <| jC <| jE <| jA (jF (v := .slice a_1 s.length s.length) he_5) <| jA (jG (v := .slice a_1 s.length s.length) rfl) ?_
  refine jD <| jB <| jJ <| jL (.inl rfl) rfl (jM (v := .slice a_1 s.length s.length) rfl) (List.Sublist.refl _) ?_
  exact ⟨_, _, rfl, by rw [fill_done p0_ (by omega)]⟩

theorem E_szStringS (a : Option Addr) (c : Nat) (s : List Str) (l : Int) (h0 : 0 ≤ l) (h1 : l ≤ 1048576) (hn : s.length ≤ 9223372036854775807) (hsz : ∀ j, j < s.length → (s.getD j []).length ≤ 9223372036854775807) :
    Ct Tryz.prog 31 [.slice a s.length c, .int .i64 l] [] (fun w => SeesE w (.slice a s.length c) 1 s.length (s.map str)) (fun r A' => r = .int .i64 (szStringS s l) ∧ A' = []) := by
  refine Ct.intro Tryz.func31 rfl Tryz.ntmps31 (lb rfl) fun w0 hpre => ?_
  have hs_a' : SeesE w0 _ _ _ _ := hpre
  refine jC <| jE <| jA (jG (v := iv 0) rfl) <| jD <| jB <| jC <| jE <| jA (jF (v := iv l) rfl) <| jA (jF (v := .slice a s.length c) rfl) <| jA (jf kV rfl) ?_
  refine jA (kM (c := l - ((s.length : Nat) : Int)) rfl rfl (wr (by omega))) <| jA (jG (v := iv (l - ((s.length : Nat) : Int))) rfl) <| jD <| jB <| jC <| jC <| jE <| jA (jF (v := iv (l - ((s.length : Nat) : Int))) rfl) <| jA (jc rfl rfl) <| jD ?_
  refine jB ?_
  by_cases h_1 : (l - ((s.length : Nat) : Int)) < 0
  · refine jS (cB (dT h_1)) <| jC <| jE <| jA (jG (v := iv (-1)) rfl) <| jD <| jB <| jJ <| jO <| jL (.inl rfl) rfl (jM (v := iv (-1)) rfl) (List.nil_sublist _) ?_
    refine ⟨?_, rfl⟩
    rw [szStringS, if_pos (by omega)]
  refine jP (cB (dF h_1)) <| jQ <| jB <| jC <| jC <| jE <| jA (jG (v := iv 0) rfl) <| jD <| jB <| jZ ?_
  refine jp (fun k_ e_ L_ => ∃ j : Nat, ∃ l1 : Int, (j ≤ s.length) ∧ (0 ≤ l1) ∧ (l1 ≤ 1048576) ∧ (szStrs (s.drop j) l1 = szStringS s l) ∧ e_ 0 = .slice a s.length c ∧ e_ 1 = iv l1 ∧ e_ 5 = nv j ∧ L_ = [] ∧ k_ = s.length - j) _ ⟨0, (l - (s.length : Int)), by omega, by omega, by omega, (by rw [szStringS, if_neg (by omega)]; rfl), rfl, rfl, rfl, rfl, rfl⟩ ?_
  rintro _ e_2 _ ⟨j, l1, hj, hl, hl2, hR, he_3, he_4, he_5, rfl, rfl⟩
  refine jC <| jC <| jE <| jA (jF (v := nv j) he_5) <| jA (jF (v := .slice a s.length c) he_3) <| jA (jf kV rfl) <| jA (jc rfl rfl) <| jD <| jB ?_
  by_cases h_6 : ((j : Nat) : Int) < ((s.length : Nat) : Int)
  · have hlt : j < s.length := by omega
    have hs_a : Sees w0 _ _ _ _ := hs_a'.full (by omega)
    refine jS (cB (dT h_6)) <| jQ <| jB <| jC <| jZ <| jC <| jE <| jA (jF (v := iv l1) he_4) <| jA (jF (v := .slice a s.length c) he_3) <| jA (jF (v := nv j) he_5) ?_
    obtain ⟨hr_7, hr_7b, -⟩ := sees_some hs_a (by omega)
    refine jA (jX (i := j) kV kZ hr_7 hr_7b rfl rfl (by omega)) ?_
    have hszj := hsz j hlt
    refine jK (ju (v := str (s.getD j [])) hs_a nM rfl kT (atS (by omega))) <| jA (PO.lenS kl rfl) <| jA (kM (c := l1 - ((s.getD j []).length : Int)) rfl rfl (wr (by omega))) <| jA (jG (v := iv (l1 - ((s.getD j []).length : Int))) rfl) <| jD <| jB <| jC <| jE <| jA (jF (v := iv (l1 - ((s.getD j []).length : Int))) rfl) <| jA (jc rfl rfl) ?_
    refine jD <| jB ?_
    by_cases h_8 : (l1 - ((s.getD j []).length : Int)) < 0
    · have hneg := h_8
      refine jS (cB (dT h_8)) <| jC <| jE <| jA (jG (v := iv (-1)) rfl) <| jD <| jB <| jJ <| je <| jO <| jO ?_
      refine je <| jO <| jL (.inl rfl) rfl (jM (v := iv (-1)) rfl) (List.nil_sublist _) ?_
      refine ⟨?_, rfl⟩
      rw [szStrs_step hlt, if_pos hneg] at hR
      rw [← hR]
    have hneg := h_8
    refine jP (cB (dF h_8)) <| jQ <| jk <| jB <| jE <| jA (jF (v := nv j) he_5) <| jA (ja (c := ((j + 1 : Nat) : Int)) rfl rfl (wr (by omega))) <| jA (jG (v := iv ((j + 1 : Nat) : Int)) rfl) <| jD ?_
    refine jl (s.length - (j + 1)) (by omega) ⟨j + 1, l1 - ((s.getD j []).length : Int), by omega, by omega, by omega, (by rw [szStrs_step hlt, if_neg hneg] at hR; exact hR), he_3, rfl, rfl, rfl, rfl⟩
  refine jP (cB (dF h_6)) <| jn <| jb <| jb <| jo <| jB <| jC <| jE <| jA (jF (v := iv l1) he_4) <| jA (jG (v := iv l1) rfl) ?_
  refine jD <| jB <| jJ <| jL (.inl rfl) rfl (jM (v := iv l1) rfl) (List.nil_sublist _) ?_
  refine ⟨?_, rfl⟩
  rw [List.drop_of_length_le (by omega)] at hR
  rw [← hR]
  rfl

theorem E_toStringS (a : Option Addr) (c : Nat) (s : List Str) (hn : s.length ≤ 1048576) :
    Ct Tryz.prog 37 [.slice a s.length c] [] (fun w => SeesE w (.slice a s.length c) 1 s.length (s.map str)) (fun r A' => ∃ a' c', r = .slice a' s.length c' ∧ A' = [.row (.slice a' s.length c') 9 1 s.length (s.map str)]) := by
  refine Ct.intro Tryz.func37 rfl Tryz.ntmps37 (lb rfl) fun w0 hpre => ?_
  have hs_a' : SeesE w0 _ _ _ _ := hpre
  refine jC <| jE <| jA (jG (v := .slice none 0 0) rfl) <| jD <| jB <| jC <| jE <| jA (jF (v := .slice a s.length c) rfl) <| jA (jf kV rfl) ?_
  refine jH rfl (JO.makeSlice (z := str []) (zc := [str []]) (m := s.length) kV Tryz.typeInfo9 rfl rfl rfl rfl rfl (by unfold maxLen; omega) (by show 16 * _ ≤ _; omega)) ?_
  rintro _ _ ⟨a_1, rfl, rfl⟩
  refine jA (jG (v := .slice a_1 s.length s.length) rfl) <| jD <| jB <| jC <| jC <| jE <| jA (jG (v := iv 0) rfl) <| jD <| jB <| jZ ?_
  refine jp (fun k_ e_ L_ => ∃ j : Nat, (j ≤ s.length) ∧ e_ 0 = .slice a s.length c ∧ e_ 2 = .slice none 0 0 ∧ e_ 3 = .slice a_1 s.length s.length ∧ e_ 4 = nv j ∧ L_ = [Res.row (.slice a_1 s.length s.length) 9 1 s.length ((s.take j ++ List.replicate (s.length - j) []).map str)] ∧ k_ = s.length - j) _ ⟨0, by omega, rfl, rfl, rfl, rfl, (by rw [replS]; rfl), rfl⟩ ?_
  rintro _ e_2 _ ⟨j, hj, he_3, he_4, he_5, he_6, rfl, rfl⟩
  refine jC <| jC <| jE <| jA (jF (v := nv j) he_6) <| jA (jF (v := .slice a s.length c) he_3) <| jA (jf kV rfl) <| jA (jc rfl rfl) <| jD <| jB ?_
  by_cases h_7 : ((j : Nat) : Int) < ((s.length : Nat) : Int)
  · have hlt : j < s.length := by omega
    have hs_a : Sees w0 _ _ _ _ := hs_a'.full (by omega)
    refine jS (cB (dT h_7)) <| jQ <| jB <| jC <| jZ <| jE <| jA (jF (v := .slice a_1 s.length s.length) he_5) <| jA (jF (v := nv j) he_6) <| jA (jF (v := .slice a s.length c) he_3) <| jA (jF (v := nv j) he_6) ?_
    obtain ⟨hr_8, hr_8b, -⟩ := sees_some hs_a (by omega)
    refine jA (jX (i := j) kV kZ hr_8 hr_8b rfl rfl (by omega)) <| jK (ju (v := str (s.getD j [])) hs_a nM rfl kT (atS (by omega))) ?_
    refine kQ fun hst => ?_
    obtain ⟨hr_9, hr_9b, -⟩ := row_some 0 rfl (by omega) hst
    refine jA (jX (i := j) kV kZ hr_9 hr_9b rfl rfl (by omega)) ?_
    refine jH rfl (kD 0 (vs := [str (s.getD j [])]) (cs' := ((s.take j ++ List.replicate (s.length - j) []).set j (s.getD j [])).map str) rfl rfl rfl rfl kZ rfl rfl (by decide) (by rw [List.length_map]; rw [fill_len [] hj]; omega) (setS (by rw [fill_len [] hj]; omega))) ?_
    rintro _ _ rfl
    refine jD <| jk <| jB <| jE <| jA (jF (v := nv j) he_6) <| jA (ja (c := ((j + 1 : Nat) : Int)) rfl rfl (wr (by omega))) <| jA (jG (v := iv ((j + 1 : Nat) : Int)) rfl) <| jD ?_
    refine jl (s.length - (j + 1)) (by omega) ⟨j + 1, by omega, he_3, he_4, he_5, rfl, (by rw [← fill_step [] hlt]; rfl), rfl⟩
  refine jP (cB (dF h_7)) <| jn <| jb <| jb <| jo <| jB <| jC <| jE <| jA (jF (v := .slice a_1 s.length s.length) he_5) <| jA (jG (v := .slice a_1 s.length s.length) rfl) ?_
  refine jD <| jB <| jJ <| jL (.inl rfl) rfl (jM (v := .slice a_1 s.length s.length) rfl) (List.Sublist.refl _) ?_
  exact ⟨_, _, rfl, by rw [fill_done [] (by omega)]⟩

theorem E_szCellS (a : Option Addr) (c : Nat) (s : List Cell) (l : Int) (h0 : 0 ≤ l) (h1 : l ≤ 1048576) (hn : s.length ≤ 9223372036854775807) (hsz : ∀ j, j < s.length → (s.getD j c0).1.length ≤ 9223372036854775807 ∧ (s.getD j c0).2.length ≤ 9223372036854775807) :
    Ct Tryz.prog 27 [.slice a s.length c, .int .i64 l] [] (fun w => SeesE w (.slice a s.length c) 2 s.length (s.flatMap encC)) (fun r A' => r = .int .i64 (szCellS s l) ∧ A' = []) := by
  refine Ct.intro Tryz.func27 rfl Tryz.ntmps27 (lb rfl) fun w0 hpre => ?_
  have hs_a' : SeesE w0 _ _ _ _ := hpre
  refine jC <| jE <| jA (jG (v := iv 0) rfl) <| jD <| jB <| jC <| jE <| jA (jF (v := iv l) rfl) <| jA (jF (v := .slice a s.length c) rfl) <| jA (jf gD rfl) ?_
  refine jA (kM (c := l - ((s.length : Nat) : Int)) rfl rfl (wr (by omega))) <| jA (jG (v := iv (l - ((s.length : Nat) : Int))) rfl) <| jD <| jB <| jC <| jC <| jE <| jA (jF (v := iv (l - ((s.length : Nat) : Int))) rfl) <| jA (jc rfl rfl) <| jD ?_
  refine jB ?_
  by_cases h_1 : (l - ((s.length : Nat) : Int)) < 0
  · refine jS (cB (dT h_1)) <| jC <| jE <| jA (jG (v := iv (-1)) rfl) <| jD <| jB <| jJ <| jO <| jL (.inl rfl) rfl (jM (v := iv (-1)) rfl) (List.nil_sublist _) ?_
    refine ⟨?_, rfl⟩
    rw [szCellS, if_pos (by omega)]
  refine jP (cB (dF h_1)) <| jQ <| jB <| jC <| jC <| jE <| jA (jG (v := iv 0) rfl) <| jD <| jB <| jZ ?_
  refine jp (fun k_ e_ L_ => ∃ j : Nat, ∃ l1 : Int, (j ≤ s.length) ∧ (0 ≤ l1) ∧ (l1 ≤ 1048576) ∧ (szCells (s.drop j) l1 = szCellS s l) ∧ e_ 0 = .slice a s.length c ∧ e_ 1 = iv l1 ∧ e_ 5 = nv j ∧ L_ = [] ∧ k_ = s.length - j) _ ⟨0, (l - (s.length : Int)), by omega, by omega, by omega, (by rw [szCellS, if_neg (by omega)]; rfl), rfl, rfl, rfl, rfl, rfl⟩ ?_
  rintro _ e_2 _ ⟨j, l1, hj, hl, hl2, hR, he_3, he_4, he_5, rfl, rfl⟩
  refine jC <| jC <| jE <| jA (jF (v := nv j) he_5) <| jA (jF (v := .slice a s.length c) he_3) <| jA (jf gD rfl) <| jA (jc rfl rfl) <| jD <| jB ?_
  by_cases h_6 : ((j : Nat) : Int) < ((s.length : Nat) : Int)
  · have hlt : j < s.length := by omega
    have hs_a : Sees w0 _ _ _ _ := hs_a'.full (by omega)
    refine jS (cB (dT h_6)) <| jQ <| jB <| jC <| jZ <| jC <| jE <| jA (jF (v := .slice a s.length c) he_3) <| jA (jF (v := nv j) he_5) ?_
    obtain ⟨hr_7, hr_7b, -⟩ := sees_some hs_a (by omega)
    refine jA (jX (i := j) gD Tryz.sizeOf118 hr_7 hr_7b rfl rfl (by omega)) <| jK (kF (vs := [str ((s.getD j c0).1), str ((s.getD j c0).2)]) hs_a nM rfl Tryz.isAgg118 Tryz.sizeOf118 (atC (by omega)) rfl (by decide)) <| jA (jF (v := iv l1) he_4) ?_
    refine jH rfl (jU [] Tryz.call82 rfl (C_szCell ((s.getD j c0).1) ((s.getD j c0).2) l1 (by omega) (by omega) (hsz j (by omega)).1 (hsz j (by omega)).2) rfl (fun _ _ => trivial)) ?_
    rintro _ _ ⟨_, ⟨rfl, rfl⟩, rfl⟩
    refine jA (jG (v := iv (szCell ((s.getD j c0).1) ((s.getD j c0).2) l1)) rfl) <| jD <| jB <| jC <| jE <| jA (jF (v := iv (szCell ((s.getD j c0).1) ((s.getD j c0).2) l1)) rfl) <| jA (jc rfl rfl) <| jD <| jB ?_
    by_cases h_8 : (szCell ((s.getD j c0).1) ((s.getD j c0).2) l1) < 0
    · have hneg := h_8
      refine jS (cB (dT h_8)) <| jC <| jE <| jA (jG (v := iv (-1)) rfl) <| jD <| jB <| jJ <| je <| jO <| jO ?_
      refine je <| jO <| jL (.inl rfl) rfl (jM (v := iv (-1)) rfl) (List.nil_sublist _) ?_
      refine ⟨?_, rfl⟩
      rw [szCells_step hlt, if_pos hneg] at hR
      rw [← hR]
    have hneg := h_8
    refine jP (cB (dF h_8)) <| jQ <| jk <| jB <| jE <| jA (jF (v := nv j) he_5) <| jA (ja (c := ((j + 1 : Nat) : Int)) rfl rfl (wr (by omega))) <| jA (jG (v := iv ((j + 1 : Nat) : Int)) rfl) <| jD ?_
    refine jl (s.length - (j + 1)) (by omega) ⟨j + 1, szCell ((s.getD j c0).1) ((s.getD j c0).2) l1, by omega, by omega, by have := szCell_le (s.getD j c0).1 (s.getD j c0).2 l1 (by omega); omega, (by rw [szCells_step hlt, if_neg hneg] at hR; exact hR), he_3, rfl, rfl, rfl, rfl⟩
  refine jP (cB (dF h_6)) <| jn <| jb <| jb <| jo <| jB <| jC <| jE <| jA (jF (v := iv l1) he_4) <| jA (jG (v := iv l1) rfl) ?_
  refine jD <| jB <| jJ <| jL (.inl rfl) rfl (jM (v := iv l1) rfl) (List.nil_sublist _) ?_
  refine ⟨?_, rfl⟩
  rw [List.drop_of_length_le (by omega)] at hR
  rw [← hR]
  rfl

theorem E_toCellS (a : Option Addr) (c : Nat) (s : List Cell) (hn : s.length ≤ 1048576) :
    Ct Tryz.prog 33 [.slice a s.length c] [] (fun w => SeesE w (.slice a s.length c) 2 s.length (s.flatMap encC)) (fun r A' => ∃ a' c', r = .slice a' s.length c' ∧ A' = [.row (.slice a' s.length c') 131 2 s.length (s.flatMap encC)]) := by
  refine Ct.intro Tryz.func33 rfl Tryz.ntmps33 (lb rfl) fun w0 hpre => ?_
  have hs_a' : SeesE w0 _ _ _ _ := hpre
  refine jC <| jE <| jA (jG (v := .slice none 0 0) rfl) <| jD <| jB <| jC <| jE <| jA (jF (v := .slice a s.length c) rfl) <| jA (jf gD rfl) ?_
  refine jH rfl (JO.makeSlice (z := .agg #[str [], str []]) (zc := [str [], str []]) (m := s.length) kh Tryz.typeInfo131 rfl rfl rfl rfl rfl (by unfold maxLen; omega) (by show 32 * _ ≤ _; omega)) ?_
  rintro _ _ ⟨a_1, rfl, rfl⟩
  refine jA (jG (v := .slice a_1 s.length s.length) rfl) <| jD <| jB <| jC <| jC <| jE <| jA (jG (v := iv 0) rfl) <| jD <| jB <| jZ ?_
  refine jp (fun k_ e_ L_ => ∃ j : Nat, (j ≤ s.length) ∧ e_ 0 = .slice a s.length c ∧ e_ 2 = .slice none 0 0 ∧ e_ 3 = .slice a_1 s.length s.length ∧ e_ 4 = nv j ∧ L_ = [Res.row (.slice a_1 s.length s.length) 131 2 s.length ((s.take j ++ List.replicate (s.length - j) c0).flatMap encC)] ∧ k_ = s.length - j) _ ⟨0, by omega, rfl, rfl, rfl, rfl, (by rw [replC]; rfl), rfl⟩ ?_
  rintro _ e_2 _ ⟨j, hj, he_3, he_4, he_5, he_6, rfl, rfl⟩
  refine jC <| jC <| jE <| jA (jF (v := nv j) he_6) <| jA (jF (v := .slice a s.length c) he_3) <| jA (jf gD rfl) <| jA (jc rfl rfl) <| jD <| jB ?_
  by_cases h_7 : ((j : Nat) : Int) < ((s.length : Nat) : Int)
  · have hlt : j < s.length := by omega
    have hs_a : Sees w0 _ _ _ _ := hs_a'.full (by omega)
    refine jS (cB (dT h_7)) <| jQ <| jB <| jC <| jZ <| jE <| jA (jF (v := .slice a_1 s.length s.length) he_5) <| jA (jF (v := nv j) he_6) <| jA (jF (v := .slice a s.length c) he_3) <| jA (jF (v := nv j) he_6) ?_
    obtain ⟨hr_8, hr_8b, -⟩ := sees_some hs_a (by omega)
    refine jA (jX (i := j) gD Tryz.sizeOf118 hr_8 hr_8b rfl rfl (by omega)) <| jK (kF (vs := [str ((s.getD j c0).1), str ((s.getD j c0).2)]) hs_a nM rfl Tryz.isAgg118 Tryz.sizeOf118 (atC (by omega)) rfl (by decide)) ?_
    refine jH rfl (jU [] Tryz.call89 rfl (C_toCell ((s.getD j c0).1) ((s.getD j c0).2)) rfl (fun _ _ => trivial)) ?_
    rintro _ _ ⟨_, ⟨rfl, rfl⟩, rfl⟩
    refine kQ fun hst => ?_
    obtain ⟨hr_9, hr_9b, -⟩ := row_some 0 rfl (by omega) hst
    refine jA (jX (i := j) kh kr hr_9 hr_9b rfl rfl (by omega)) ?_
    refine jH rfl (kD 0 (vs := [str ((s.getD j c0).1), str ((s.getD j c0).2)]) (cs' := ((s.take j ++ List.replicate (s.length - j) c0).set j ((s.getD j c0).1, (s.getD j c0).2)).flatMap encC) rfl rfl rfl rfl kr rfl rfl (by decide) (by rw [lenC]; rw [fill_len c0 hj]; omega) (setC (by rw [fill_len c0 hj]; omega))) ?_
    rintro _ _ rfl
    refine jD <| jk <| jB <| jE <| jA (jF (v := nv j) he_6) <| jA (ja (c := ((j + 1 : Nat) : Int)) rfl rfl (wr (by omega))) <| jA (jG (v := iv ((j + 1 : Nat) : Int)) rfl) <| jD ?_
    refine jl (s.length - (j + 1)) (by omega) ⟨j + 1, by omega, he_3, he_4, he_5, rfl, (by rw [← fill_step c0 hlt]; rfl), rfl⟩
  refine jP (cB (dF h_7)) <| jn <| jb <| jb <| jo <| jB <| jC <| jE <| jA (jF (v := .slice a_1 s.length s.length) he_5) <| jA (jG (v := .slice a_1 s.length s.length) rfl) ?_
  refine jD <| jB <| jJ <| jL (.inl rfl) rfl (jM (v := .slice a_1 s.length s.length) rfl) (List.Sublist.refl _) ?_
  exact ⟨_, _, rfl, by rw [fill_done c0 (by omega)]⟩

theorem E_szIntS (a : Option Addr) (c : Nat) (s : List Int) (l : Int) (h0 : 0 ≤ l) (h1 : l ≤ 1048576) (hn : s.length ≤ 9223372036854775807) :
    Ct Tryz.prog 57 [.slice a s.length c, .int .i64 l] [] (fun w => SeesE w (.slice a s.length c) 1 s.length (s.map (Value.int .i64))) (fun r A' => r = .int .i64 (szIntF s l) ∧ A' = []) := by
  refine Ct.intro Tryz.func57 rfl Tryz.ntmps57 (lb rfl) fun w0 hpre => ?_
  have hs_a' : SeesE w0 _ _ _ _ := hpre
  refine jC <| jE <| jA (jG (v := iv 0) rfl) <| jD <| jB <| jC <| jE <| jA (jF (v := iv l) rfl) <| jA (jF (v := .slice a s.length c) rfl) <| jA (jf ke rfl) ?_
  refine jA (kM (c := l - ((s.length : Nat) : Int)) rfl rfl (wr (by omega))) <| jA (jG (v := iv (l - ((s.length : Nat) : Int))) rfl) <| jD <| jB <| jC <| jC <| jE <| jA (jF (v := iv (l - ((s.length : Nat) : Int))) rfl) <| jA (jc rfl rfl) <| jD ?_
  refine jB ?_
  by_cases h_1 : (l - ((s.length : Nat) : Int)) < 0
  · refine jS (cB (dT h_1)) <| jC <| jE <| jA (jG (v := iv (-1)) rfl) <| jD <| jB <| jJ <| jO <| jL (.inl rfl) rfl (jM (v := iv (-1)) rfl) (List.nil_sublist _) ?_
    refine ⟨congrArg (Value.int .i64) ?_, rfl⟩
    unfold szIntF
    first | rw [if_pos (by omega)] | rw [if_neg (by omega)]
  refine jP (cB (dF h_1)) <| jQ <| jB <| jC <| jE <| jA (jF (v := iv (l - ((s.length : Nat) : Int))) rfl) <| jA (jG (v := iv (l - ((s.length : Nat) : Int))) rfl) <| jD <| jB <| jJ ?_
  refine jL (.inl rfl) rfl (jM (v := iv (l - ((s.length : Nat) : Int))) rfl) (List.nil_sublist _) ?_
  refine ⟨congrArg (Value.int .i64) ?_, rfl⟩
  unfold szIntF
  first | rw [if_pos (by omega)] | rw [if_neg (by omega)]

theorem E_toIntS (a : Option Addr) (c : Nat) (s : List Int) (hn : s.length ≤ 1048576) :
    Ct Tryz.prog 63 [.slice a s.length c] [] (fun w => SeesE w (.slice a s.length c) 1 s.length (s.map (Value.int .i64))) (fun r A' => ∃ a' c', r = .slice a' s.length c' ∧ A' = [.row (.slice a' s.length c') 3 1 s.length (s.map (Value.int .i64))]) := by
  refine Ct.intro Tryz.func63 rfl Tryz.ntmps63 (lb rfl) fun w0 hpre => ?_
  have hs_a' : SeesE w0 _ _ _ _ := hpre
  refine jC <| jE <| jA (jG (v := .slice none 0 0) rfl) <| jD <| jB <| jC <| jE <| jA (jF (v := .slice a s.length c) rfl) <| jA (jf ke rfl) ?_
  refine jH rfl (JO.makeSlice (z := iv 0) (zc := [iv 0]) (m := s.length) ke Tryz.typeInfo3 rfl rfl rfl rfl rfl (by unfold maxLen; omega) (by show 8 * _ ≤ _; omega)) ?_
  rintro _ _ ⟨a_1, rfl, rfl⟩
  refine jA (jG (v := .slice a_1 s.length s.length) rfl) <| jD <| jB <| jC <| jC <| jE <| jA (jG (v := iv 0) rfl) <| jD <| jB <| jZ ?_
  refine jp (fun k_ e_ L_ => ∃ j : Nat, (j ≤ s.length) ∧ e_ 0 = .slice a s.length c ∧ e_ 2 = .slice none 0 0 ∧ e_ 3 = .slice a_1 s.length s.length ∧ e_ 4 = nv j ∧ L_ = [Res.row (.slice a_1 s.length s.length) 3 1 s.length ((s.take j ++ List.replicate (s.length - j) 0).map (Value.int .i64))] ∧ k_ = s.length - j) _ ⟨0, by omega, rfl, rfl, rfl, rfl, (by rw [replI]; rfl), rfl⟩ ?_
  rintro _ e_2 _ ⟨j, hj, he_3, he_4, he_5, he_6, rfl, rfl⟩
  refine jC <| jC <| jE <| jA (jF (v := nv j) he_6) <| jA (jF (v := .slice a s.length c) he_3) <| jA (jf ke rfl) <| jA (jc rfl rfl) <| jD <| jB ?_
  by_cases h_7 : ((j : Nat) : Int) < ((s.length : Nat) : Int)
  · have hlt : j < s.length := by omega
    have hs_a : Sees w0 _ _ _ _ := hs_a'.full (by omega)
    refine jS (cB (dT h_7)) <| jQ <| jB <| jC <| jZ <| jE <| jA (jF (v := .slice a_1 s.length s.length) he_5) <| jA (jF (v := nv j) he_6) <| jA (jF (v := .slice a s.length c) he_3) <| jA (jF (v := nv j) he_6) ?_
    obtain ⟨hr_8, hr_8b, -⟩ := sees_some hs_a (by omega)
    refine jA (jX (i := j) ke kW hr_8 hr_8b rfl rfl (by omega)) <| jK (ju (v := iv (s.getD j 0)) hs_a nM rfl kR (atI (by omega))) ?_
    refine kQ fun hst => ?_
    obtain ⟨hr_9, hr_9b, -⟩ := row_some 0 rfl (by omega) hst
    refine jA (jX (i := j) ke kW hr_9 hr_9b rfl rfl (by omega)) ?_
    refine jH rfl (kD 0 (vs := [iv (s.getD j 0)]) (cs' := ((s.take j ++ List.replicate (s.length - j) 0).set j (s.getD j 0)).map (Value.int .i64)) rfl rfl rfl rfl kW rfl rfl (by decide) (by rw [List.length_map]; rw [fill_len 0 hj]; omega) (setI' (by rw [fill_len 0 hj]; omega))) ?_
    rintro _ _ rfl
    refine jD <| jk <| jB <| jE <| jA (jF (v := nv j) he_6) <| jA (ja (c := ((j + 1 : Nat) : Int)) rfl rfl (wr (by omega))) <| jA (jG (v := iv ((j + 1 : Nat) : Int)) rfl) <| jD ?_
    refine jl (s.length - (j + 1)) (by omega) ⟨j + 1, by omega, he_3, he_4, he_5, rfl, (by rw [← fill_step 0 hlt]; rfl), rfl⟩
  refine jP (cB (dF h_7)) <| jn <| jb <| jb <| jo <| jB <| jC <| jE <| jA (jF (v := .slice a_1 s.length s.length) he_5) <| jA (jG (v := .slice a_1 s.length s.length) rfl) ?_
  refine jD <| jB <| jJ <| jL (.inl rfl) rfl (jM (v := .slice a_1 s.length s.length) rfl) (List.Sublist.refl _) ?_
  exact ⟨_, _, rfl, by rw [fill_done 0 (by omega)]⟩

theorem E_szTouch (a1 a2 : Option Addr) (c1 c2 : Nat) (r w : List Str) (l : Int) (h0 : 0 ≤ l) (h1 : l ≤ 1048576) (hok_r : okS r) (hok_w : okS w) :
    Ct Tryz.prog 56 [.agg #[.slice a1 r.length c1, .slice a2 w.length c2], .int .i64 l] [] (fun w_ => SeesE w_ (.slice a1 r.length c1) 1 r.length (r.map str) ∧ SeesE w_ (.slice a2 w.length c2) 1 w.length (w.map str)) (fun v A' => v = .int .i64 (szTouch r w l) ∧ A' = []) := by
  refine Ct.intro Tryz.func56 rfl Tryz.ntmps56 (lb rfl) fun w0 hpre => ?_
  refine jC <| jE ?_
  refine jH rfl (jm (cs := [.slice a1 r.length c1, .slice a2 w.length c2]) rfl rfl) ?_
  rintro _ _ ⟨b_1, rfl, rfl⟩
  refine jA (jG (v := iv 0) rfl) <| jD <| jB <| jC <| jE <| jA (jI fo51_0 rfl) <| jK (jR 0 (v := .slice a1 r.length c1) rfl rfl ka rfl) <| jA (jF (v := iv l) rfl) ?_
  refine jH rfl (jU [] Tryz.call31 rfl (E_szStringS a1 c1 r l (by omega) (by omega) hok_r.1 hok_r.2) rfl (fun w hw => hw.seeOutE hpre.1 nM)) ?_
  rintro _ _ ⟨_, ⟨rfl, rfl⟩, rfl⟩
  have hle_2 := szStringS_le r l (by omega)
  refine jA (jG (v := iv (szStringS r l)) rfl) <| jD <| jB <| jC <| jC <| jE <| jA (jF (v := iv (szStringS r l)) rfl) <| jA (jc rfl rfl) <| jD <| jB ?_
  by_cases h_3 : (szStringS r l) < 0
  · refine jS (cB (dT h_3)) <| jC <| jE <| jA (jG (v := iv (-1)) rfl) <| jD <| jB <| jJ <| jO <| jL (.inl rfl) rfl (jM (v := iv (-1)) rfl) (List.nil_sublist _) ?_
    refine ⟨congrArg (Value.int .i64) ?_, rfl⟩
    unfold szTouch
    (repeat (first | rw [if_pos (by omega)] | rw [if_neg (by omega)]))
  refine jP (cB (dF h_3)) <| jQ <| jB <| jC <| jE <| jA (jI fo51_1 rfl) <| jK (jR 0 (v := .slice a2 w.length c2) rfl rfl ka rfl) <| jA (jF (v := iv (szStringS r l)) rfl) ?_
  refine jH rfl (jU [] Tryz.call31 rfl (E_szStringS a2 c2 w (szStringS r l) (by omega) (by omega) hok_w.1 hok_w.2) rfl (fun w hw => hw.seeOutE hpre.2 nM)) ?_
  rintro _ _ ⟨_, ⟨rfl, rfl⟩, rfl⟩
  have hle_4 := szStringS_le w (szStringS r l) (by omega)
  refine jA (jG (v := iv (szStringS w (szStringS r l))) rfl) <| jD <| jB <| jC <| jC <| jE <| jA (jF (v := iv (szStringS w (szStringS r l))) rfl) <| jA (jc rfl rfl) <| jD <| jB ?_
  by_cases h_5 : (szStringS w (szStringS r l)) < 0
  · refine jS (cB (dT h_5)) <| jC <| jE <| jA (jG (v := iv (-1)) rfl) <| jD <| jB <| jJ <| jO <| jL (.inl rfl) rfl (jM (v := iv (-1)) rfl) (List.nil_sublist _) ?_
    refine ⟨congrArg (Value.int .i64) ?_, rfl⟩
    unfold szTouch
    (repeat (first | rw [if_pos (by omega)] | rw [if_neg (by omega)]))
  refine jP (cB (dF h_5)) <| jQ <| jB <| jC <| jE <| jA (jF (v := iv (szStringS w (szStringS r l))) rfl) <| jA (jG (v := iv (szStringS w (szStringS r l))) rfl) <| jD <| jB <| jJ ?_
  refine jL (.inl rfl) rfl (jM (v := iv (szStringS w (szStringS r l))) rfl) (List.nil_sublist _) ?_
  refine ⟨congrArg (Value.int .i64) ?_, rfl⟩
  unfold szTouch
  (repeat (first | rw [if_pos (by omega)] | rw [if_neg (by omega)]))

theorem E_toTouch (a1 a2 : Option Addr) (c1 c2 : Nat) (r w : List Str) (hr : r.length ≤ 1048576) (hw_ : w.length ≤ 1048576) :
    Ct Tryz.prog 62 [.agg #[.slice a1 r.length c1, .slice a2 w.length c2]] [] (fun w_ => SeesE w_ (.slice a1 r.length c1) 1 r.length (r.map str) ∧ SeesE w_ (.slice a2 w.length c2) 1 w.length (w.map str)) (fun v A' => ∃ b1 d1 b2 d2, v = .agg #[.slice b1 r.length d1, .slice b2 w.length d2] ∧ A' = [.row (.slice b1 r.length d1) 9 1 r.length (r.map str), .row (.slice b2 w.length d2) 9 1 w.length (w.map str)]) := by
  refine Ct.intro Tryz.func62 rfl Tryz.ntmps62 (lb rfl) fun w0 hpre => ?_
  refine jC <| jE ?_
  refine jH rfl (jm (cs := [.slice a1 r.length c1, .slice a2 w.length c2]) rfl rfl) ?_
  rintro _ _ ⟨b_1, rfl, rfl⟩
  refine jH rfl (kB (z := .agg #[.slice none 0 0, .slice none 0 0]) (cs := [.slice none 0 0, .slice none 0 0]) Tryz.zeroValue59 rfl) ?_
  rintro _ _ ⟨b_2, rfl, rfl⟩
  refine jD <| jB <| jC <| jE ?_
  refine jH rfl (kB (z := .agg #[.slice none 0 0, .slice none 0 0]) (cs := [.slice none 0 0, .slice none 0 0]) Tryz.zeroValue59 rfl) ?_
  rintro _ _ ⟨b_3, rfl, rfl⟩
  refine jD <| jB <| jC <| jE <| jA (jI fo51_0 rfl) <| jK (jR 2 (v := .slice a1 r.length c1) rfl rfl ka rfl) ?_
  refine jH rfl (jU [] Tryz.call37 rfl (E_toStringS a1 c1 r (by omega)) rfl (fun w hw => hw.seeOutE hpre.1 nM)) ?_
  rintro _ _ ⟨_, ⟨a_4, c_5, rfl, rfl⟩, rfl⟩
  refine jA (jI fo59_0 rfl) ?_
  refine jH rfl (jd 1 (vs := [.slice a_4 r.length c_5]) (cs' := [.slice a_4 r.length c_5, .slice none 0 0]) rfl rfl rfl rfl Tryz.sizeOf30 rfl rfl (lb rfl) rfl) ?_
  rintro _ _ rfl
  refine jD <| jB <| jC <| jE <| jA (jI fo51_1 rfl) <| jK (jR 3 (v := .slice a2 w.length c2) rfl rfl ka rfl) ?_
  refine jH rfl (jU [] Tryz.call37 rfl (E_toStringS a2 c2 w (by omega)) rfl (fun w hw => hw.seeOutE hpre.2 nM)) ?_
  rintro _ _ ⟨_, ⟨a_6, c_7, rfl, rfl⟩, rfl⟩
  refine jA (jI fo59_1 rfl) ?_
  refine jH rfl (jd 2 (vs := [.slice a_6 w.length c_7]) (cs' := [.slice a_4 r.length c_5, .slice a_6 w.length c_7]) rfl rfl rfl rfl Tryz.sizeOf30 rfl rfl (lb rfl) rfl) ?_
  rintro _ _ rfl
  refine jD <| jB <| jC <| jE <| jK (jg 2 (vs := [.slice a_4 r.length c_5, .slice a_6 w.length c_7]) rfl rfl gE kv rfl rfl) ?_
  refine jH rfl (jd 3 (vs := [.slice a_4 r.length c_5, .slice a_6 w.length c_7]) (cs' := [.slice a_4 r.length c_5, .slice a_6 w.length c_7]) rfl rfl rfl rfl kv rfl rfl (lb rfl) rfl) ?_
  rintro _ _ rfl
  refine jD <| jB <| jJ <| JQ.perm (pick_perm [1, 0] (A := [rS a_4 c_5 r, rS a_6 c_7 w]) (F := [bk b_3 59 [.slice a_4 r.length c_5, .slice a_6 w.length c_7], bk b_2 59 [.slice a_4 r.length c_5, .slice a_6 w.length c_7], bk b_1 51 [.slice a1 r.length c1, .slice a2 w.length c2]]) rfl).symm <| jL (.inl rfl) rfl (kI (jg 3 (vs := [.slice a_4 r.length c_5, .slice a_6 w.length c_7]) rfl rfl gE kv rfl rfl) ⟨_, rfl⟩) (tS 2 _) ?_
  exact ⟨_, _, _, _, rfl, rfl⟩

theorem C_szSlot (p : OX) (l : Int) (h0 : 0 ≤ l) (h1 : l ≤ 1048576) (hz : p.t.okz) :
    Ct Tryz.prog 136 [.agg #[.int .i64 p.t.seq, .slice p.x.a0 p.t.cells.length p.x.c0, .bool p.t.whole], .int .i64 l] [] (fun w => SeesAE w (rdsO p)) (fun r A' => r = .int .i64 (szSlotF p.t l) ∧ A' = []) := by
  refine Ct.intro Tryz.func136 rfl Tryz.ntmps136 (lb rfl) fun w0 hpre => ?_
  have hs_1 := seesOE hpre
  refine jC <| jE ?_
  refine jH rfl (jm (cs := [iv p.t.seq, .slice p.x.a0 p.t.cells.length p.x.c0, .bool p.t.whole]) rfl rfl) ?_
  rintro _ _ ⟨b_2, rfl, rfl⟩
  refine jA (jG (v := iv 0) rfl) <| jD <| jB <| jC <| jE <| jA (jI fo170_1 rfl) <| jK (jR 0 (v := .slice p.x.a0 p.t.cells.length p.x.c0) rfl rfl Tryz.isAgg22 rfl) <| jA (jF (v := iv l) rfl) ?_
  refine jH rfl (jU [] Tryz.call27 rfl (E_szCellS p.x.a0 p.x.c0 p.t.cells l (by omega) (by omega) hz.k0.1 hz.k0.2) rfl (fun w hw => hw.seeOutE hs_1 nM)) ?_
  rintro _ _ ⟨_, ⟨rfl, rfl⟩, rfl⟩
  have hle_3 := szCellS_le p.t.cells l (by omega)
  refine jA (jG (v := iv (szCellS p.t.cells l)) rfl) <| jD <| jB <| jC <| jC <| jE <| jA (jF (v := iv (szCellS p.t.cells l)) rfl) <| jA (jc rfl rfl) <| jD <| jB ?_
  by_cases h_4 : (szCellS p.t.cells l) < 0
  · refine jS (cB (dT h_4)) <| jC <| jE <| jA (jG (v := iv (-1)) rfl) <| jD <| jB <| jJ <| jO <| jL (.inl rfl) rfl (jM (v := iv (-1)) rfl) (List.nil_sublist _) ?_
    refine ⟨congrArg (Value.int .i64) ?_, rfl⟩
    simp only [szSlotF, chk, id_eq]
    (repeat (first | rw [if_pos (by omega)] | rw [if_neg (by omega)]))
  refine jP (cB (dF h_4)) <| jQ <| jB <| jC <| jE <| jA (jF (v := iv (szCellS p.t.cells l)) rfl) <| jA (jG (v := iv (szCellS p.t.cells l)) rfl) <| jD <| jB <| jJ ?_
  refine jL (.inl rfl) rfl (jM (v := iv (szCellS p.t.cells l)) rfl) (List.nil_sublist _) ?_
  refine ⟨congrArg (Value.int .i64) ?_, rfl⟩
  simp only [szSlotF, chk, id_eq]
  (repeat (first | rw [if_pos (by omega)] | rw [if_neg (by omega)]))

theorem C_toSlot (p : OX) (hl : p.t.lim 1048576) :
    Ct Tryz.prog 138 [.agg #[.int .i64 p.t.seq, .slice p.x.a0 p.t.cells.length p.x.c0, .bool p.t.whole]] [] (fun w => SeesAE w (rdsO p)) (fun v A' => ∃ y : OX, y.t = p.t ∧ v = .agg #[.int .i64 y.t.seq, .slice y.x.a0 y.t.cells.length y.x.c0, .bool y.t.whole] ∧ A' = [.rows (rdsO y)]) := by
  obtain ⟨hb0⟩ := hl
  refine Ct.intro Tryz.func138 rfl Tryz.ntmps138 (lb rfl) fun w0 hpre => ?_
  have hs_1 := seesOE hpre
  refine jC <| jE ?_
  refine jH rfl (jm (cs := [iv p.t.seq, .slice p.x.a0 p.t.cells.length p.x.c0, .bool p.t.whole]) rfl rfl) ?_
  rintro _ _ ⟨b_2, rfl, rfl⟩
  refine jH rfl (kB (z := .agg #[iv 0, .slice none 0 0, .bool false]) (cs := [iv 0, .slice none 0 0, .bool false]) Tryz.zeroValue173 rfl) ?_
  rintro _ _ ⟨b_3, rfl, rfl⟩
  refine jD <| jB <| jC <| jE ?_
  refine jH rfl (kB (z := .agg #[iv 0, .slice none 0 0, .bool false]) (cs := [iv 0, .slice none 0 0, .bool false]) Tryz.zeroValue173 rfl) ?_
  rintro _ _ ⟨b_4, rfl, rfl⟩
  refine jD <| jB <| jC <| jE <| jA (jI fo170_0 rfl) <| jK (jR 2 (v := iv p.t.seq) rfl rfl kR rfl) <| jA (jI fo173_0 rfl) ?_
  refine jH rfl (jd 0 (vs := [iv p.t.seq]) (cs' := [iv p.t.seq, .slice none 0 0, .bool false]) rfl rfl rfl rfl kW rfl rfl (lb rfl) rfl) ?_
  rintro _ _ rfl
  refine jD <| jB <| jC <| jE <| jA (jI fo170_1 rfl) <| jK (jR 2 (v := .slice p.x.a0 p.t.cells.length p.x.c0) rfl rfl Tryz.isAgg22 rfl) ?_
  refine jH rfl (jU [] Tryz.call33 rfl (E_toCellS p.x.a0 p.x.c0 p.t.cells (by omega)) rfl (fun w hw => hw.seeOutE hs_1 nM)) ?_
  rintro _ _ ⟨_, ⟨a_5, c_6, rfl, rfl⟩, rfl⟩
  refine jA (jI fo173_1 rfl) ?_
  refine jH rfl (jd 1 (vs := [.slice a_5 p.t.cells.length c_6]) (cs' := [iv p.t.seq, .slice a_5 p.t.cells.length c_6, .bool false]) rfl rfl rfl rfl Tryz.sizeOf34 rfl rfl (lb rfl) rfl) ?_
  rintro _ _ rfl
  refine jD <| jB <| jC <| jE <| jA (jI fo170_2 rfl) <| jK (jR 3 (v := .bool p.t.whole) rfl rfl ky rfl) <| jA (jI fo173_2 rfl) ?_
  refine jH rfl (jd 1 (vs := [.bool p.t.whole]) (cs' := [iv p.t.seq, .slice a_5 p.t.cells.length c_6, .bool p.t.whole]) rfl rfl rfl rfl Tryz.sizeOf4 rfl rfl (lb rfl) rfl) ?_
  rintro _ _ rfl
  refine jD <| jB <| jC <| jE <| jK (jg 1 (vs := [iv p.t.seq, .slice a_5 p.t.cells.length c_6, .bool p.t.whole]) rfl rfl Tryz.isAgg173 kd rfl rfl) ?_
  refine jH rfl (jd 2 (vs := [iv p.t.seq, .slice a_5 p.t.cells.length c_6, .bool p.t.whole]) (cs' := [iv p.t.seq, .slice a_5 p.t.cells.length c_6, .bool p.t.whole]) rfl rfl rfl rfl kd rfl rfl (lb rfl) rfl) ?_
  rintro _ _ rfl
  refine jD <| jB <| jJ <| jv (L' := [Res.rows (rdsO (⟨⟨a_5, c_6⟩, p.t⟩ : OX)), bk b_4 173 [iv p.t.seq, .slice a_5 p.t.cells.length c_6, .bool p.t.whole], bk b_3 173 [iv p.t.seq, .slice a_5 p.t.cells.length c_6, .bool p.t.whole], bk b_2 170 [iv p.t.seq, .slice p.x.a0 p.t.cells.length p.x.c0, .bool p.t.whole]]) (fun w hw => hw.closeR (A := rdsO (⟨⟨a_5, c_6⟩, p.t⟩ : OX)) [0] rfl) <| jL (.inl rfl) rfl (kI (jg 2 (vs := [iv p.t.seq, .slice a_5 p.t.cells.length c_6, .bool p.t.whole]) rfl rfl Tryz.isAgg173 kd rfl rfl) ⟨_, rfl⟩) (tS 1 _) ?_
  exact ⟨(⟨⟨a_5, c_6⟩, p.t⟩ : OX), rfl, rfl, rfl⟩

theorem C_eqSlot (p q : OX) (hl : p.t.lim 1000000000) :
    Ct Tryz.prog 143 [.agg #[.int .i64 p.t.seq, .slice p.x.a0 p.t.cells.length p.x.c0, .bool p.t.whole], .agg #[.int .i64 q.t.seq, .slice q.x.a0 q.t.cells.length q.x.c0, .bool q.t.whole]] [] (fun w => SeesA w (rdsO p) ∧ SeesA w (rdsO q)) (fun v A' => v = .bool (decide (p.t = q.t)) ∧ A' = []) := by
  obtain ⟨hb0⟩ := hl
  refine Ct.intro Tryz.func143 rfl Tryz.ntmps143 (lb rfl) fun w0 hpre => ?_
  have hs_1 := seesO hpre.1
  have hs_2 := seesO hpre.2
  refine jC <| jE ?_
  refine jH rfl (jm (cs := [iv p.t.seq, .slice p.x.a0 p.t.cells.length p.x.c0, .bool p.t.whole]) rfl rfl) ?_
  rintro _ _ ⟨b_3, rfl, rfl⟩
  refine jH rfl (jm (cs := [iv q.t.seq, .slice q.x.a0 q.t.cells.length q.x.c0, .bool q.t.whole]) rfl rfl) ?_
  rintro _ _ ⟨b_4, rfl, rfl⟩
  refine jA (jG (v := .bool false) rfl) <| jD <| jB <| jC <| jC <| jE <| jA (jI fo173_0 rfl) <| jK (jR 1 (v := iv p.t.seq) rfl rfl kR rfl) <| jA (jI fo173_0 rfl) <| jK (jR 0 (v := iv q.t.seq) rfl rfl kR rfl) ?_
  refine jA (jz rfl rfl) <| jD <| jB ?_
  by_cases h_5 : p.t.seq = q.t.seq
  · refine jP (cB (cN (dT h_5))) <| jQ <| jB <| jC <| jC <| jE <| jA (jI fo173_1 rfl) <| jK (jR 1 (v := .slice p.x.a0 p.t.cells.length p.x.c0) rfl rfl kx rfl) <| jA (jI fo173_1 rfl) <| jK (jR 0 (v := .slice q.x.a0 q.t.cells.length q.x.c0) rfl rfl kx rfl) ?_
    refine jH rfl (jU [] Tryz.call39 rfl (C_eqCellS p.x.a0 q.x.a0 p.x.c0 q.x.c0 p.t.cells q.t.cells (by omega)) rfl (fun w hw => ⟨hw.seeOut_ hs_1 nM, hw.seeOut_ hs_2 nM⟩)) ?_
    rintro _ _ ⟨_, ⟨rfl, rfl⟩, rfl⟩
    refine jA (kE rfl) <| jD <| jB ?_
    by_cases h_6 : p.t.cells = q.t.cells
    · refine jP (cB (cN (dT h_6))) <| jQ <| jB <| jC <| jC <| jE <| jA (jI fo173_2 rfl) <| jK (jR 1 (v := .bool p.t.whole) rfl rfl ky rfl) <| jA (jI fo173_2 rfl) <| jK (jR 0 (v := .bool q.t.whole) rfl rfl ky rfl) ?_
      refine jA (PO.neqB Tryz.underlying4 rfl rfl) <| jD <| jB ?_
      by_cases h_7 : p.t.whole = q.t.whole
      · refine jP (cB (cN (dT h_7))) <| jQ <| jB <| jC <| jE <| jA (jG (v := .bool true) rfl) <| jD <| jB <| jJ <| jL (.inl rfl) rfl (jM (v := .bool true) rfl) (List.nil_sublist _) ?_
        exact ⟨cB (dT (SD.same.2 ⟨by assumption, by assumption, by assumption⟩)).symm, rfl⟩
      refine jS (cB (cN (dF h_7))) <| jC <| jE <| jA (jG (v := .bool false) rfl) <| jD <| jB <| jJ <| jO <| jL (.inl rfl) rfl (jM (v := .bool false) rfl) (List.nil_sublist _) ?_
      exact ⟨cB (dF (fun h_ => by obtain ⟨h_0, h_1, h_2⟩ := SD.same.1 h_; first | contradiction | (exact absurd ⟨h_6, h_7⟩ ‹¬(_ ∧ _)›))).symm, rfl⟩
    refine jS (cB (cN (dF h_6))) <| jC <| jE <| jA (jG (v := .bool false) rfl) <| jD <| jB <| jJ <| jO <| jL (.inl rfl) rfl (jM (v := .bool false) rfl) (List.nil_sublist _) ?_
    exact ⟨cB (dF (fun h_ => by obtain ⟨h_0, h_1, h_2⟩ := SD.same.1 h_; first | contradiction | (exact absurd ⟨h_6, h_7⟩ ‹¬(_ ∧ _)›))).symm, rfl⟩
  refine jS (cB (cN (dF h_5))) <| jC <| jE <| jA (jG (v := .bool false) rfl) <| jD <| jB <| jJ <| jO <| jL (.inl rfl) rfl (jM (v := .bool false) rfl) (List.nil_sublist _) ?_
  exact ⟨cB (dF (fun h_ => by obtain ⟨h_0, h_1, h_2⟩ := SD.same.1 h_; first | contradiction | (exact absurd ⟨h_6, h_7⟩ ‹¬(_ ∧ _)›))).symm, rfl⟩

theorem C_szSlotS (a : Option Addr) (c : Nat) (s : List OX) (l : Int) (h0 : 0 ≤ l) (h1 : l ≤ 1048576) (hn : s.length ≤ 9223372036854775807) (hse : ∀ j, j < s.length → (s.getD j o0).t.okz) :
    Ct Tryz.prog 83 [.slice a s.length c, .int .i64 l] [] (fun w => SeesAE w (rdsOS a c s)) (fun r A' => r = .int .i64 (szLS szSlotF (s.map OX.t) l) ∧ A' = []) := by
  refine Ct.intro Tryz.func83 rfl Tryz.ntmps83 (lb rfl) fun w0 hpre => ?_
  have hs_1 : SeesE w0 (.slice a s.length c) 3 s.length (s.flatMap encO) := (hpre).head
  have hi_2 : SeesAE w0 (s.flatMap rdsO) := (hpre).tail
  refine jC <| jE <| jA (jG (v := iv 0) rfl) <| jD <| jB <| jC <| jE <| jA (jF (v := iv l) rfl) <| jA (jF (v := .slice a s.length c) rfl) <| jA (jf Tryz.underlying24 rfl) ?_
  refine jA (kM (c := l - ((s.length : Nat) : Int)) rfl rfl (wr (by omega))) <| jA (jG (v := iv (l - ((s.length : Nat) : Int))) rfl) <| jD <| jB <| jC <| jC <| jE <| jA (jF (v := iv (l - ((s.length : Nat) : Int))) rfl) <| jA (jc rfl rfl) <| jD ?_
  refine jB ?_
  by_cases h_3 : (l - ((s.length : Nat) : Int)) < 0
  · refine jS (cB (dT h_3)) <| jC <| jE <| jA (jG (v := iv (-1)) rfl) <| jD <| jB <| jJ <| jO <| jL (.inl rfl) rfl (jM (v := iv (-1)) rfl) (List.nil_sublist _) ?_
    refine ⟨?_, rfl⟩
    rw [szLS, List.length_map, if_pos (by omega)]
  refine jP (cB (dF h_3)) <| jQ <| jB <| jC <| jC <| jE <| jA (jG (v := iv 0) rfl) <| jD <| jB <| jZ ?_
  refine jp (fun k_ e_ L_ => ∃ j : Nat, ∃ l1 : Int, (j ≤ s.length) ∧ (0 ≤ l1) ∧ (l1 ≤ 1048576) ∧ (szL szSlotF ((s.map OX.t).drop j) l1 = szLS szSlotF (s.map OX.t) l) ∧ e_ 0 = .slice a s.length c ∧ e_ 1 = iv l1 ∧ e_ 5 = nv j ∧ L_ = [] ∧ k_ = s.length - j) _ ⟨0, (l - (s.length : Int)), by omega, by omega, by omega, (by rw [szLS, List.length_map, if_neg (by omega)]; rfl), rfl, rfl, rfl, rfl, rfl⟩ ?_
  rintro _ e_4 _ ⟨j, l1, hj, hl, hl2, hR, he_5, he_6, he_7, rfl, rfl⟩
  refine jC <| jC <| jE <| jA (jF (v := nv j) he_7) <| jA (jF (v := .slice a s.length c) he_5) <| jA (jf Tryz.underlying24 rfl) <| jA (jc rfl rfl) <| jD <| jB ?_
  by_cases h_8 : ((j : Nat) : Int) < ((s.length : Nat) : Int)
  · have hlt : j < s.length := by omega
    have hf_9 := SeesE.full hs_1 (by omega)
    refine jS (cB (dT h_8)) <| jQ <| jB <| jC <| jZ <| jC <| jE <| jA (jF (v := .slice a s.length c) he_5) <| jA (jF (v := nv j) he_7) ?_
    obtain ⟨hr_10, hr_10b, -⟩ := sees_some hf_9 (by omega)
    refine jA (jX (i := j) Tryz.underlying24 Tryz.sizeOf170 hr_10 hr_10b rfl rfl (by omega)) ?_
    have hi_11 := SeesAE.elem hi_2 o0 (show j < s.length by omega)
    have hs_12 := seesOE hi_11
    refine jK (kF (vs := [iv ((s.getD j o0).t.seq), .slice ((s.getD j o0).x.a0) ((s.getD j o0).t.cells.length) ((s.getD j o0).x.c0), .bool ((s.getD j o0).t.whole)]) hf_9 nM rfl Tryz.isAgg170 Tryz.sizeOf170 (flat_take encO_len o0 s j (by omega)) rfl (by decide)) <| jA (jF (v := iv l1) he_6) ?_
    refine jH rfl (jU [] Tryz.call136 rfl (C_szSlot (s.getD j o0) l1 (by omega) (by omega) (hse j hlt)) rfl (fun w hw => hw.seeOutAE hi_11 nMA)) ?_
    rintro _ _ ⟨_, ⟨rfl, rfl⟩, rfl⟩
    have hle_13 := szSlotF_le (s.getD j o0).t l1 (by omega)
    refine jA (jG (v := iv (szSlotF (s.getD j o0).t l1)) rfl) <| jD <| jB <| jC <| jE <| jA (jF (v := iv (szSlotF (s.getD j o0).t l1)) rfl) <| jA (jc rfl rfl) <| jD <| jB ?_
    by_cases h_14 : (szSlotF (s.getD j o0).t l1) < 0
    · have hneg := h_14
      refine jS (cB (dT h_14)) <| jC <| jE <| jA (jG (v := iv (-1)) rfl) <| jD <| jB <| jJ <| je <| jO <| jO ?_
      refine je <| jO <| jL (.inl rfl) rfl (jM (v := iv (-1)) rfl) (List.nil_sublist _) ?_
      refine ⟨?_, rfl⟩
      rw [szL_stepM o0 hlt, if_pos hneg] at hR
      rw [← hR]
    have hneg := h_14
    refine jP (cB (dF h_14)) <| jQ <| jk <| jB <| jE <| jA (jF (v := nv j) he_7) <| jA (ja (c := ((j + 1 : Nat) : Int)) rfl rfl (wr (by omega))) <| jA (jG (v := iv ((j + 1 : Nat) : Int)) rfl) <| jD ?_
    refine jl (s.length - (j + 1)) (by omega) ⟨j + 1, szSlotF (s.getD j o0).t l1, by omega, by omega, by omega, (by rw [szL_stepM o0 hlt, if_neg hneg] at hR; exact hR), he_5, rfl, rfl, rfl, rfl⟩
  refine jP (cB (dF h_8)) <| jn <| jb <| jb <| jo <| jB <| jC <| jE <| jA (jF (v := iv l1) he_6) <| jA (jG (v := iv l1) rfl) ?_
  refine jD <| jB <| jJ <| jL (.inl rfl) rfl (jM (v := iv l1) rfl) (List.nil_sublist _) ?_
  refine ⟨?_, rfl⟩
  rw [List.drop_of_length_le (by rw [List.length_map]; omega)] at hR
  rw [← hR]
  rfl

theorem C_toSlotS (a : Option Addr) (c : Nat) (s : List OX) (hn : s.length ≤ 1048576) (hl : ∀ q ∈ s, q.t.lim 1048576) :
    Ct Tryz.prog 90 [.slice a s.length c] [] (fun w => SeesAE w (rdsOS a c s)) (fun r A' => ∃ a' c' y, y.map OX.t = s.map OX.t ∧ r = .slice a' y.length c' ∧ A' = [.rows (rdsOS a' c' y)]) := by
  refine Ct.intro Tryz.func90 rfl Tryz.ntmps90 (lb rfl) fun w0 hpre => ?_
  have hs_1 : SeesE w0 (.slice a s.length c) 3 s.length (s.flatMap encO) := (hpre).head
  have hi_2 : SeesAE w0 (s.flatMap rdsO) := (hpre).tail
  refine jC <| jE <| jA (jG (v := .slice none 0 0) rfl) <| jD <| jB <| jC <| jE <| jA (jF (v := .slice a s.length c) rfl) <| jA (jf Tryz.underlying24 rfl) ?_
  refine jH rfl (JO.makeSlice (z := .agg #[iv 0, .slice none 0 0, .bool false]) (zc := [iv 0, .slice none 0 0, .bool false]) (m := s.length) kY Tryz.typeInfo173 rfl rfl rfl rfl rfl (by unfold maxLen; omega) (by show 40 * _ ≤ _; omega)) ?_
  rintro _ _ ⟨a_3, rfl, rfl⟩
  refine jA (jG (v := .slice a_3 s.length s.length) rfl) <| jD <| jB <| jC <| jC <| jE <| jA (jG (v := iv 0) rfl) <| jD <| jB <| jZ ?_
  refine kP (L' := [Res.row (.slice a_3 s.length s.length) 173 3 s.length ((List.replicate s.length o0).flatMap encO), Res.rows (([] : List OX).flatMap rdsO)]) (fun w hw => St.rowsNil' (hw.eqL (by rw [flatO]; rfl))) <| jp (fun k_ e_ L_ => ∃ j : Nat, ∃ y : List OX, (j ≤ s.length) ∧ (y.map OX.t = (s.take j).map OX.t) ∧ e_ 0 = .slice a s.length c ∧ e_ 2 = .slice none 0 0 ∧ e_ 3 = .slice a_3 s.length s.length ∧ e_ 4 = nv j ∧ L_ = [Res.row (.slice a_3 s.length s.length) 173 3 s.length ((y ++ List.replicate (s.length - j) o0).flatMap encO), Res.rows (y.flatMap rdsO)] ∧ k_ = s.length - j) _ ⟨0, ([] : List OX), by omega, rfl, rfl, rfl, rfl, rfl, rfl, rfl⟩ ?_
  rintro _ e_4 _ ⟨j, y, hj, hd, he_5, he_6, he_7, he_8, rfl, rfl⟩
  refine jC <| jC <| jE <| jA (jF (v := nv j) he_8) <| jA (jF (v := .slice a s.length c) he_5) <| jA (jf Tryz.underlying24 rfl) <| jA (jc rfl rfl) <| jD <| jB ?_
  by_cases h_9 : ((j : Nat) : Int) < ((s.length : Nat) : Int)
  · have hlt : j < s.length := by omega
    have hf_10 := SeesE.full hs_1 (by omega)
    refine jS (cB (dT h_9)) <| jQ <| jB <| jC <| jZ <| jE <| jA (jF (v := .slice a_3 s.length s.length) he_7) <| jA (jF (v := nv j) he_8) <| jA (jF (v := .slice a s.length c) he_5) <| jA (jF (v := nv j) he_8) ?_
    obtain ⟨hr_11, hr_11b, -⟩ := sees_some hf_10 (by omega)
    refine jA (jX (i := j) Tryz.underlying24 Tryz.sizeOf170 hr_11 hr_11b rfl rfl (by omega)) ?_
    have hi_12 := SeesAE.elem hi_2 o0 (show j < s.length by omega)
    have hs_13 := seesOE hi_12
    refine jK (kF (vs := [iv ((s.getD j o0).t.seq), .slice ((s.getD j o0).x.a0) ((s.getD j o0).t.cells.length) ((s.getD j o0).x.c0), .bool ((s.getD j o0).t.whole)]) hf_10 nM rfl Tryz.isAgg170 Tryz.sizeOf170 (flat_take encO_len o0 s j (by omega)) rfl (by decide)) ?_
    refine jH rfl (jU [] Tryz.call138 rfl (C_toSlot (s.getD j o0) (hl _ (getD_mem hlt))) rfl (fun w hw => hw.seeOutAE hi_12 nMA)) ?_
    rintro _ _ ⟨_, ⟨y_14, hy_15, rfl, rfl⟩, rfl⟩
    refine kQ fun hst => ?_
    obtain ⟨hr_16, hr_16b, -⟩ := row_some 1 rfl (by omega) hst
    refine jA (jX (i := j) kY kd hr_16 hr_16b rfl rfl (by omega)) ?_
    refine jH rfl (kD 1 (vs := [iv y_14.t.seq, .slice y_14.x.a0 y_14.t.cells.length y_14.x.c0, .bool y_14.t.whole]) (cs' := ((y ++ List.replicate (s.length - j) o0).set j y_14).flatMap encO) rfl rfl rfl rfl kd rfl rfl (by decide) (by rw [flat_length encO_len]; rw [List.length_append, List.length_replicate, map_len hd hj]; omega) (flat_set encO_len (y ++ List.replicate (s.length - j) o0) j y_14 (by rw [List.length_append, List.length_replicate, map_len hd hj]; omega))) ?_
    rintro _ _ rfl
    refine jD <| jk <| jB <| jE <| jA (jF (v := nv j) he_8) <| jA (ja (c := ((j + 1 : Nat) : Int)) rfl rfl (wr (by omega))) <| jA (jG (v := iv ((j + 1 : Nat) : Int)) rfl) <| jD <| jv (L' := [Res.rows ((y ++ [y_14]).flatMap rdsO), Res.row (.slice a_3 s.length s.length) 173 3 s.length (((y ++ List.replicate (s.length - j) o0).set j y_14).flatMap encO)]) (fun w hw => hw.addR [2, 0] rfl flatMap_snoc) <| jv (L' := [Res.rows ((y ++ [y_14]).flatMap rdsO), Res.row (.slice a_3 s.length s.length) 173 3 s.length (((y ++ [y_14]) ++ List.replicate (s.length - (j + 1)) o0).flatMap encO)]) (fun w hw => hw.eqL (by rw [fillV_step (map_len hd hj) hlt])) ?_
    refine kL [1, 0] (A := [Res.row (.slice a_3 s.length s.length) 173 3 s.length (((y ++ [y_14]) ++ List.replicate (s.length - (j + 1)) o0).flatMap encO), Res.rows ((y ++ [y_14]).flatMap rdsO)]) rfl ?_
    refine jl (s.length - (j + 1)) (by omega) ⟨j + 1, (y ++ [y_14]), by omega, (map_take_succ o0 hd hlt hy_15), he_5, he_6, he_7, rfl, rfl, rfl⟩
  refine jP (cB (dF h_9)) <| jn <| jb <| jb <| jo <| jB <| jC <| jE <| jA (jF (v := .slice a_3 s.length s.length) he_7) <| jA (jG (v := .slice a_3 s.length s.length) rfl) ?_
  refine jD <| jB <| jJ ?_
  have hly := map_len hd hj
  obtain rfl : j = s.length := by omega
  refine jv (L' := [Res.row (.slice a_3 y.length s.length) 173 3 y.length (y.flatMap encO), Res.rows (y.flatMap rdsO)]) (fun w hw => hw.eqL (by simp only [Nat.sub_self, List.replicate_zero, List.append_nil, hly])) <| jv (L' := [Res.rows (rdsOS a_3 s.length y)]) (fun w hw => hw.consR (r := ⟨.slice a_3 y.length s.length, 173, 3, y.length, y.flatMap encO⟩) (A := y.flatMap rdsO) [0, 0] rfl) <| jL (.inl rfl) rfl (jM (v := .slice a_3 s.length s.length) rfl) (List.Sublist.refl _) ?_
  exact ⟨a_3, s.length, y, map_all hd (Nat.le_refl _), by rw [hly], rfl⟩

theorem C_eqSlotS (a b : Option Addr) (c c' : Nat) (s t : List OX) (hn : s.length ≤ 9223372036854775807) (hl : ∀ q ∈ s, q.t.lim 1000000000) :
    Ct Tryz.prog 99 [.slice a s.length c, .slice b t.length c'] [] (fun w => SeesA w (rdsOS a c s) ∧ SeesA w (rdsOS b c' t)) (fun r A' => r = .bool (decide (s.map OX.t = t.map OX.t)) ∧ A' = []) := by
  refine Ct.intro Tryz.func99 rfl Tryz.ntmps99 (lb rfl) fun w0 hpre => ?_
  have hs_1 : Sees w0 (.slice a s.length c) 3 s.length (s.flatMap encO) := (hpre.1).head
  have hi_2 : SeesA w0 (s.flatMap rdsO) := (hpre.1).tail
  have hs_3 : Sees w0 (.slice b t.length c') 3 t.length (t.flatMap encO) := (hpre.2).head
  have hi_4 : SeesA w0 (t.flatMap rdsO) := (hpre.2).tail
  refine jC <| jE <| jA (jG (v := .bool false) rfl) <| jD <| jB <| jC <| jC <| jE <| jA (jF (v := .slice a s.length c) rfl) <| jA (jf kY rfl) ?_
  refine jA (jF (v := .slice b t.length c') rfl) <| jA (jf kY rfl) <| jA (jz rfl rfl) <| jD <| jB ?_
  by_cases h_5 : ((s.length : Nat) : Int) = ((t.length : Nat) : Int)
  · have hlen := h_5
    refine jP (cB (cN (dT h_5))) <| jQ <| jB <| jC <| jC <| jE <| jA (jG (v := iv 0) rfl) <| jD <| jB <| jZ ?_
    refine jp (fun k_ e_ L_ => ∃ j : Nat, (j ≤ s.length) ∧ ((s.take j).map OX.t = (t.take j).map OX.t) ∧ (s.length = t.length) ∧ e_ 0 = .slice a s.length c ∧ e_ 1 = .slice b t.length c' ∧ e_ 5 = nv j ∧ L_ = [] ∧ k_ = s.length - j) _ ⟨0, by omega, rfl, by omega, rfl, rfl, rfl, rfl, rfl⟩ ?_
    rintro _ e_6 _ ⟨j, hj, hE, hln, he_7, he_8, he_9, rfl, rfl⟩
    refine jC <| jC <| jE <| jA (jF (v := nv j) he_9) <| jA (jF (v := .slice a s.length c) he_7) <| jA (jf kY rfl) <| jA (jc rfl rfl) <| jD <| jB ?_
    by_cases h_10 : ((j : Nat) : Int) < ((s.length : Nat) : Int)
    · have hlt : j < s.length := by omega
      refine jS (cB (dT h_10)) <| jQ <| jB <| jC <| jZ <| jC <| kG [] 1000 mixed (by simp) <| jT 0 rfl (jF (v := .slice a s.length c) he_7) <| jT 1 rfl (jF (v := nv j) he_9) ?_
      obtain ⟨hr_11, hr_11b, -⟩ := sees_some hs_1 (by omega)
      refine jT 2 rfl (jX (i := j) kY kd hr_11 hr_11b rfl rfl (by omega)) ?_
      have hi_12 := SeesA.elem hi_2 o0 (show j < s.length by omega)
      have hs_13 := seesO hi_12
      refine jw 3 rfl (kF (vs := [iv ((s.getD j o0).t.seq), .slice ((s.getD j o0).x.a0) ((s.getD j o0).t.cells.length) ((s.getD j o0).x.c0), .bool ((s.getD j o0).t.whole)]) hs_1 nM rfl Tryz.isAgg173 kd (flat_take encO_len o0 s j (by omega)) rfl (by decide)) <| jT 4 rfl (jF (v := .slice b t.length c') he_8) <| jT 5 rfl (jF (v := nv j) he_9) ?_
      obtain ⟨hr_14, hr_14b, -⟩ := sees_some hs_3 (by omega)
      refine jT 6 rfl (jX (i := j) kY kd hr_14 hr_14b rfl rfl (by omega)) ?_
      have hi_15 := SeesA.elem hi_4 o0 (show j < t.length by omega)
      have hs_16 := seesO hi_15
      refine jw 7 rfl (kF (vs := [iv ((t.getD j o0).t.seq), .slice ((t.getD j o0).x.a0) ((t.getD j o0).t.cells.length) ((t.getD j o0).x.c0), .bool ((t.getD j o0).t.whole)]) hs_3 nM rfl Tryz.isAgg173 kd (flat_take encO_len o0 t j (by omega)) rfl (by decide)) <| jq (i := 8) ?_
      refine kA rfl rfl (jU [] Tryz.call143 rfl (C_eqSlot (s.getD j o0) (t.getD j o0) (hl _ (getD_mem hlt))) rfl (fun w hw => ⟨hw.seeOutA hi_12 nMA, hw.seeOutA hi_15 nMA⟩)) ?_
      rintro _ _ ⟨_, ⟨rfl, rfl⟩, rfl⟩
      refine ⟨(fun _ h => by cases h), ?_⟩
      refine jT 9 rfl (kE rfl) <| kH (by kernel_rfl) <| jB ?_
      by_cases h_17 : (s.getD j o0).t = (t.getD j o0).t
      · have heq := h_17
        refine jP (cB (cN (dT h_17))) <| jQ <| jk <| jB <| jE <| jA (jF (v := nv j) he_9) <| jA (ja (c := ((j + 1 : Nat) : Int)) rfl rfl (wr (by omega))) <| jA (jG (v := iv ((j + 1 : Nat) : Int)) rfl) <| jD ?_
        refine jl (s.length - (j + 1)) (by omega) ⟨j + 1, by omega, take_succM_eq o0 hE hlt hln heq, hln, he_7, he_8, rfl, rfl, rfl⟩
      have hne := h_17
      refine jS (cB (cN (dF h_17))) <| jC <| jE <| jA (jG (v := .bool false) rfl) <| jD <| jB <| jJ <| je <| jO <| jO ?_
      refine je <| jO <| jL (.inl rfl) rfl (jM (v := .bool false) rfl) (List.nil_sublist _) ?_
      refine ⟨?_, rfl⟩
      rw [dF (fun h => hne (getM_eq o0 h hlt hln))]
    refine jP (cB (dF h_10)) <| jn <| jb <| jb <| jo <| jB <| jC <| jE <| jA (jG (v := .bool true) rfl) <| jD ?_
    refine jB <| jJ <| jL (.inl rfl) rfl (jM (v := .bool true) rfl) (List.nil_sublist _) ?_
    refine ⟨?_, rfl⟩
    rw [dT (take_allM_eq hE (by omega) (by omega))]
  have hlen := h_5
  refine jS (cB (cN (dF h_5))) <| jC <| jE <| jA (jG (v := .bool false) rfl) <| jD <| jB <| jJ <| jO <| jL (.inl rfl) rfl (jM (v := .bool false) rfl) (List.nil_sublist _) ?_
  refine ⟨?_, rfl⟩
  rw [dF (fun h => by have h2 := congrArg List.length h; rw [List.length_map, List.length_map] at h2; omega)]

set_option maxRecDepth 4000 in
set_option maxHeartbeats 1000000 in
theorem C_markSlotS (a : Option Addr) (c : Nat) (l : List OX) (k : Nat) (h0 : 0 < k) (h1 : k + cntV cntO l ≤ 100000000) (hn : l.length ≤ 1000000000) :
    Ct Tryz.prog 103 [.slice a l.length c, .int .i64 ((k : Nat) : Int)] [Res.rows (rdsOS a c l)] (fun _ => True) (fun v A' => v = .int .i64 ((k + cntV cntO l : Nat) : Int) ∧ A' = [.rows (rdsOS a c (markV mkO cntO l k))]) := by
  refine Ct.intro Tryz.func103 rfl Tryz.ntmps103 (lb rfl) fun w0 hpre => ?_
  refine kP (L' := [Res.row (.slice a l.length c) 173 3 l.length (l.flatMap encO), Res.rows (l.flatMap rdsO)]) (fun w hw => hw.headR (r := ⟨.slice a l.length c, 173, 3, l.length, l.flatMap encO⟩) (A := l.flatMap rdsO) 0 rfl) <| jC <| jE <| jA (jG (v := iv 0) rfl) <| jD <| jB <| jC <| jC <| jE <| jA (jG (v := iv 0) rfl) ?_
  refine jD <| jB <| jZ <| jp (fun k_ e_ L_ => ∃ j : Nat, ∃ kk : Nat, ∃ Q : List OX, (j ≤ l.length) ∧ (kk = k + cntV cntO (l.take j)) ∧ (Q = (markV mkO cntO l k).take j) ∧ (Q.length = j) ∧ e_ 0 = .slice a l.length c ∧ e_ 1 = nv kk ∧ e_ 4 = iv 0 ∧ e_ 5 = nv j ∧ L_ = [Res.row (.slice a l.length c) 173 3 l.length ((Q ++ l.drop j).flatMap encO), Res.rows ((Q ++ l.drop j).flatMap rdsO)] ∧ k_ = l.length - j) _ ⟨0, k, [], by omega, rfl, rfl, rfl, rfl, rfl, rfl, rfl, rfl, rfl⟩ ?_
  rintro _ e_1 _ ⟨j, kk, Q, hj, hkk, hQ, hQl, he_2, he_3, he_4, he_5, rfl, rfl⟩
  refine jC <| jC <| jE <| jA (jF (v := nv j) he_5) <| jA (jF (v := .slice a l.length c) he_2) <| jA (jf kY rfl) <| jA (jc rfl rfl) <| jD <| jB ?_
  by_cases h_6 : ((j : Nat) : Int) < ((l.length : Nat) : Int)
  · have hlt : j < l.length := by omega
    have hb : cntV cntO (l.take j) + cntO (l.getD j o0) ≤ cntV cntO l := cntV_le o0 hlt
    simp only [cntO] at hb
    refine kP (L' := [Res.row (.slice ((l.getD j o0).x.a0) ((l.getD j o0).t.cells.length) ((l.getD j o0).x.c0)) 131 2 (((l.getD j o0).t.cells).length) (((l.getD j o0).t.cells).flatMap encC), Res.rows (Q.flatMap rdsO), Res.rows ((l.drop (j + 1)).flatMap rdsO), Res.row (.slice a l.length c) 173 3 l.length (mid encO Q [iv ((l.getD j o0).t.seq), .slice ((l.getD j o0).x.a0) ((l.getD j o0).t.cells.length) ((l.getD j o0).x.c0), .bool ((l.getD j o0).t.whole)] (l.drop (j + 1)))]) (fun w hw => St.openR 1 rfl (St.splitR 1 rfl (flatMap_mid o0 hlt) (hw.midR 0 rfl o0 hlt))) <| jS (cB (dT h_6)) <| jQ <| jB <| jC <| jZ <| jC <| jE <| jA (jF (v := .slice a l.length c) he_2) <| jA (jF (v := nv j) he_5) ?_
    refine jA (jF (v := nv kk) he_3) ?_
    refine kQ fun hst => ?_
    obtain ⟨hr_7, hr_7b, -⟩ := row_some 3 rfl (by omega) hst
    refine jA (jX (i := j) kY kd hr_7 hr_7b rfl rfl (by omega)) <| jA (ji fo173_0 hr_7 rfl) ?_
    refine jH rfl (kD 3 (vs := [nv kk]) (cs' := mid encO Q [nv kk, .slice ((l.getD j o0).x.a0) ((l.getD j o0).t.cells.length) ((l.getD j o0).x.c0), .bool ((l.getD j o0).t.whole)] (l.drop (j + 1))) rfl rfl rfl rfl kW rfl rfl (by decide) (mid_fit encO_len rfl hQl (f := 0) (lb rfl)) (mid_set encO_len rfl hQl 0 [nv kk] (lb rfl))) ?_
    rintro _ _ rfl
    refine jD <| jB <| jC <| jE <| jA (jF (v := nv kk) he_3) <| jA (ja (c := ((kk + 1 : Nat) : Int)) rfl rfl (wr (by omega))) <| jA (jG (v := iv ((kk + 1 : Nat) : Int)) rfl) <| jD <| jB <| jC ?_
    refine jE <| jA (jF (v := .slice a l.length c) he_2) <| jA (jF (v := nv j) he_5) <| jA (jX (i := j) kY kd hr_7 hr_7b rfl rfl (by omega)) <| jA (ji fo173_1 hr_7 rfl) <| jK (LO.loadR1 3 (v := .slice ((l.getD j o0).x.a0) ((l.getD j o0).t.cells.length) ((l.getD j o0).x.c0)) rfl rfl kx (mid_at encO_len rfl hQl 1 (by decide))) <| jA (jF (v := iv ((kk + 1 : Nat) : Int)) rfl) ?_
    refine jH rfl (jU [0] Tryz.call44 rfl (C_markCellS (l.getD j o0).x.a0 ((l.getD j o0).x.c0) ((l.getD j o0).t.cells) (kk + 1) (by omega) (by omega)) rfl (fun _ _ => trivial)) ?_
    rintro _ _ ⟨_, ⟨rfl, rfl⟩, rfl⟩
    refine jA (jG (v := iv ((kk + 1 + 2 * ((l.getD j o0).t.cells).length : Nat) : Int)) rfl) <| jD <| jB <| jC <| jE <| jA (jF (v := .slice a l.length c) he_2) <| jA (jF (v := nv j) he_5) <| jA (jF (v := iv ((kk + 1 + 2 * ((l.getD j o0).t.cells).length : Nat) : Int)) rfl) <| jA (PO.remN (c := (((kk + 1 + 2 * ((l.getD j o0).t.cells).length) % 3 : Nat) : Int)) rfl rfl (by omega) (by omega) (by omega)) <| jA (PO.eqlI rfl rfl) ?_
    refine jA (jX (i := j) kY kd hr_7 hr_7b rfl rfl (by omega)) <| jA (ji fo173_2 hr_7 rfl) ?_
    refine jH rfl (kD 3 (vs := [.bool (decide ((((kk + 1 + 2 * ((l.getD j o0).t.cells).length) % 3 : Nat) : Int) = 0))]) (cs' := mid encO Q [nv kk, .slice ((l.getD j o0).x.a0) ((l.getD j o0).t.cells.length) ((l.getD j o0).x.c0), .bool (decide ((((kk + 1 + 2 * ((l.getD j o0).t.cells).length) % 3 : Nat) : Int) = 0))] (l.drop (j + 1))) rfl rfl rfl rfl Tryz.sizeOf4 rfl rfl (by decide) (mid_fit encO_len rfl hQl (f := 2) (lb rfl)) (mid_set encO_len rfl hQl 2 [.bool (decide ((((kk + 1 + 2 * ((l.getD j o0).t.cells).length) % 3 : Nat) : Int) = 0))] (lb rfl))) ?_
    rintro _ _ rfl
    refine jD <| jB <| jE <| jA (jF (v := iv ((kk + 1 + 2 * ((l.getD j o0).t.cells).length : Nat) : Int)) rfl) <| jA (ja (c := (((kk + 1 + 2 * ((l.getD j o0).t.cells).length) + 1 : Nat) : Int)) rfl rfl (wr (by omega))) <| jA (jG (v := iv (((kk + 1 + 2 * ((l.getD j o0).t.cells).length) + 1 : Nat) : Int)) rfl) <| jD <| jk <| jB <| jE ?_
    refine jA (jF (v := nv j) he_5) <| jA (ja (c := ((j + 1 : Nat) : Int)) rfl rfl (wr (by omega))) <| jA (jG (v := iv ((j + 1 : Nat) : Int)) rfl) <| jD <| jv (L' := [Res.rows (((Q ++ [mkO (l.getD j o0) kk]) ++ l.drop (j + 1)).flatMap rdsO), Res.row (.slice a l.length c) 173 3 l.length (((Q ++ [mkO (l.getD j o0) kk]) ++ l.drop (j + 1)).flatMap encO)]) (fun w hw => St.joinR [2, 0, 1] rfl (by rw [flatMap_mid2, rdsO_mk]) (St.closeR (A := ([⟨.slice ((l.getD j o0).x.a0) ((l.getD j o0).t.cells.length) ((l.getD j o0).x.c0), 131, 2, ((l.getD j o0).t.cells).length, (markC ((l.getD j o0).t.cells) (kk + 1)).flatMap encC⟩] : List RD)) [1] rfl (hw.unmid 3 rfl (q := mkO (l.getD j o0) kk) (encO_mk _ _)))) <| kL [1, 0] (A := [Res.row (.slice a l.length c) 173 3 l.length (((Q ++ [mkO (l.getD j o0) kk]) ++ l.drop (j + 1)).flatMap encO), Res.rows (((Q ++ [mkO (l.getD j o0) kk]) ++ l.drop (j + 1)).flatMap rdsO)]) rfl ?_
    refine jl (l.length - (j + 1)) (by omega) ⟨j + 1, (kk + 1 + 2 * ((l.getD j o0).t.cells).length) + 1, (Q ++ [mkO (l.getD j o0) kk]), by omega, (by rw [cntV_step o0 hlt]; simp only [cntO]; omega), (by rw [markV_step o0 hlt, ← hQ, ← hkk]), (by rw [List.length_append, hQl]; rfl), he_2, rfl, he_4, rfl, rfl, rfl⟩
  refine jP (cB (dF h_6)) <| jn <| jb <| jb <| jo <| jB <| jC <| jE <| jA (jF (v := nv kk) he_3) <| jA (jG (v := nv kk) rfl) ?_
  refine jD <| jB <| jJ ?_
  have hz : Q ++ l.drop j = markV mkO cntO l k := by rw [hQ, List.drop_of_length_le (by omega), List.append_nil, markV_all (by omega)]
  refine jv (L' := [Res.row (.slice a ((markV mkO cntO l k).length) c) 173 3 ((markV mkO cntO l k).length) ((markV mkO cntO l k).flatMap encO), Res.rows ((markV mkO cntO l k).flatMap rdsO)]) (fun w hw => hw.eqL (by rw [hz, markV_len])) <| jv (L' := [Res.rows (rdsOS a c (markV mkO cntO l k))]) (fun w hw => hw.consR (r := ⟨.slice a ((markV mkO cntO l k).length) c, 173, 3, (markV mkO cntO l k).length, (markV mkO cntO l k).flatMap encO⟩) (A := (markV mkO cntO l k).flatMap rdsO) [0, 0] rfl) <| jL (.inl rfl) rfl (jM (v := nv kk) rfl) (List.Sublist.refl _) ?_
  exact ⟨by rw [hkk, cntV_all (by omega)], rfl⟩

set_option maxRecDepth 4000 in
set_option maxHeartbeats 1000000 in
theorem C_heldSlotS (a : Option Addr) (c : Nat) (l : List OX) (k : Nat) (h0 : 0 < k) (h1 : k + cntV cntO l ≤ 100000000) (hn : l.length ≤ 1000000000) :
    Ct Tryz.prog 108 [.slice a l.length c, .int .i64 ((k : Nat) : Int)] [] (fun w => SeesA w (rdsOS a c (markV mkO cntO l k))) (fun v A' => v = .int .i64 ((k + cntV cntO l : Nat) : Int) ∧ A' = []) := by
  refine Ct.intro Tryz.func108 rfl Tryz.ntmps108 (lb rfl) fun w0 hpre => ?_
  have hs : Sees w0 (.slice a l.length c) 3 l.length ((markV mkO cntO l k).flatMap encO) := by have h := hpre.head; simpa only [RD.sees, markV_len] using h
  have hi : SeesA w0 ((markV mkO cntO l k).flatMap rdsO) := hpre.tail
  refine jC <| jE <| jA (jG (v := iv 0) rfl) <| jD <| jB <| jC <| jC <| jE <| jA (jG (v := iv 0) rfl) <| jD ?_
  refine jB <| jZ <| jp (fun k_ e_ L_ => ∃ j : Nat, ∃ kk : Nat, (j ≤ l.length) ∧ (kk = k + cntV cntO (l.take j)) ∧ e_ 0 = .slice a l.length c ∧ e_ 1 = nv kk ∧ e_ 5 = nv j ∧ L_ = [] ∧ k_ = l.length - j) _ ⟨0, k, by omega, rfl, rfl, rfl, rfl, rfl, rfl⟩ ?_
  rintro _ e_1 _ ⟨j, kk, hj, hkk, he_2, he_3, he_4, rfl, rfl⟩
  refine jC <| jC <| jE <| jA (jF (v := nv j) he_4) <| jA (jF (v := .slice a l.length c) he_2) <| jA (jf kY rfl) <| jA (jc rfl rfl) <| jD <| jB ?_
  by_cases h_5 : ((j : Nat) : Int) < ((l.length : Nat) : Int)
  · have hlt : j < l.length := by omega
    have hb : cntV cntO (l.take j) + cntO (l.getD j o0) ≤ cntV cntO l := cntV_le o0 hlt
    simp only [cntO] at hb
    have hget : (markV mkO cntO l k).getD j o0 = mkO (l.getD j o0) kk := by rw [markV_get o0 l k j hlt, ← hkk]
    have hin := SeesA.elem hi o0 (show j < (markV mkO cntO l k).length by rw [markV_len]; exact hlt)
    rw [hget] at hin
    have hs_6 := seesO_mk' hin
    refine jS (cB (dT h_5)) <| jQ <| jB <| jC <| jZ <| jC <| jC <| jE <| jA (jF (v := .slice a l.length c) he_2) <| jA (jF (v := nv j) he_4) ?_
    obtain ⟨hr_7, hr_7b, -⟩ := sees_some hs (by omega)
    refine jA (jX (i := j) kY kd hr_7 hr_7b rfl rfl (by omega)) <| jA (ji fo173_0 hr_7 rfl) <| jK (ju (v := nv kk) hs nM rfl kR (flat_atE encO_len o0 (markV mkO cntO l k) j 0 (by rw [markV_len]; exact hlt) (by decide) hget (encO_mk _ _))) <| jA (jF (v := nv kk) he_3) <| jA (jz rfl rfl) <| jD <| jB <| jP (cB (cN (dT rfl))) <| jQ <| jB ?_
    refine jC <| jE <| jA (jF (v := nv kk) he_3) <| jA (ja (c := ((kk + 1 : Nat) : Int)) rfl rfl (wr (by omega))) <| jA (jG (v := iv ((kk + 1 : Nat) : Int)) rfl) <| jD <| jB <| jC <| jE <| jA (jF (v := .slice a l.length c) he_2) ?_
    refine jA (jF (v := nv j) he_4) <| jA (jX (i := j) kY kd hr_7 hr_7b rfl rfl (by omega)) <| jA (ji fo173_1 hr_7 rfl) <| jK (ju (v := .slice ((l.getD j o0).x.a0) ((l.getD j o0).t.cells.length) ((l.getD j o0).x.c0)) hs nM rfl kx (flat_atE encO_len o0 (markV mkO cntO l k) j 1 (by rw [markV_len]; exact hlt) (by decide) hget (encO_mk _ _))) <| jA (jF (v := iv ((kk + 1 : Nat) : Int)) rfl) ?_
    refine jH rfl (jU [] Tryz.call49 rfl (Y_heldCellS (l.getD j o0).x.a0 ((l.getD j o0).x.c0) ((l.getD j o0).t.cells) (kk + 1) (by omega) (by omega)) rfl (fun w hw => hw.seeOut_ hs_6 nM)) ?_
    rintro _ _ ⟨_, ⟨rfl, rfl⟩, rfl⟩
    refine jA (jG (v := iv ((kk + 1 + 2 * ((l.getD j o0).t.cells).length : Nat) : Int)) rfl) <| jD <| jB <| jC <| jC <| jE <| jA (jF (v := iv ((kk + 1 + 2 * ((l.getD j o0).t.cells).length : Nat) : Int)) rfl) <| jA (jc rfl rfl) <| jD <| jB ?_
    by_cases h_8 : ((kk + 1 + 2 * ((l.getD j o0).t.cells).length : Nat) : Int) < 0
    · refine jS (cB (dT h_8)) <| jC <| jE <| jA (jG (v := iv (-1)) rfl) <| jD <| jB <| jJ <| jO <| je <| jO ?_
      refine jO <| je <| jO <| jL (.inl rfl) rfl (jM (v := iv (-1)) rfl) (List.nil_sublist _) ?_
      exfalso
      omega
    refine jP (cB (dF h_8)) <| jQ <| jB <| jC <| jC <| jE <| jA (jF (v := .slice a l.length c) he_2) <| jA (jF (v := nv j) he_4) <| jA (jX (i := j) kY kd hr_7 hr_7b rfl rfl (by omega)) <| jA (ji fo173_2 hr_7 rfl) ?_
    refine jK (ju (v := .bool (decide ((((kk + 1 + 2 * ((l.getD j o0).t.cells).length) % 3 : Nat) : Int) = 0))) hs nM rfl ky (flat_atE encO_len o0 (markV mkO cntO l k) j 2 (by rw [markV_len]; exact hlt) (by decide) hget (encO_mk _ _))) <| jA (jF (v := iv ((kk + 1 + 2 * ((l.getD j o0).t.cells).length : Nat) : Int)) rfl) <| jA (PO.remN (c := (((kk + 1 + 2 * ((l.getD j o0).t.cells).length) % 3 : Nat) : Int)) rfl rfl (by omega) (by omega) (by omega)) <| jA (PO.eqlI rfl rfl) <| jA (PO.neqB Tryz.underlying4 rfl rfl) <| jD <| jB <| jP (cB (cN (dT rfl))) <| jQ <| jB ?_
    refine jE <| jA (jF (v := iv ((kk + 1 + 2 * ((l.getD j o0).t.cells).length : Nat) : Int)) rfl) <| jA (ja (c := (((kk + 1 + 2 * ((l.getD j o0).t.cells).length) + 1 : Nat) : Int)) rfl rfl (wr (by omega))) <| jA (jG (v := iv (((kk + 1 + 2 * ((l.getD j o0).t.cells).length) + 1 : Nat) : Int)) rfl) <| jD <| jk <| jB <| jE <| jA (jF (v := nv j) he_4) <| jA (ja (c := ((j + 1 : Nat) : Int)) rfl rfl (wr (by omega))) ?_
    refine jA (jG (v := iv ((j + 1 : Nat) : Int)) rfl) <| jD ?_
    refine jl (l.length - (j + 1)) (by omega) ⟨j + 1, (kk + 1 + 2 * ((l.getD j o0).t.cells).length) + 1, by omega, (by rw [cntV_step o0 hlt]; simp only [cntO]; omega), he_2, rfl, rfl, rfl, rfl⟩
  refine jP (cB (dF h_5)) <| jn <| jb <| jb <| jo <| jB <| jC <| jE <| jA (jF (v := nv kk) he_3) <| jA (jG (v := nv kk) rfl) ?_
  refine jD <| jB <| jJ <| jL (.inl rfl) rfl (jM (v := nv kk) rfl) (List.nil_sublist _) ?_
  exact ⟨by rw [hkk, cntV_all (by omega)], rfl⟩

theorem C_szTx (p : TX) (l : Int) (h0 : 0 ≤ l) (h1 : l ≤ 1048576) (hz : p.t.okz) :
    Ct Tryz.prog 15 [.agg #[.int .i64 p.t.id, .int .i64 p.t.age, .int .i64 p.t.proc, .int .i64 p.t.began, .slice p.x.a0 p.t.calls.length p.x.c0, .slice p.x.a1 p.t.ans.length p.x.c1, .slice p.x.a2 p.t.rd.length p.x.c2, .slice p.x.a3 p.t.wr.length p.x.c3, .slice p.x.a4 p.t.marks.length p.x.c4, .int .i64 p.t.state], .int .i64 l] [] (fun w => SeesAE w (rdsX p)) (fun r A' => r = .int .i64 (szTxF p.t l) ∧ A' = []) := by
  refine Ct.intro Tryz.func15 rfl Tryz.ntmps15 (lb rfl) fun w0 hpre => ?_
  obtain ⟨hs_1, hs_2, hs_3, hs_4, hs_5⟩ := seesXE hpre
  refine jC <| jE ?_
  refine jH rfl (jm (cs := [iv p.t.id, iv p.t.age, iv p.t.proc, iv p.t.began, .slice p.x.a0 p.t.calls.length p.x.c0, .slice p.x.a1 p.t.ans.length p.x.c1, .slice p.x.a2 p.t.rd.length p.x.c2, .slice p.x.a3 p.t.wr.length p.x.c3, .slice p.x.a4 p.t.marks.length p.x.c4, iv p.t.state]) rfl rfl) ?_
  rintro _ _ ⟨b_6, rfl, rfl⟩
  refine jA (jG (v := iv 0) rfl) <| jD <| jB <| jC <| jE <| jA (jI fo54_4 rfl) <| jK (jR 0 (v := .slice p.x.a0 p.t.calls.length p.x.c0) rfl rfl Tryz.isAgg48 rfl) <| jA (jF (v := iv l) rfl) ?_
  refine jH rfl (jU [] Tryz.call54 rfl (E_szCallS p.x.a0 p.x.c0 p.t.calls l (by omega) (by omega) hz.k0.1 hz.k0.2) rfl (fun w hw => hw.seeOutE hs_1 nM)) ?_
  rintro _ _ ⟨_, ⟨rfl, rfl⟩, rfl⟩
  have hle_7 := szLS_le szCallF_le p.t.calls l (by omega)
  refine jA (jG (v := iv (szLS szCallF p.t.calls l)) rfl) <| jD <| jB <| jC <| jC <| jE <| jA (jF (v := iv (szLS szCallF p.t.calls l)) rfl) <| jA (jc rfl rfl) <| jD <| jB ?_
  by_cases h_8 : (szLS szCallF p.t.calls l) < 0
  · refine jS (cB (dT h_8)) <| jC <| jE <| jA (jG (v := iv (-1)) rfl) <| jD <| jB <| jJ <| jO <| jL (.inl rfl) rfl (jM (v := iv (-1)) rfl) (List.nil_sublist _) ?_
    refine ⟨congrArg (Value.int .i64) ?_, rfl⟩
    simp only [szTxF, chk, id_eq]
    (repeat (first | rw [if_pos (by omega)] | rw [if_neg (by omega)]))
  refine jP (cB (dF h_8)) <| jQ <| jB <| jC <| jE <| jA (jI fo54_5 rfl) <| jK (jR 0 (v := .slice p.x.a1 p.t.ans.length p.x.c1) rfl rfl Tryz.isAgg49 rfl) <| jA (jF (v := iv (szLS szCallF p.t.calls l)) rfl) ?_
  refine jH rfl (jU [] Tryz.call55 rfl (E_szAnswerS p.x.a1 p.x.c1 p.t.ans (szLS szCallF p.t.calls l) (by omega) (by omega) hz.k1.1 hz.k1.2) rfl (fun w hw => hw.seeOutE hs_2 nM)) ?_
  rintro _ _ ⟨_, ⟨rfl, rfl⟩, rfl⟩
  have hle_9 := szLS_le szAnsF_le p.t.ans (szLS szCallF p.t.calls l) (by omega)
  refine jA (jG (v := iv (szLS szAnsF p.t.ans (szLS szCallF p.t.calls l))) rfl) <| jD <| jB <| jC <| jC <| jE <| jA (jF (v := iv (szLS szAnsF p.t.ans (szLS szCallF p.t.calls l))) rfl) <| jA (jc rfl rfl) <| jD <| jB ?_
  by_cases h_10 : (szLS szAnsF p.t.ans (szLS szCallF p.t.calls l)) < 0
  · refine jS (cB (dT h_10)) <| jC <| jE <| jA (jG (v := iv (-1)) rfl) <| jD <| jB <| jJ <| jO <| jL (.inl rfl) rfl (jM (v := iv (-1)) rfl) (List.nil_sublist _) ?_
    refine ⟨congrArg (Value.int .i64) ?_, rfl⟩
    simp only [szTxF, chk, id_eq]
    (repeat (first | rw [if_pos (by omega)] | rw [if_neg (by omega)]))
  refine jP (cB (dF h_10)) <| jQ <| jB <| jC <| jE <| jA (jI fo54_6 rfl) <| jK (jg 0 (vs := [.slice p.x.a2 p.t.rd.length p.x.c2, .slice p.x.a3 p.t.wr.length p.x.c3]) rfl rfl Tryz.isAgg51 Tryz.sizeOf51 rfl rfl) <| jA (jF (v := iv (szLS szAnsF p.t.ans (szLS szCallF p.t.calls l))) rfl) ?_
  refine jH rfl (jU [] Tryz.call56 rfl (E_szTouch p.x.a2 p.x.a3 p.x.c2 p.x.c3 p.t.rd p.t.wr (szLS szAnsF p.t.ans (szLS szCallF p.t.calls l)) (by omega) (by omega) hz.k2 hz.k3) rfl (fun w hw => ⟨hw.seeOutE hs_3 nM, hw.seeOutE hs_4 nM⟩)) ?_
  rintro _ _ ⟨_, ⟨rfl, rfl⟩, rfl⟩
  have hle_11 := szTouch_le p.t.rd p.t.wr (szLS szAnsF p.t.ans (szLS szCallF p.t.calls l)) (by omega)
  refine jA (jG (v := iv (szTouch p.t.rd p.t.wr (szLS szAnsF p.t.ans (szLS szCallF p.t.calls l)))) rfl) <| jD <| jB <| jC <| jC <| jE <| jA (jF (v := iv (szTouch p.t.rd p.t.wr (szLS szAnsF p.t.ans (szLS szCallF p.t.calls l)))) rfl) <| jA (jc rfl rfl) <| jD <| jB ?_
  by_cases h_12 : (szTouch p.t.rd p.t.wr (szLS szAnsF p.t.ans (szLS szCallF p.t.calls l))) < 0
  · refine jS (cB (dT h_12)) <| jC <| jE <| jA (jG (v := iv (-1)) rfl) <| jD <| jB <| jJ <| jO <| jL (.inl rfl) rfl (jM (v := iv (-1)) rfl) (List.nil_sublist _) ?_
    refine ⟨congrArg (Value.int .i64) ?_, rfl⟩
    simp only [szTxF, chk, id_eq]
    (repeat (first | rw [if_pos (by omega)] | rw [if_neg (by omega)]))
  refine jP (cB (dF h_12)) <| jQ <| jB <| jC <| jE <| jA (jI fo54_7 rfl) <| jK (jR 0 (v := .slice p.x.a4 p.t.marks.length p.x.c4) rfl rfl gA rfl) <| jA (jF (v := iv (szTouch p.t.rd p.t.wr (szLS szAnsF p.t.ans (szLS szCallF p.t.calls l)))) rfl) ?_
  refine jH rfl (jU [] Tryz.call57 rfl (E_szIntS p.x.a4 p.x.c4 p.t.marks (szTouch p.t.rd p.t.wr (szLS szAnsF p.t.ans (szLS szCallF p.t.calls l))) (by omega) (by omega) hz.k4) rfl (fun w hw => hw.seeOutE hs_5 nM)) ?_
  rintro _ _ ⟨_, ⟨rfl, rfl⟩, rfl⟩
  have hle_13 := szIntF_le p.t.marks (szTouch p.t.rd p.t.wr (szLS szAnsF p.t.ans (szLS szCallF p.t.calls l))) (by omega)
  refine jA (jG (v := iv (szIntF p.t.marks (szTouch p.t.rd p.t.wr (szLS szAnsF p.t.ans (szLS szCallF p.t.calls l))))) rfl) <| jD <| jB <| jC <| jC <| jE <| jA (jF (v := iv (szIntF p.t.marks (szTouch p.t.rd p.t.wr (szLS szAnsF p.t.ans (szLS szCallF p.t.calls l))))) rfl) <| jA (jc rfl rfl) <| jD <| jB ?_
  by_cases h_14 : (szIntF p.t.marks (szTouch p.t.rd p.t.wr (szLS szAnsF p.t.ans (szLS szCallF p.t.calls l)))) < 0
  · refine jS (cB (dT h_14)) <| jC <| jE <| jA (jG (v := iv (-1)) rfl) <| jD <| jB <| jJ <| jO <| jL (.inl rfl) rfl (jM (v := iv (-1)) rfl) (List.nil_sublist _) ?_
    refine ⟨congrArg (Value.int .i64) ?_, rfl⟩
    simp only [szTxF, chk, id_eq]
    (repeat (first | rw [if_pos (by omega)] | rw [if_neg (by omega)]))
  refine jP (cB (dF h_14)) <| jQ <| jB <| jC <| jE <| jA (jF (v := iv (szIntF p.t.marks (szTouch p.t.rd p.t.wr (szLS szAnsF p.t.ans (szLS szCallF p.t.calls l))))) rfl) <| jA (jG (v := iv (szIntF p.t.marks (szTouch p.t.rd p.t.wr (szLS szAnsF p.t.ans (szLS szCallF p.t.calls l))))) rfl) <| jD <| jB <| jJ ?_
  refine jL (.inl rfl) rfl (jM (v := iv (szIntF p.t.marks (szTouch p.t.rd p.t.wr (szLS szAnsF p.t.ans (szLS szCallF p.t.calls l))))) rfl) (List.nil_sublist _) ?_
  refine ⟨congrArg (Value.int .i64) ?_, rfl⟩
  simp only [szTxF, chk, id_eq]
  (repeat (first | rw [if_pos (by omega)] | rw [if_neg (by omega)]))

theorem C_toTx (p : TX) (hl : p.t.lim 1048576) :
    Ct Tryz.prog 17 [.agg #[.int .i64 p.t.id, .int .i64 p.t.age, .int .i64 p.t.proc, .int .i64 p.t.began, .slice p.x.a0 p.t.calls.length p.x.c0, .slice p.x.a1 p.t.ans.length p.x.c1, .slice p.x.a2 p.t.rd.length p.x.c2, .slice p.x.a3 p.t.wr.length p.x.c3, .slice p.x.a4 p.t.marks.length p.x.c4, .int .i64 p.t.state]] [] (fun w => SeesAE w (rdsX p)) (fun v A' => ∃ y : TX, y.t = p.t ∧ v = .agg #[.int .i64 y.t.id, .int .i64 y.t.age, .int .i64 y.t.proc, .int .i64 y.t.began, .slice y.x.a0 y.t.calls.length y.x.c0, .slice y.x.a1 y.t.ans.length y.x.c1, .slice y.x.a2 y.t.rd.length y.x.c2, .slice y.x.a3 y.t.wr.length y.x.c3, .slice y.x.a4 y.t.marks.length y.x.c4, .int .i64 y.t.state] ∧ A' = [.rows (rdsX y)]) := by
  obtain ⟨hb0, hb1, hb2, hb3, hb4⟩ := hl
  refine Ct.intro Tryz.func17 rfl Tryz.ntmps17 (lb rfl) fun w0 hpre => ?_
  obtain ⟨hs_1, hs_2, hs_3, hs_4, hs_5⟩ := seesXE hpre
  refine jC <| jE ?_
  refine jH rfl (jm (cs := [iv p.t.id, iv p.t.age, iv p.t.proc, iv p.t.began, .slice p.x.a0 p.t.calls.length p.x.c0, .slice p.x.a1 p.t.ans.length p.x.c1, .slice p.x.a2 p.t.rd.length p.x.c2, .slice p.x.a3 p.t.wr.length p.x.c3, .slice p.x.a4 p.t.marks.length p.x.c4, iv p.t.state]) rfl rfl) ?_
  rintro _ _ ⟨b_6, rfl, rfl⟩
  refine jH rfl (kB (z := .agg #[iv 0, iv 0, iv 0, iv 0, .slice none 0 0, .slice none 0 0, .slice none 0 0, .slice none 0 0, .slice none 0 0, iv 0]) (cs := [iv 0, iv 0, iv 0, iv 0, .slice none 0 0, .slice none 0 0, .slice none 0 0, .slice none 0 0, .slice none 0 0, iv 0]) gC rfl) ?_
  rintro _ _ ⟨b_7, rfl, rfl⟩
  refine jD <| jB <| jC <| jE ?_
  refine jH rfl (kB (z := .agg #[iv 0, iv 0, iv 0, iv 0, .slice none 0 0, .slice none 0 0, .slice none 0 0, .slice none 0 0, .slice none 0 0, iv 0]) (cs := [iv 0, iv 0, iv 0, iv 0, .slice none 0 0, .slice none 0 0, .slice none 0 0, .slice none 0 0, .slice none 0 0, iv 0]) gC rfl) ?_
  rintro _ _ ⟨b_8, rfl, rfl⟩
  refine jD <| jB <| jC <| jE <| jA (jI fo54_0 rfl) <| jK (jR 2 (v := iv p.t.id) rfl rfl kR rfl) <| jA (jI fo61_0 rfl) ?_
  refine jH rfl (jd 0 (vs := [iv p.t.id]) (cs' := [iv p.t.id, iv 0, iv 0, iv 0, .slice none 0 0, .slice none 0 0, .slice none 0 0, .slice none 0 0, .slice none 0 0, iv 0]) rfl rfl rfl rfl kW rfl rfl (lb rfl) rfl) ?_
  rintro _ _ rfl
  refine jD <| jB <| jC <| jE <| jA (jI fo54_1 rfl) <| jK (jR 2 (v := iv p.t.age) rfl rfl kR rfl) <| jA (jI fo61_1 rfl) ?_
  refine jH rfl (jd 0 (vs := [iv p.t.age]) (cs' := [iv p.t.id, iv p.t.age, iv 0, iv 0, .slice none 0 0, .slice none 0 0, .slice none 0 0, .slice none 0 0, .slice none 0 0, iv 0]) rfl rfl rfl rfl kW rfl rfl (lb rfl) rfl) ?_
  rintro _ _ rfl
  refine jD <| jB <| jC <| jE <| jA (jI fo54_2 rfl) <| jK (jR 2 (v := iv p.t.proc) rfl rfl kR rfl) <| jA (jI fo61_2 rfl) ?_
  refine jH rfl (jd 0 (vs := [iv p.t.proc]) (cs' := [iv p.t.id, iv p.t.age, iv p.t.proc, iv 0, .slice none 0 0, .slice none 0 0, .slice none 0 0, .slice none 0 0, .slice none 0 0, iv 0]) rfl rfl rfl rfl kW rfl rfl (lb rfl) rfl) ?_
  rintro _ _ rfl
  refine jD <| jB <| jC <| jE <| jA (jI fo54_3 rfl) <| jK (jR 2 (v := iv p.t.began) rfl rfl kR rfl) <| jA (jI fo61_3 rfl) ?_
  refine jH rfl (jd 0 (vs := [iv p.t.began]) (cs' := [iv p.t.id, iv p.t.age, iv p.t.proc, iv p.t.began, .slice none 0 0, .slice none 0 0, .slice none 0 0, .slice none 0 0, .slice none 0 0, iv 0]) rfl rfl rfl rfl kW rfl rfl (lb rfl) rfl) ?_
  rintro _ _ rfl
  refine jD <| jB <| jC <| jE <| jA (jI fo54_4 rfl) <| jK (jR 2 (v := .slice p.x.a0 p.t.calls.length p.x.c0) rfl rfl Tryz.isAgg48 rfl) ?_
  refine jH rfl (jU [] Tryz.call60 rfl (E_toCallS p.x.a0 p.x.c0 p.t.calls (by omega)) rfl (fun w hw => hw.seeOutE hs_1 nM)) ?_
  rintro _ _ ⟨_, ⟨a_9, c_10, rfl, rfl⟩, rfl⟩
  refine jA (jI fo61_4 rfl) ?_
  refine jH rfl (jd 1 (vs := [.slice a_9 p.t.calls.length c_10]) (cs' := [iv p.t.id, iv p.t.age, iv p.t.proc, iv p.t.began, .slice a_9 p.t.calls.length c_10, .slice none 0 0, .slice none 0 0, .slice none 0 0, .slice none 0 0, iv 0]) rfl rfl rfl rfl Tryz.sizeOf57 rfl rfl (lb rfl) rfl) ?_
  rintro _ _ rfl
  refine jD <| jB <| jC <| jE <| jA (jI fo54_5 rfl) <| jK (jR 3 (v := .slice p.x.a1 p.t.ans.length p.x.c1) rfl rfl Tryz.isAgg49 rfl) ?_
  refine jH rfl (jU [] Tryz.call61 rfl (E_toAnswerS p.x.a1 p.x.c1 p.t.ans (by omega)) rfl (fun w hw => hw.seeOutE hs_2 nM)) ?_
  rintro _ _ ⟨_, ⟨a_11, c_12, rfl, rfl⟩, rfl⟩
  refine jA (jI fo61_5 rfl) ?_
  refine jH rfl (jd 2 (vs := [.slice a_11 p.t.ans.length c_12]) (cs' := [iv p.t.id, iv p.t.age, iv p.t.proc, iv p.t.began, .slice a_9 p.t.calls.length c_10, .slice a_11 p.t.ans.length c_12, .slice none 0 0, .slice none 0 0, .slice none 0 0, iv 0]) rfl rfl rfl rfl Tryz.sizeOf58 rfl rfl (lb rfl) rfl) ?_
  rintro _ _ rfl
  refine jD <| jB <| jC <| jE <| jA (jI fo54_6 rfl) <| jK (jg 4 (vs := [.slice p.x.a2 p.t.rd.length p.x.c2, .slice p.x.a3 p.t.wr.length p.x.c3]) rfl rfl Tryz.isAgg51 Tryz.sizeOf51 rfl rfl) ?_
  refine jH rfl (jU [] Tryz.call62 rfl (E_toTouch p.x.a2 p.x.a3 p.x.c2 p.x.c3 p.t.rd p.t.wr (by omega) (by omega)) rfl (fun w hw => ⟨hw.seeOutE hs_3 nM, hw.seeOutE hs_4 nM⟩)) ?_
  rintro _ _ ⟨_, ⟨a_13, c_14, a_15, c_16, rfl, rfl⟩, rfl⟩
  refine jA (jI fo61_6 rfl) ?_
  refine jH rfl (jd 4 (vs := [.slice a_13 p.t.rd.length c_14, .slice a_15 p.t.wr.length c_16]) (cs' := [iv p.t.id, iv p.t.age, iv p.t.proc, iv p.t.began, .slice a_9 p.t.calls.length c_10, .slice a_11 p.t.ans.length c_12, .slice a_13 p.t.rd.length c_14, .slice a_15 p.t.wr.length c_16, .slice none 0 0, iv 0]) rfl rfl rfl rfl kv rfl rfl (lb rfl) rfl) ?_
  rintro _ _ rfl
  refine jD <| jB <| jC <| jE <| jA (jI fo54_7 rfl) <| jK (jR 6 (v := .slice p.x.a4 p.t.marks.length p.x.c4) rfl rfl gA rfl) ?_
  refine jH rfl (jU [] Tryz.call63 rfl (E_toIntS p.x.a4 p.x.c4 p.t.marks (by omega)) rfl (fun w hw => hw.seeOutE hs_5 nM)) ?_
  rintro _ _ ⟨_, ⟨a_17, c_18, rfl, rfl⟩, rfl⟩
  refine jA (jI fo61_7 rfl) ?_
  refine jH rfl (jd 5 (vs := [.slice a_17 p.t.marks.length c_18]) (cs' := [iv p.t.id, iv p.t.age, iv p.t.proc, iv p.t.began, .slice a_9 p.t.calls.length c_10, .slice a_11 p.t.ans.length c_12, .slice a_13 p.t.rd.length c_14, .slice a_15 p.t.wr.length c_16, .slice a_17 p.t.marks.length c_18, iv 0]) rfl rfl rfl rfl Tryz.sizeOf52 rfl rfl (lb rfl) rfl) ?_
  rintro _ _ rfl
  refine jD <| jB <| jC <| jE <| jA (jI fo54_8 rfl) <| jK (jR 7 (v := iv p.t.state) rfl rfl kR rfl) <| jA (jI fo61_8 rfl) ?_
  refine jH rfl (jd 5 (vs := [iv p.t.state]) (cs' := [iv p.t.id, iv p.t.age, iv p.t.proc, iv p.t.began, .slice a_9 p.t.calls.length c_10, .slice a_11 p.t.ans.length c_12, .slice a_13 p.t.rd.length c_14, .slice a_15 p.t.wr.length c_16, .slice a_17 p.t.marks.length c_18, iv p.t.state]) rfl rfl rfl rfl kW rfl rfl (lb rfl) rfl) ?_
  rintro _ _ rfl
  refine jD <| jB <| jC <| jE <| jK (jg 5 (vs := [iv p.t.id, iv p.t.age, iv p.t.proc, iv p.t.began, .slice a_9 p.t.calls.length c_10, .slice a_11 p.t.ans.length c_12, .slice a_13 p.t.rd.length c_14, .slice a_15 p.t.wr.length c_16, .slice a_17 p.t.marks.length c_18, iv p.t.state]) rfl rfl kg kS rfl rfl) ?_
  refine jH rfl (jd 6 (vs := [iv p.t.id, iv p.t.age, iv p.t.proc, iv p.t.began, .slice a_9 p.t.calls.length c_10, .slice a_11 p.t.ans.length c_12, .slice a_13 p.t.rd.length c_14, .slice a_15 p.t.wr.length c_16, .slice a_17 p.t.marks.length c_18, iv p.t.state]) (cs' := [iv p.t.id, iv p.t.age, iv p.t.proc, iv p.t.began, .slice a_9 p.t.calls.length c_10, .slice a_11 p.t.ans.length c_12, .slice a_13 p.t.rd.length c_14, .slice a_15 p.t.wr.length c_16, .slice a_17 p.t.marks.length c_18, iv p.t.state]) rfl rfl rfl rfl kS rfl rfl (lb rfl) rfl) ?_
  rintro _ _ rfl
  refine jD <| jB <| jJ <| jv (L' := [Res.rows (rdsX (⟨⟨a_9, c_10, a_11, c_12, a_13, c_14, a_15, c_16, a_17, c_18⟩, p.t⟩ : TX)), bk b_8 61 [iv p.t.id, iv p.t.age, iv p.t.proc, iv p.t.began, .slice a_9 p.t.calls.length c_10, .slice a_11 p.t.ans.length c_12, .slice a_13 p.t.rd.length c_14, .slice a_15 p.t.wr.length c_16, .slice a_17 p.t.marks.length c_18, iv p.t.state], bk b_7 61 [iv p.t.id, iv p.t.age, iv p.t.proc, iv p.t.began, .slice a_9 p.t.calls.length c_10, .slice a_11 p.t.ans.length c_12, .slice a_13 p.t.rd.length c_14, .slice a_15 p.t.wr.length c_16, .slice a_17 p.t.marks.length c_18, iv p.t.state], bk b_6 54 [iv p.t.id, iv p.t.age, iv p.t.proc, iv p.t.began, .slice p.x.a0 p.t.calls.length p.x.c0, .slice p.x.a1 p.t.ans.length p.x.c1, .slice p.x.a2 p.t.rd.length p.x.c2, .slice p.x.a3 p.t.wr.length p.x.c3, .slice p.x.a4 p.t.marks.length p.x.c4, iv p.t.state]]) (fun w hw => hw.closeR (A := rdsX (⟨⟨a_9, c_10, a_11, c_12, a_13, c_14, a_15, c_16, a_17, c_18⟩, p.t⟩ : TX)) [4, 3, 1, 1, 0] rfl) <| jL (.inl rfl) rfl (kI (jg 2 (vs := [iv p.t.id, iv p.t.age, iv p.t.proc, iv p.t.began, .slice a_9 p.t.calls.length c_10, .slice a_11 p.t.ans.length c_12, .slice a_13 p.t.rd.length c_14, .slice a_15 p.t.wr.length c_16, .slice a_17 p.t.marks.length c_18, iv p.t.state]) rfl rfl kg kS rfl rfl) ⟨_, rfl⟩) (tS 1 _) ?_
  exact ⟨(⟨⟨a_9, c_10, a_11, c_12, a_13, c_14, a_15, c_16, a_17, c_18⟩, p.t⟩ : TX), rfl, rfl, rfl⟩

theorem C_eqTx (p q : TX) (hl : p.t.lim 1000000000) :
    Ct Tryz.prog 19 [.agg #[.int .i64 p.t.id, .int .i64 p.t.age, .int .i64 p.t.proc, .int .i64 p.t.began, .slice p.x.a0 p.t.calls.length p.x.c0, .slice p.x.a1 p.t.ans.length p.x.c1, .slice p.x.a2 p.t.rd.length p.x.c2, .slice p.x.a3 p.t.wr.length p.x.c3, .slice p.x.a4 p.t.marks.length p.x.c4, .int .i64 p.t.state], .agg #[.int .i64 q.t.id, .int .i64 q.t.age, .int .i64 q.t.proc, .int .i64 q.t.began, .slice q.x.a0 q.t.calls.length q.x.c0, .slice q.x.a1 q.t.ans.length q.x.c1, .slice q.x.a2 q.t.rd.length q.x.c2, .slice q.x.a3 q.t.wr.length q.x.c3, .slice q.x.a4 q.t.marks.length q.x.c4, .int .i64 q.t.state]] [] (fun w => SeesA w (rdsX p) ∧ SeesA w (rdsX q)) (fun v A' => v = .bool (decide (p.t = q.t)) ∧ A' = []) := by
  obtain ⟨hb0, hb1, hb2, hb3, hb4⟩ := hl
  refine Ct.intro Tryz.func19 rfl Tryz.ntmps19 (lb rfl) fun w0 hpre => ?_
  obtain ⟨hs_1, hs_2, hs_3, hs_4, hs_5⟩ := seesX hpre.1
  obtain ⟨hs_6, hs_7, hs_8, hs_9, hs_10⟩ := seesX hpre.2
  refine jC <| jE ?_
  refine jH rfl (jm (cs := [iv p.t.id, iv p.t.age, iv p.t.proc, iv p.t.began, .slice p.x.a0 p.t.calls.length p.x.c0, .slice p.x.a1 p.t.ans.length p.x.c1, .slice p.x.a2 p.t.rd.length p.x.c2, .slice p.x.a3 p.t.wr.length p.x.c3, .slice p.x.a4 p.t.marks.length p.x.c4, iv p.t.state]) rfl rfl) ?_
  rintro _ _ ⟨b_11, rfl, rfl⟩
  refine jH rfl (jm (cs := [iv q.t.id, iv q.t.age, iv q.t.proc, iv q.t.began, .slice q.x.a0 q.t.calls.length q.x.c0, .slice q.x.a1 q.t.ans.length q.x.c1, .slice q.x.a2 q.t.rd.length q.x.c2, .slice q.x.a3 q.t.wr.length q.x.c3, .slice q.x.a4 q.t.marks.length q.x.c4, iv q.t.state]) rfl rfl) ?_
  rintro _ _ ⟨b_12, rfl, rfl⟩
  refine jA (jG (v := .bool false) rfl) <| jD <| jB <| jC <| jC <| jE <| jA (jI fo61_0 rfl) <| jK (jR 1 (v := iv p.t.id) rfl rfl kR rfl) <| jA (jI fo61_0 rfl) <| jK (jR 0 (v := iv q.t.id) rfl rfl kR rfl) ?_
  refine jA (jz rfl rfl) <| jD <| jB ?_
  by_cases h_13 : p.t.id = q.t.id
  · refine jP (cB (cN (dT h_13))) <| jQ <| jB <| jC <| jC <| jE <| jA (jI fo61_1 rfl) <| jK (jR 1 (v := iv p.t.age) rfl rfl kR rfl) <| jA (jI fo61_1 rfl) <| jK (jR 0 (v := iv q.t.age) rfl rfl kR rfl) ?_
    refine jA (jz rfl rfl) <| jD <| jB ?_
    by_cases h_14 : p.t.age = q.t.age
    · refine jP (cB (cN (dT h_14))) <| jQ <| jB <| jC <| jC <| jE <| jA (jI fo61_2 rfl) <| jK (jR 1 (v := iv p.t.proc) rfl rfl kR rfl) <| jA (jI fo61_2 rfl) <| jK (jR 0 (v := iv q.t.proc) rfl rfl kR rfl) ?_
      refine jA (jz rfl rfl) <| jD <| jB ?_
      by_cases h_15 : p.t.proc = q.t.proc
      · refine jP (cB (cN (dT h_15))) <| jQ <| jB <| jC <| jC <| jE <| jA (jI fo61_3 rfl) <| jK (jR 1 (v := iv p.t.began) rfl rfl kR rfl) <| jA (jI fo61_3 rfl) <| jK (jR 0 (v := iv q.t.began) rfl rfl kR rfl) ?_
        refine jA (jz rfl rfl) <| jD <| jB ?_
        by_cases h_16 : p.t.began = q.t.began
        · refine jP (cB (cN (dT h_16))) <| jQ <| jB <| jC <| jC <| jE <| jA (jI fo61_4 rfl) <| jK (jR 1 (v := .slice p.x.a0 p.t.calls.length p.x.c0) rfl rfl Tryz.isAgg57 rfl) <| jA (jI fo61_4 rfl) <| jK (jR 0 (v := .slice q.x.a0 q.t.calls.length q.x.c0) rfl rfl Tryz.isAgg57 rfl) ?_
          refine jH rfl (jU [] Tryz.call66 rfl (C_eqCallS p.x.a0 q.x.a0 p.x.c0 q.x.c0 p.t.calls q.t.calls (by omega)) rfl (fun w hw => ⟨hw.seeOut_ hs_1 nM, hw.seeOut_ hs_6 nM⟩)) ?_
          rintro _ _ ⟨_, ⟨rfl, rfl⟩, rfl⟩
          refine jA (kE rfl) <| jD <| jB ?_
          by_cases h_17 : p.t.calls = q.t.calls
          · refine jP (cB (cN (dT h_17))) <| jQ <| jB <| jC <| jC <| jE <| jA (jI fo61_5 rfl) <| jK (jR 1 (v := .slice p.x.a1 p.t.ans.length p.x.c1) rfl rfl gB rfl) <| jA (jI fo61_5 rfl) <| jK (jR 0 (v := .slice q.x.a1 q.t.ans.length q.x.c1) rfl rfl gB rfl) ?_
            refine jH rfl (jU [] Tryz.call67 rfl (C_eqAnswerS p.x.a1 q.x.a1 p.x.c1 q.x.c1 p.t.ans q.t.ans (by omega)) rfl (fun w hw => ⟨hw.seeOut_ hs_2 nM, hw.seeOut_ hs_7 nM⟩)) ?_
            rintro _ _ ⟨_, ⟨rfl, rfl⟩, rfl⟩
            refine jA (kE rfl) <| jD <| jB ?_
            by_cases h_18 : p.t.ans = q.t.ans
            · refine jP (cB (cN (dT h_18))) <| jQ <| jB <| jC <| jC <| jE <| jA (jI fo61_6 rfl) <| jK (jg 1 (vs := [.slice p.x.a2 p.t.rd.length p.x.c2, .slice p.x.a3 p.t.wr.length p.x.c3]) rfl rfl gE kv rfl rfl) <| jA (jI fo61_6 rfl) <| jK (jg 0 (vs := [.slice q.x.a2 q.t.rd.length q.x.c2, .slice q.x.a3 q.t.wr.length q.x.c3]) rfl rfl gE kv rfl rfl) ?_
              refine jH rfl (jU [] Tryz.call68 rfl (Y_eqTouch p.x.a2 p.x.a3 q.x.a2 q.x.a3 p.x.c2 p.x.c3 q.x.c2 q.x.c3 p.t.rd p.t.wr q.t.rd q.t.wr (by omega) (by omega)) rfl (fun w hw => ⟨hw.seeOut_ hs_3 nM, hw.seeOut_ hs_4 nM, hw.seeOut_ hs_8 nM, hw.seeOut_ hs_9 nM⟩)) ?_
              rintro _ _ ⟨_, ⟨rfl, rfl⟩, rfl⟩
              refine jA (kE rfl) <| jD <| jB ?_
              by_cases h_19 : p.t.rd = q.t.rd ∧ p.t.wr = q.t.wr
              · obtain ⟨ht_20, ht_21⟩ := id h_19
                refine jP (cB (cN (dT h_19))) <| jQ <| jB <| jC <| jC <| jE <| jA (jI fo61_7 rfl) <| jK (jR 1 (v := .slice p.x.a4 p.t.marks.length p.x.c4) rfl rfl gA rfl) <| jA (jI fo61_7 rfl) <| jK (jR 0 (v := .slice q.x.a4 q.t.marks.length q.x.c4) rfl rfl gA rfl) ?_
                refine jH rfl (jU [] Tryz.call69 rfl (Y_eqIntS p.x.a4 q.x.a4 p.x.c4 q.x.c4 p.t.marks q.t.marks (by omega)) rfl (fun w hw => ⟨hw.seeOut_ hs_5 nM, hw.seeOut_ hs_10 nM⟩)) ?_
                rintro _ _ ⟨_, ⟨rfl, rfl⟩, rfl⟩
                refine jA (kE rfl) <| jD <| jB ?_
                by_cases h_22 : p.t.marks = q.t.marks
                · refine jP (cB (cN (dT h_22))) <| jQ <| jB <| jC <| jC <| jE <| jA (jI fo61_8 rfl) <| jK (jR 1 (v := iv p.t.state) rfl rfl kR rfl) <| jA (jI fo61_8 rfl) <| jK (jR 0 (v := iv q.t.state) rfl rfl kR rfl) ?_
                  refine jA (jz rfl rfl) <| jD <| jB ?_
                  by_cases h_23 : p.t.state = q.t.state
                  · refine jP (cB (cN (dT h_23))) <| jQ <| jB <| jC <| jE <| jA (jG (v := .bool true) rfl) <| jD <| jB <| jJ <| jL (.inl rfl) rfl (jM (v := .bool true) rfl) (List.nil_sublist _) ?_
                    exact ⟨cB (dT (TD.same.2 ⟨by assumption, by assumption, by assumption, by assumption, by assumption, by assumption, by assumption, by assumption, by assumption, by assumption⟩)).symm, rfl⟩
                  refine jS (cB (cN (dF h_23))) <| jC <| jE <| jA (jG (v := .bool false) rfl) <| jD <| jB <| jJ <| jO <| jL (.inl rfl) rfl (jM (v := .bool false) rfl) (List.nil_sublist _) ?_
                  exact ⟨cB (dF (fun h_ => by obtain ⟨h_0, h_1, h_2, h_3, h_4, h_5, h_6, h_7, h_8, h_9⟩ := TD.same.1 h_; first | contradiction | (exact absurd ⟨h_6, h_7⟩ ‹¬(_ ∧ _)›))).symm, rfl⟩
                refine jS (cB (cN (dF h_22))) <| jC <| jE <| jA (jG (v := .bool false) rfl) <| jD <| jB <| jJ <| jO <| jL (.inl rfl) rfl (jM (v := .bool false) rfl) (List.nil_sublist _) ?_
                exact ⟨cB (dF (fun h_ => by obtain ⟨h_0, h_1, h_2, h_3, h_4, h_5, h_6, h_7, h_8, h_9⟩ := TD.same.1 h_; first | contradiction | (exact absurd ⟨h_6, h_7⟩ ‹¬(_ ∧ _)›))).symm, rfl⟩
              refine jS (cB (cN (dF h_19))) <| jC <| jE <| jA (jG (v := .bool false) rfl) <| jD <| jB <| jJ <| jO <| jL (.inl rfl) rfl (jM (v := .bool false) rfl) (List.nil_sublist _) ?_
              exact ⟨cB (dF (fun h_ => by obtain ⟨h_0, h_1, h_2, h_3, h_4, h_5, h_6, h_7, h_8, h_9⟩ := TD.same.1 h_; first | contradiction | (exact absurd ⟨h_6, h_7⟩ ‹¬(_ ∧ _)›))).symm, rfl⟩
            refine jS (cB (cN (dF h_18))) <| jC <| jE <| jA (jG (v := .bool false) rfl) <| jD <| jB <| jJ <| jO <| jL (.inl rfl) rfl (jM (v := .bool false) rfl) (List.nil_sublist _) ?_
            exact ⟨cB (dF (fun h_ => by obtain ⟨h_0, h_1, h_2, h_3, h_4, h_5, h_6, h_7, h_8, h_9⟩ := TD.same.1 h_; first | contradiction | (exact absurd ⟨h_6, h_7⟩ ‹¬(_ ∧ _)›))).symm, rfl⟩
          refine jS (cB (cN (dF h_17))) <| jC <| jE <| jA (jG (v := .bool false) rfl) <| jD <| jB <| jJ <| jO <| jL (.inl rfl) rfl (jM (v := .bool false) rfl) (List.nil_sublist _) ?_
          exact ⟨cB (dF (fun h_ => by obtain ⟨h_0, h_1, h_2, h_3, h_4, h_5, h_6, h_7, h_8, h_9⟩ := TD.same.1 h_; first | contradiction | (exact absurd ⟨h_6, h_7⟩ ‹¬(_ ∧ _)›))).symm, rfl⟩
        refine jS (cB (cN (dF h_16))) <| jC <| jE <| jA (jG (v := .bool false) rfl) <| jD <| jB <| jJ <| jO <| jL (.inl rfl) rfl (jM (v := .bool false) rfl) (List.nil_sublist _) ?_
        exact ⟨cB (dF (fun h_ => by obtain ⟨h_0, h_1, h_2, h_3, h_4, h_5, h_6, h_7, h_8, h_9⟩ := TD.same.1 h_; first | contradiction | (exact absurd ⟨h_6, h_7⟩ ‹¬(_ ∧ _)›))).symm, rfl⟩
      refine jS (cB (cN (dF h_15))) <| jC <| jE <| jA (jG (v := .bool false) rfl) <| jD <| jB <| jJ <| jO <| jL (.inl rfl) rfl (jM (v := .bool false) rfl) (List.nil_sublist _) ?_
      exact ⟨cB (dF (fun h_ => by obtain ⟨h_0, h_1, h_2, h_3, h_4, h_5, h_6, h_7, h_8, h_9⟩ := TD.same.1 h_; first | contradiction | (exact absurd ⟨h_6, h_7⟩ ‹¬(_ ∧ _)›))).symm, rfl⟩
    refine jS (cB (cN (dF h_14))) <| jC <| jE <| jA (jG (v := .bool false) rfl) <| jD <| jB <| jJ <| jO <| jL (.inl rfl) rfl (jM (v := .bool false) rfl) (List.nil_sublist _) ?_
    exact ⟨cB (dF (fun h_ => by obtain ⟨h_0, h_1, h_2, h_3, h_4, h_5, h_6, h_7, h_8, h_9⟩ := TD.same.1 h_; first | contradiction | (exact absurd ⟨h_6, h_7⟩ ‹¬(_ ∧ _)›))).symm, rfl⟩
  refine jS (cB (cN (dF h_13))) <| jC <| jE <| jA (jG (v := .bool false) rfl) <| jD <| jB <| jJ <| jO <| jL (.inl rfl) rfl (jM (v := .bool false) rfl) (List.nil_sublist _) ?_
  exact ⟨cB (dF (fun h_ => by obtain ⟨h_0, h_1, h_2, h_3, h_4, h_5, h_6, h_7, h_8, h_9⟩ := TD.same.1 h_; first | contradiction | (exact absurd ⟨h_6, h_7⟩ ‹¬(_ ∧ _)›))).symm, rfl⟩

theorem C_szTxS (a : Option Addr) (c : Nat) (s : List TX) (l : Int) (h0 : 0 ≤ l) (h1 : l ≤ 1048576) (hn : s.length ≤ 9223372036854775807) (hse : ∀ j, j < s.length → (s.getD j x0).t.okz) :
    Ct Tryz.prog 28 [.slice a s.length c, .int .i64 l] [] (fun w => SeesAE w (rdsXS a c s)) (fun r A' => r = .int .i64 (szLS szTxF (s.map TX.t) l) ∧ A' = []) := by
  refine Ct.intro Tryz.func28 rfl Tryz.ntmps28 (lb rfl) fun w0 hpre => ?_
  have hs_1 : SeesE w0 (.slice a s.length c) 10 s.length (s.flatMap encX) := (hpre).head
  have hi_2 : SeesAE w0 (s.flatMap rdsX) := (hpre).tail
  refine jC <| jE <| jA (jG (v := iv 0) rfl) <| jD <| jB <| jC <| jE <| jA (jF (v := iv l) rfl) <| jA (jF (v := .slice a s.length c) rfl) <| jA (jf Tryz.underlying23 rfl) ?_
  refine jA (kM (c := l - ((s.length : Nat) : Int)) rfl rfl (wr (by omega))) <| jA (jG (v := iv (l - ((s.length : Nat) : Int))) rfl) <| jD <| jB <| jC <| jC <| jE <| jA (jF (v := iv (l - ((s.length : Nat) : Int))) rfl) <| jA (jc rfl rfl) <| jD ?_
  refine jB ?_
  by_cases h_3 : (l - ((s.length : Nat) : Int)) < 0
  · refine jS (cB (dT h_3)) <| jC <| jE <| jA (jG (v := iv (-1)) rfl) <| jD <| jB <| jJ <| jO <| jL (.inl rfl) rfl (jM (v := iv (-1)) rfl) (List.nil_sublist _) ?_
    refine ⟨?_, rfl⟩
    rw [szLS, List.length_map, if_pos (by omega)]
  refine jP (cB (dF h_3)) <| jQ <| jB <| jC <| jC <| jE <| jA (jG (v := iv 0) rfl) <| jD <| jB <| jZ ?_
  refine jp (fun k_ e_ L_ => ∃ j : Nat, ∃ l1 : Int, (j ≤ s.length) ∧ (0 ≤ l1) ∧ (l1 ≤ 1048576) ∧ (szL szTxF ((s.map TX.t).drop j) l1 = szLS szTxF (s.map TX.t) l) ∧ e_ 0 = .slice a s.length c ∧ e_ 1 = iv l1 ∧ e_ 5 = nv j ∧ L_ = [] ∧ k_ = s.length - j) _ ⟨0, (l - (s.length : Int)), by omega, by omega, by omega, (by rw [szLS, List.length_map, if_neg (by omega)]; rfl), rfl, rfl, rfl, rfl, rfl⟩ ?_
  rintro _ e_4 _ ⟨j, l1, hj, hl, hl2, hR, he_5, he_6, he_7, rfl, rfl⟩
  refine jC <| jC <| jE <| jA (jF (v := nv j) he_7) <| jA (jF (v := .slice a s.length c) he_5) <| jA (jf Tryz.underlying23 rfl) <| jA (jc rfl rfl) <| jD <| jB ?_
  by_cases h_8 : ((j : Nat) : Int) < ((s.length : Nat) : Int)
  · have hlt : j < s.length := by omega
    have hf_9 := SeesE.full hs_1 (by omega)
    refine jS (cB (dT h_8)) <| jQ <| jB <| jC <| jZ <| jC <| jE <| jA (jF (v := .slice a s.length c) he_5) <| jA (jF (v := nv j) he_7) ?_
    obtain ⟨hr_10, hr_10b, -⟩ := sees_some hf_9 (by omega)
    refine jA (jX (i := j) Tryz.underlying23 Tryz.sizeOf54 hr_10 hr_10b rfl rfl (by omega)) ?_
    have hi_11 := SeesAE.elem hi_2 x0 (show j < s.length by omega)
    obtain ⟨hs_12, hs_13, hs_14, hs_15, hs_16⟩ := seesXE hi_11
    refine jK (kF (vs := [iv ((s.getD j x0).t.id), iv ((s.getD j x0).t.age), iv ((s.getD j x0).t.proc), iv ((s.getD j x0).t.began), .slice ((s.getD j x0).x.a0) ((s.getD j x0).t.calls.length) ((s.getD j x0).x.c0), .slice ((s.getD j x0).x.a1) ((s.getD j x0).t.ans.length) ((s.getD j x0).x.c1), .slice ((s.getD j x0).x.a2) ((s.getD j x0).t.rd.length) ((s.getD j x0).x.c2), .slice ((s.getD j x0).x.a3) ((s.getD j x0).t.wr.length) ((s.getD j x0).x.c3), .slice ((s.getD j x0).x.a4) ((s.getD j x0).t.marks.length) ((s.getD j x0).x.c4), iv ((s.getD j x0).t.state)]) hf_9 nM rfl Tryz.isAgg54 Tryz.sizeOf54 (flat_take encX_len x0 s j (by omega)) rfl (by decide)) <| jA (jF (v := iv l1) he_6) ?_
    refine jH rfl (jU [] Tryz.call15 rfl (C_szTx (s.getD j x0) l1 (by omega) (by omega) (hse j hlt)) rfl (fun w hw => hw.seeOutAE hi_11 nMA)) ?_
    rintro _ _ ⟨_, ⟨rfl, rfl⟩, rfl⟩
    have hle_17 := szTxF_le (s.getD j x0).t l1 (by omega)
    refine jA (jG (v := iv (szTxF (s.getD j x0).t l1)) rfl) <| jD <| jB <| jC <| jE <| jA (jF (v := iv (szTxF (s.getD j x0).t l1)) rfl) <| jA (jc rfl rfl) <| jD <| jB ?_
    by_cases h_18 : (szTxF (s.getD j x0).t l1) < 0
    · have hneg := h_18
      refine jS (cB (dT h_18)) <| jC <| jE <| jA (jG (v := iv (-1)) rfl) <| jD <| jB <| jJ <| je <| jO <| jO ?_
      refine je <| jO <| jL (.inl rfl) rfl (jM (v := iv (-1)) rfl) (List.nil_sublist _) ?_
      refine ⟨?_, rfl⟩
      rw [szL_stepM x0 hlt, if_pos hneg] at hR
      rw [← hR]
    have hneg := h_18
    refine jP (cB (dF h_18)) <| jQ <| jk <| jB <| jE <| jA (jF (v := nv j) he_7) <| jA (ja (c := ((j + 1 : Nat) : Int)) rfl rfl (wr (by omega))) <| jA (jG (v := iv ((j + 1 : Nat) : Int)) rfl) <| jD ?_
    refine jl (s.length - (j + 1)) (by omega) ⟨j + 1, szTxF (s.getD j x0).t l1, by omega, by omega, by omega, (by rw [szL_stepM x0 hlt, if_neg hneg] at hR; exact hR), he_5, rfl, rfl, rfl, rfl⟩
  refine jP (cB (dF h_8)) <| jn <| jb <| jb <| jo <| jB <| jC <| jE <| jA (jF (v := iv l1) he_6) <| jA (jG (v := iv l1) rfl) ?_
  refine jD <| jB <| jJ <| jL (.inl rfl) rfl (jM (v := iv l1) rfl) (List.nil_sublist _) ?_
  refine ⟨?_, rfl⟩
  rw [List.drop_of_length_le (by rw [List.length_map]; omega)] at hR
  rw [← hR]
  rfl

end Go.Proofs.YtkmpmjficoohkaaGreat
