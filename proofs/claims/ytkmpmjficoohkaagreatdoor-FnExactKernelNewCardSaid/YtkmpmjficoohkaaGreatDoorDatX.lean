/-
  Texts of the walk, joined: what each one proves stands at its theorems.
-/
import Derived.Test.YtkmpmjficoohkaaGreatDoorFlat
import Derived.Test.YtkmpmjficoohkaaGreatDoorSlIns
set_option linter.unusedSimpArgs false
set_option linter.unusedVariables false
set_option linter.unnecessarySimpa false
namespace Go.Proofs.YtkmpmjficoohkaaGreatDoor
open Go Go.RowKit
attribute [local irreducible] JL JC JQ JO LO PO JA JX Ct

theorem C_eqCall (a b : CL) :
    Ct Tryz.prog 74 [.agg #[.int .i64 a.kind, str a.name, str a.to_, .int .i64 a.a, .int .i64 a.b, str a.text], .agg #[.int .i64 b.kind, str b.name, str b.to_, .int .i64 b.a, .int .i64 b.b, str b.text]] [] (fun _ => True) (fun v A' => v = .bool (decide (a = b)) ∧ A' = []) := by
  refine Ct.intro Tryz.func74 rfl Tryz.ntmps74 (lb rfl) fun w0 hpre => ?_
  refine jC <| jF ?_
  refine jI rfl (jp (cs := [iv a.kind, str a.name, str a.to_, iv a.a, iv a.b, str a.text]) rfl rfl) ?_
  rintro _ _ ⟨b_1, rfl, rfl⟩
  refine jI rfl (jp (cs := [iv b.kind, str b.name, str b.to_, iv b.a, iv b.b, str b.text]) rfl rfl) ?_
  rintro _ _ ⟨b_2, rfl, rfl⟩
  refine jA (jG (v := .bool false) rfl) <| jE <| jB <| jC <| jC <| jF <| jA (jS fo97_0 rfl) <| jP (jU 1 (v := iv a.kind) rfl rfl kE rfl) <| jA (jS fo97_0 rfl) <| jP (jU 0 (v := iv b.kind) rfl rfl kE rfl) ?_
  refine jA (jf rfl rfl) <| jE <| jB ?_
  by_cases h_3 : a.kind = b.kind
  · refine jL (cB (cN (dT h_3))) <| jM <| jB <| jC <| jC <| jF <| jA (jS fo97_1 rfl) <| jP (jU 1 (v := str a.name) rfl rfl kH rfl) <| jA (jS fo97_1 rfl) <| jP (jU 0 (v := str b.name) rfl rfl kH rfl) ?_
    refine jA (kA rfl rfl) <| jE <| jB ?_
    by_cases h_4 : a.name = b.name
    · refine jL (cB (cN (dT h_4))) <| jM <| jB <| jC <| jC <| jF <| jA (jS fo97_2 rfl) <| jP (jU 1 (v := str a.to_) rfl rfl kH rfl) <| jA (jS fo97_2 rfl) <| jP (jU 0 (v := str b.to_) rfl rfl kH rfl) ?_
      refine jA (kA rfl rfl) <| jE <| jB ?_
      by_cases h_5 : a.to_ = b.to_
      · refine jL (cB (cN (dT h_5))) <| jM <| jB <| jC <| jC <| jF <| jA (jS fo97_3 rfl) <| jP (jU 1 (v := iv a.a) rfl rfl kE rfl) <| jA (jS fo97_3 rfl) <| jP (jU 0 (v := iv b.a) rfl rfl kE rfl) ?_
        refine jA (jf rfl rfl) <| jE <| jB ?_
        by_cases h_6 : a.a = b.a
        · refine jL (cB (cN (dT h_6))) <| jM <| jB <| jC <| jC <| jF <| jA (jS fo97_4 rfl) <| jP (jU 1 (v := iv a.b) rfl rfl kE rfl) <| jA (jS fo97_4 rfl) <| jP (jU 0 (v := iv b.b) rfl rfl kE rfl) ?_
          refine jA (jf rfl rfl) <| jE <| jB ?_
          by_cases h_7 : a.b = b.b
          · refine jL (cB (cN (dT h_7))) <| jM <| jB <| jC <| jC <| jF <| jA (jS fo97_5 rfl) <| jP (jU 1 (v := str a.text) rfl rfl kH rfl) <| jA (jS fo97_5 rfl) <| jP (jU 0 (v := str b.text) rfl rfl kH rfl) ?_
            refine jA (kA rfl rfl) <| jE <| jB ?_
            by_cases h_8 : a.text = b.text
            · refine jL (cB (cN (dT h_8))) <| jM <| jB <| jC <| jF <| jA (jG (v := .bool true) rfl) <| jE <| jB <| jK <| jN (.inl rfl) rfl (jJ (v := .bool true) rfl) (List.nil_sublist _) ?_
              refine ⟨cB ?_, rfl⟩
              exact (dT (by cases a; cases b; simp_all)).symm
            refine jQ (cB (cN (dF h_8))) <| jC <| jF <| jA (jG (v := .bool false) rfl) <| jE <| jB <| jK <| jO <| jN (.inl rfl) rfl (jJ (v := .bool false) rfl) (List.nil_sublist _) ?_
            refine ⟨cB ?_, rfl⟩
            exact (dF (fun h_ => by subst h_; simp_all)).symm
          refine jQ (cB (cN (dF h_7))) <| jC <| jF <| jA (jG (v := .bool false) rfl) <| jE <| jB <| jK <| jO <| jN (.inl rfl) rfl (jJ (v := .bool false) rfl) (List.nil_sublist _) ?_
          refine ⟨cB ?_, rfl⟩
          exact (dF (fun h_ => by subst h_; simp_all)).symm
        refine jQ (cB (cN (dF h_6))) <| jC <| jF <| jA (jG (v := .bool false) rfl) <| jE <| jB <| jK <| jO <| jN (.inl rfl) rfl (jJ (v := .bool false) rfl) (List.nil_sublist _) ?_
        refine ⟨cB ?_, rfl⟩
        exact (dF (fun h_ => by subst h_; simp_all)).symm
      refine jQ (cB (cN (dF h_5))) <| jC <| jF <| jA (jG (v := .bool false) rfl) <| jE <| jB <| jK <| jO <| jN (.inl rfl) rfl (jJ (v := .bool false) rfl) (List.nil_sublist _) ?_
      refine ⟨cB ?_, rfl⟩
      exact (dF (fun h_ => by subst h_; simp_all)).symm
    refine jQ (cB (cN (dF h_4))) <| jC <| jF <| jA (jG (v := .bool false) rfl) <| jE <| jB <| jK <| jO <| jN (.inl rfl) rfl (jJ (v := .bool false) rfl) (List.nil_sublist _) ?_
    refine ⟨cB ?_, rfl⟩
    exact (dF (fun h_ => by subst h_; simp_all)).symm
  refine jQ (cB (cN (dF h_3))) <| jC <| jF <| jA (jG (v := .bool false) rfl) <| jE <| jB <| jK <| jO <| jN (.inl rfl) rfl (jJ (v := .bool false) rfl) (List.nil_sublist _) ?_
  refine ⟨cB ?_, rfl⟩
  exact (dF (fun h_ => by subst h_; simp_all)).symm

theorem C_eqCallS (a b : Option Addr) (c c' : Nat) (s t : List CL) (hn : s.length ≤ 9223372036854775807) :
    Ct Tryz.prog 56 [.slice a s.length c, .slice b t.length c'] [] (fun w => Sees w (.slice a s.length c) 6 s.length (s.flatMap encK) ∧ Sees w (.slice b t.length c') 6 t.length (t.flatMap encK)) (fun r A' => r = .bool (decide (s = t)) ∧ A' = []) := by
  refine Ct.intro Tryz.func56 rfl Tryz.ntmps56 (lb rfl) fun w0 hpre => ?_
  have hs_a : Sees w0 _ _ _ _ := hpre.1
  have hs_b : Sees w0 _ _ _ _ := hpre.2
  refine jC <| jF <| jA (jG (v := .bool false) rfl) <| jE <| jB <| jC <| jC <| jF <| jA (jD (v := .slice a s.length c) rfl) <| jA (jh kQ rfl) ?_
  refine jA (jD (v := .slice b t.length c') rfl) <| jA (jh kQ rfl) <| jA (jf rfl rfl) <| jE <| jB ?_
  by_cases h_1 : ((s.length : Nat) : Int) = ((t.length : Nat) : Int)
  · have hlen := h_1
    refine jL (cB (cN (dT h_1))) <| jM <| jB <| jC <| jC <| jF <| jA (jG (v := iv 0) rfl) <| jE <| jB <| jZ ?_
    refine jo (fun k_ e_ L_ => ∃ j : Nat, (j ≤ s.length) ∧ (s.take j = t.take j) ∧ (s.length = t.length) ∧ e_ 0 = .slice a s.length c ∧ e_ 1 = .slice b t.length c' ∧ e_ 5 = nv j ∧ L_ = [] ∧ k_ = s.length - j) _ ⟨0, by omega, rfl, by omega, rfl, rfl, rfl, rfl, rfl⟩ ?_
    rintro _ e_2 _ ⟨j, hj, hE, hln, he_3, he_4, he_5, rfl, rfl⟩
    refine jC <| jC <| jF <| jA (jD (v := nv j) he_5) <| jA (jD (v := .slice a s.length c) he_3) <| jA (jh kQ rfl) <| jA (jb rfl rfl) <| jE <| jB ?_
    by_cases h_6 : ((j : Nat) : Int) < ((s.length : Nat) : Int)
    · have hlt : j < s.length := by omega
      refine jQ (cB (dT h_6)) <| jM <| jB <| jC <| jZ <| jC <| jv [] 1000 mixed (by simp) <| jW 0 rfl (jD (v := .slice a s.length c) he_3) <| jW 1 rfl (jD (v := nv j) he_5) ?_
      obtain ⟨hr_7, hr_7b, -⟩ := sees_some hs_a (by omega)
      refine jW 2 rfl (jV (i := j) kQ kR hr_7 hr_7b rfl rfl (by omega)) <| jw 3 rfl (LO.loadSK (vs := [iv ((s.getD j k0).kind), str ((s.getD j k0).name), str ((s.getD j k0).to_), iv ((s.getD j k0).a), iv ((s.getD j k0).b), str ((s.getD j k0).text)]) hs_a nM rfl Tryz.isAgg97 kR (flat_take encK_len k0 s j (by omega)) rfl (by decide)) <| jW 4 rfl (jD (v := .slice b t.length c') he_4) <| jW 5 rfl (jD (v := nv j) he_5) ?_
      obtain ⟨hr_8, hr_8b, -⟩ := sees_some hs_b (by omega)
      refine jW 6 rfl (jV (i := j) kQ kR hr_8 hr_8b rfl rfl (by omega)) <| jw 7 rfl (LO.loadSK (vs := [iv ((t.getD j k0).kind), str ((t.getD j k0).name), str ((t.getD j k0).to_), iv ((t.getD j k0).a), iv ((t.getD j k0).b), str ((t.getD j k0).text)]) hs_b nM rfl Tryz.isAgg97 kR (flat_take encK_len k0 t j (by omega)) rfl (by decide)) <| jx (i := 8) ?_
      refine jz rfl rfl (jR [] Tryz.call74 rfl (C_eqCall (s.getD j k0) (t.getD j k0)) rfl (fun _ _ => trivial)) ?_
      rintro _ _ ⟨_, ⟨rfl, rfl⟩, rfl⟩
      refine ⟨(fun _ h => by cases h), ?_⟩
      refine jW 9 rfl (jq rfl) <| kB (by kernel_rfl) <| jB ?_
      by_cases h_9 : (s.getD j k0) = (t.getD j k0)
      · have heq := h_9
        refine jL (cB (cN (dT h_9))) <| jM <| jk <| jB <| jF <| jA (jD (v := nv j) he_5) <| jA (jT (c := ((j + 1 : Nat) : Int)) rfl rfl (wr (by omega))) <| jA (jG (v := iv ((j + 1 : Nat) : Int)) rfl) <| jE ?_
        refine jl (s.length - (j + 1)) (by omega) ⟨j + 1, by omega, take_succ_eq k0 hE hlt hln heq, hln, he_3, he_4, rfl, rfl, rfl⟩
      have hne := h_9
      refine jQ (cB (cN (dF h_9))) <| jC <| jF <| jA (jG (v := .bool false) rfl) <| jE <| jB <| jK <| je <| jO <| jO ?_
      refine je <| jO <| jN (.inl rfl) rfl (jJ (v := .bool false) rfl) (List.nil_sublist _) ?_
      refine ⟨?_, rfl⟩
      rw [dF (fun h => hne (by rw [h]))]
    refine jL (cB (dF h_6)) <| jm <| jY <| jY <| jn <| jB <| jC <| jF <| jA (jG (v := .bool true) rfl) <| jE ?_
    refine jB <| jK <| jN (.inl rfl) rfl (jJ (v := .bool true) rfl) (List.nil_sublist _) ?_
    refine ⟨?_, rfl⟩
    rw [dT (take_all_eq hE (by omega) (by omega))]
  have hlen := h_1
  refine jQ (cB (cN (dF h_1))) <| jC <| jF <| jA (jG (v := .bool false) rfl) <| jE <| jB <| jK <| jO <| jN (.inl rfl) rfl (jJ (v := .bool false) rfl) (List.nil_sublist _) ?_
  refine ⟨?_, rfl⟩
  rw [dF (fun h => by rw [h] at hlen; omega)]

theorem C_markCallS (a : Option Addr) (c : Nat) (l : List CL) (k : Nat) (h0 : 0 < k) (h1 : k + 6 * l.length ≤ 100000000) :
    Ct Tryz.prog 38 [.slice a l.length c, .int .i64 ((k : Nat) : Int)] [Res.row (.slice a l.length c) 97 6 l.length (l.flatMap encK)] (fun _ => True) (fun v A' => v = .int .i64 ((k + 6 * l.length : Nat) : Int) ∧ A' = [.row (.slice a l.length c) 97 6 l.length ((markG mkK 6 l k).flatMap encK)]) := by
  refine Ct.intro Tryz.func38 rfl Tryz.ntmps38 (lb rfl) fun w0 hpre => ?_
  refine jC <| jF <| jA (jG (v := iv 0) rfl) <| jE <| jB <| jC <| jC <| jF <| jA (jG (v := iv 0) rfl) <| jE ?_
  refine jB <| jZ <| jo (fun k_ e_ L_ => ∃ j : Nat, (j ≤ l.length) ∧ e_ 0 = .slice a l.length c ∧ e_ 1 = iv ((k + 6 * j : Nat) : Int) ∧ e_ 4 = iv 0 ∧ e_ 5 = nv j ∧ L_ = [Res.row (.slice a l.length c) 97 6 l.length (((markG mkK 6 l k).take j ++ l.drop j).flatMap encK)] ∧ k_ = l.length - j) _ ⟨0, by omega, rfl, rfl, rfl, rfl, rfl, rfl⟩ ?_
  rintro _ e_1 _ ⟨j, hj, he_2, he_3, he_4, he_5, rfl, rfl⟩
  refine jC <| jC <| jF <| jA (jD (v := nv j) he_5) <| jA (jD (v := .slice a l.length c) he_2) <| jA (jh kQ rfl) <| jA (jb rfl rfl) <| jE <| jB ?_
  by_cases h_6 : ((j : Nat) : Int) < ((l.length : Nat) : Int)
  · have hlt : j < l.length := by omega
    refine jQ (cB (dT h_6)) <| jM <| jB <| jC <| jZ <| jC <| jF <| jA (jD (v := .slice a l.length c) he_2) <| jA (jD (v := nv j) he_5) <| jA (jD (v := iv ((k + 6 * j : Nat) : Int)) he_3) ?_
    refine JL.facts fun hst => ?_
    obtain ⟨hr_7, hr_7b, -⟩ := row_some 0 rfl (by omega) hst
    refine jA (jV (i := j) kQ kR hr_7 hr_7b rfl rfl (by omega)) <| jA (jX fo97_0 hr_7 rfl) ?_
    refine jI rfl (ju 0 (vs := [iv ((k + 6 * j : Nat) : Int)]) (cs' := (((markG mkK 6 l k).take j ++ l.drop j).set j (⟨((k + 6 * j : Nat) : Int), (((markG mkK 6 l k).take j ++ l.drop j).getD j k0).name, (((markG mkK 6 l k).take j ++ l.drop j).getD j k0).to_, (((markG mkK 6 l k).take j ++ l.drop j).getD j k0).a, (((markG mkK 6 l k).take j ++ l.drop j).getD j k0).b, (((markG mkK 6 l k).take j ++ l.drop j).getD j k0).text⟩ : CL)).flatMap encK) rfl rfl rfl rfl kK rfl rfl (by decide) (by rw [flat_length encK_len]; (try rw [List.length_set]); rw [markG_lenj mkK 6 hj]; omega) (flat_set1 encK_len k0 (f := 0) (y := (⟨((k + 6 * j : Nat) : Int), (((markG mkK 6 l k).take j ++ l.drop j).getD j k0).name, (((markG mkK 6 l k).take j ++ l.drop j).getD j k0).to_, (((markG mkK 6 l k).take j ++ l.drop j).getD j k0).a, (((markG mkK 6 l k).take j ++ l.drop j).getD j k0).b, (((markG mkK 6 l k).take j ++ l.drop j).getD j k0).text⟩ : CL)) (by rw [markG_lenj mkK 6 hj]; omega) (by decide) rfl)) ?_
    rintro _ _ rfl
    refine jE <| jB <| jC <| jF <| jA (jD (v := iv ((k + 6 * j : Nat) : Int)) he_3) <| jA (jT (c := (((k + 6 * j) + 1 : Nat) : Int)) rfl rfl (wr (by omega))) <| jA (jG (v := iv (((k + 6 * j) + 1 : Nat) : Int)) rfl) <| jE <| jB <| jC ?_
    refine jF <| jA (jD (v := .slice a l.length c) he_2) <| jA (jD (v := nv j) he_5) <| jA (jD (v := iv (((k + 6 * j) + 1 : Nat) : Int)) rfl) ?_
    refine jI rfl (jR [] Tryz.call37 rfl (C_markText ((k + 6 * j) + 1) (by omega) (by omega)) rfl (fun _ _ => trivial)) ?_
    rintro _ _ ⟨_, ⟨rfl, rfl⟩, rfl⟩
    refine jA (jV (i := j) kQ kR hr_7 hr_7b rfl rfl (by omega)) <| jA (jX fo97_1 hr_7 rfl) ?_
    refine jI rfl (ju 0 (vs := [str (mt ((k + 6 * j) + 1))]) (cs' := (((markG mkK 6 l k).take j ++ l.drop j).set j (⟨((k + 6 * j : Nat) : Int), mt ((k + 6 * j) + 1), (((markG mkK 6 l k).take j ++ l.drop j).getD j k0).to_, (((markG mkK 6 l k).take j ++ l.drop j).getD j k0).a, (((markG mkK 6 l k).take j ++ l.drop j).getD j k0).b, (((markG mkK 6 l k).take j ++ l.drop j).getD j k0).text⟩ : CL)).flatMap encK) rfl rfl rfl rfl kI rfl rfl (by decide) (by rw [flat_length encK_len]; (try rw [List.length_set]); rw [markG_lenj mkK 6 hj]; omega) (flat_set1s encK_len k0 (f := 1) (x := (⟨((k + 6 * j : Nat) : Int), (((markG mkK 6 l k).take j ++ l.drop j).getD j k0).name, (((markG mkK 6 l k).take j ++ l.drop j).getD j k0).to_, (((markG mkK 6 l k).take j ++ l.drop j).getD j k0).a, (((markG mkK 6 l k).take j ++ l.drop j).getD j k0).b, (((markG mkK 6 l k).take j ++ l.drop j).getD j k0).text⟩ : CL)) (y := (⟨((k + 6 * j : Nat) : Int), mt ((k + 6 * j) + 1), (((markG mkK 6 l k).take j ++ l.drop j).getD j k0).to_, (((markG mkK 6 l k).take j ++ l.drop j).getD j k0).a, (((markG mkK 6 l k).take j ++ l.drop j).getD j k0).b, (((markG mkK 6 l k).take j ++ l.drop j).getD j k0).text⟩ : CL)) (by rw [markG_lenj mkK 6 hj]; omega) (by decide) rfl)) ?_
    rintro _ _ rfl
    refine jE <| jB <| jC <| jF <| jA (jD (v := iv (((k + 6 * j) + 1 : Nat) : Int)) rfl) <| jA (jT (c := ((((k + 6 * j) + 1) + 1 : Nat) : Int)) rfl rfl (wr (by omega))) <| jA (jG (v := iv ((((k + 6 * j) + 1) + 1 : Nat) : Int)) rfl) <| jE <| jB <| jC ?_
    refine jF <| jA (jD (v := .slice a l.length c) he_2) <| jA (jD (v := nv j) he_5) <| jA (jD (v := iv ((((k + 6 * j) + 1) + 1 : Nat) : Int)) rfl) ?_
    refine jI rfl (jR [] Tryz.call37 rfl (C_markText (((k + 6 * j) + 1) + 1) (by omega) (by omega)) rfl (fun _ _ => trivial)) ?_
    rintro _ _ ⟨_, ⟨rfl, rfl⟩, rfl⟩
    refine jA (jV (i := j) kQ kR hr_7 hr_7b rfl rfl (by omega)) <| jA (jX fo97_2 hr_7 rfl) ?_
    refine jI rfl (ju 0 (vs := [str (mt (((k + 6 * j) + 1) + 1))]) (cs' := (((markG mkK 6 l k).take j ++ l.drop j).set j (⟨((k + 6 * j : Nat) : Int), mt ((k + 6 * j) + 1), mt (((k + 6 * j) + 1) + 1), (((markG mkK 6 l k).take j ++ l.drop j).getD j k0).a, (((markG mkK 6 l k).take j ++ l.drop j).getD j k0).b, (((markG mkK 6 l k).take j ++ l.drop j).getD j k0).text⟩ : CL)).flatMap encK) rfl rfl rfl rfl kI rfl rfl (by decide) (by rw [flat_length encK_len]; (try rw [List.length_set]); rw [markG_lenj mkK 6 hj]; omega) (flat_set1s encK_len k0 (f := 2) (x := (⟨((k + 6 * j : Nat) : Int), mt ((k + 6 * j) + 1), (((markG mkK 6 l k).take j ++ l.drop j).getD j k0).to_, (((markG mkK 6 l k).take j ++ l.drop j).getD j k0).a, (((markG mkK 6 l k).take j ++ l.drop j).getD j k0).b, (((markG mkK 6 l k).take j ++ l.drop j).getD j k0).text⟩ : CL)) (y := (⟨((k + 6 * j : Nat) : Int), mt ((k + 6 * j) + 1), mt (((k + 6 * j) + 1) + 1), (((markG mkK 6 l k).take j ++ l.drop j).getD j k0).a, (((markG mkK 6 l k).take j ++ l.drop j).getD j k0).b, (((markG mkK 6 l k).take j ++ l.drop j).getD j k0).text⟩ : CL)) (by rw [markG_lenj mkK 6 hj]; omega) (by decide) rfl)) ?_
    rintro _ _ rfl
    refine jE <| jB <| jC <| jF <| jA (jD (v := iv ((((k + 6 * j) + 1) + 1 : Nat) : Int)) rfl) <| jA (jT (c := (((((k + 6 * j) + 1) + 1) + 1 : Nat) : Int)) rfl rfl (wr (by omega))) <| jA (jG (v := iv (((((k + 6 * j) + 1) + 1) + 1 : Nat) : Int)) rfl) <| jE <| jB <| jC ?_
    refine jF <| jA (jD (v := .slice a l.length c) he_2) <| jA (jD (v := nv j) he_5) <| jA (jD (v := iv (((((k + 6 * j) + 1) + 1) + 1 : Nat) : Int)) rfl) <| jA (jV (i := j) kQ kR hr_7 hr_7b rfl rfl (by omega)) <| jA (jX fo97_3 hr_7 rfl) ?_
    refine jI rfl (ju 0 (vs := [iv (((((k + 6 * j) + 1) + 1) + 1 : Nat) : Int)]) (cs' := (((markG mkK 6 l k).take j ++ l.drop j).set j (⟨((k + 6 * j : Nat) : Int), mt ((k + 6 * j) + 1), mt (((k + 6 * j) + 1) + 1), (((((k + 6 * j) + 1) + 1) + 1 : Nat) : Int), (((markG mkK 6 l k).take j ++ l.drop j).getD j k0).b, (((markG mkK 6 l k).take j ++ l.drop j).getD j k0).text⟩ : CL)).flatMap encK) rfl rfl rfl rfl kK rfl rfl (by decide) (by rw [flat_length encK_len]; (try rw [List.length_set]); rw [markG_lenj mkK 6 hj]; omega) (flat_set1s encK_len k0 (f := 3) (x := (⟨((k + 6 * j : Nat) : Int), mt ((k + 6 * j) + 1), mt (((k + 6 * j) + 1) + 1), (((markG mkK 6 l k).take j ++ l.drop j).getD j k0).a, (((markG mkK 6 l k).take j ++ l.drop j).getD j k0).b, (((markG mkK 6 l k).take j ++ l.drop j).getD j k0).text⟩ : CL)) (y := (⟨((k + 6 * j : Nat) : Int), mt ((k + 6 * j) + 1), mt (((k + 6 * j) + 1) + 1), (((((k + 6 * j) + 1) + 1) + 1 : Nat) : Int), (((markG mkK 6 l k).take j ++ l.drop j).getD j k0).b, (((markG mkK 6 l k).take j ++ l.drop j).getD j k0).text⟩ : CL)) (by rw [markG_lenj mkK 6 hj]; omega) (by decide) rfl)) ?_
    rintro _ _ rfl
    refine jE <| jB <| jC <| jF <| jA (jD (v := iv (((((k + 6 * j) + 1) + 1) + 1 : Nat) : Int)) rfl) <| jA (jT (c := ((((((k + 6 * j) + 1) + 1) + 1) + 1 : Nat) : Int)) rfl rfl (wr (by omega))) <| jA (jG (v := iv ((((((k + 6 * j) + 1) + 1) + 1) + 1 : Nat) : Int)) rfl) <| jE <| jB <| jC ?_
    refine jF <| jA (jD (v := .slice a l.length c) he_2) <| jA (jD (v := nv j) he_5) <| jA (jD (v := iv ((((((k + 6 * j) + 1) + 1) + 1) + 1 : Nat) : Int)) rfl) <| jA (jV (i := j) kQ kR hr_7 hr_7b rfl rfl (by omega)) <| jA (jX fo97_4 hr_7 rfl) ?_
    refine jI rfl (ju 0 (vs := [iv ((((((k + 6 * j) + 1) + 1) + 1) + 1 : Nat) : Int)]) (cs' := (((markG mkK 6 l k).take j ++ l.drop j).set j (⟨((k + 6 * j : Nat) : Int), mt ((k + 6 * j) + 1), mt (((k + 6 * j) + 1) + 1), (((((k + 6 * j) + 1) + 1) + 1 : Nat) : Int), ((((((k + 6 * j) + 1) + 1) + 1) + 1 : Nat) : Int), (((markG mkK 6 l k).take j ++ l.drop j).getD j k0).text⟩ : CL)).flatMap encK) rfl rfl rfl rfl kK rfl rfl (by decide) (by rw [flat_length encK_len]; (try rw [List.length_set]); rw [markG_lenj mkK 6 hj]; omega) (flat_set1s encK_len k0 (f := 4) (x := (⟨((k + 6 * j : Nat) : Int), mt ((k + 6 * j) + 1), mt (((k + 6 * j) + 1) + 1), (((((k + 6 * j) + 1) + 1) + 1 : Nat) : Int), (((markG mkK 6 l k).take j ++ l.drop j).getD j k0).b, (((markG mkK 6 l k).take j ++ l.drop j).getD j k0).text⟩ : CL)) (y := (⟨((k + 6 * j : Nat) : Int), mt ((k + 6 * j) + 1), mt (((k + 6 * j) + 1) + 1), (((((k + 6 * j) + 1) + 1) + 1 : Nat) : Int), ((((((k + 6 * j) + 1) + 1) + 1) + 1 : Nat) : Int), (((markG mkK 6 l k).take j ++ l.drop j).getD j k0).text⟩ : CL)) (by rw [markG_lenj mkK 6 hj]; omega) (by decide) rfl)) ?_
    rintro _ _ rfl
    refine jE <| jB <| jC <| jF <| jA (jD (v := iv ((((((k + 6 * j) + 1) + 1) + 1) + 1 : Nat) : Int)) rfl) <| jA (jT (c := (((((((k + 6 * j) + 1) + 1) + 1) + 1) + 1 : Nat) : Int)) rfl rfl (wr (by omega))) <| jA (jG (v := iv (((((((k + 6 * j) + 1) + 1) + 1) + 1) + 1 : Nat) : Int)) rfl) <| jE <| jB <| jC ?_
    refine jF <| jA (jD (v := .slice a l.length c) he_2) <| jA (jD (v := nv j) he_5) <| jA (jD (v := iv (((((((k + 6 * j) + 1) + 1) + 1) + 1) + 1 : Nat) : Int)) rfl) ?_
    refine jI rfl (jR [] Tryz.call37 rfl (C_markText ((((((k + 6 * j) + 1) + 1) + 1) + 1) + 1) (by omega) (by omega)) rfl (fun _ _ => trivial)) ?_
    rintro _ _ ⟨_, ⟨rfl, rfl⟩, rfl⟩
    refine jA (jV (i := j) kQ kR hr_7 hr_7b rfl rfl (by omega)) <| jA (jX fo97_5 hr_7 rfl) ?_
    refine jI rfl (ju 0 (vs := [str (mt ((((((k + 6 * j) + 1) + 1) + 1) + 1) + 1))]) (cs' := (((markG mkK 6 l k).take j ++ l.drop j).set j (⟨((k + 6 * j : Nat) : Int), mt ((k + 6 * j) + 1), mt (((k + 6 * j) + 1) + 1), (((((k + 6 * j) + 1) + 1) + 1 : Nat) : Int), ((((((k + 6 * j) + 1) + 1) + 1) + 1 : Nat) : Int), mt ((((((k + 6 * j) + 1) + 1) + 1) + 1) + 1)⟩ : CL)).flatMap encK) rfl rfl rfl rfl kI rfl rfl (by decide) (by rw [flat_length encK_len]; (try rw [List.length_set]); rw [markG_lenj mkK 6 hj]; omega) (flat_set1s encK_len k0 (f := 5) (x := (⟨((k + 6 * j : Nat) : Int), mt ((k + 6 * j) + 1), mt (((k + 6 * j) + 1) + 1), (((((k + 6 * j) + 1) + 1) + 1 : Nat) : Int), ((((((k + 6 * j) + 1) + 1) + 1) + 1 : Nat) : Int), (((markG mkK 6 l k).take j ++ l.drop j).getD j k0).text⟩ : CL)) (y := (⟨((k + 6 * j : Nat) : Int), mt ((k + 6 * j) + 1), mt (((k + 6 * j) + 1) + 1), (((((k + 6 * j) + 1) + 1) + 1 : Nat) : Int), ((((((k + 6 * j) + 1) + 1) + 1) + 1 : Nat) : Int), mt ((((((k + 6 * j) + 1) + 1) + 1) + 1) + 1)⟩ : CL)) (by rw [markG_lenj mkK 6 hj]; omega) (by decide) rfl)) ?_
    rintro _ _ rfl
    refine jE <| jB <| jF <| jA (jD (v := iv (((((((k + 6 * j) + 1) + 1) + 1) + 1) + 1 : Nat) : Int)) rfl) <| jA (jT (c := ((((((((k + 6 * j) + 1) + 1) + 1) + 1) + 1) + 1 : Nat) : Int)) rfl rfl (wr (by omega))) <| jA (jG (v := iv ((((((((k + 6 * j) + 1) + 1) + 1) + 1) + 1) + 1 : Nat) : Int)) rfl) <| jE <| jk <| jB <| jF ?_
    refine jA (jD (v := nv j) he_5) <| jA (jT (c := ((j + 1 : Nat) : Int)) rfl rfl (wr (by omega))) <| jA (jG (v := iv ((j + 1 : Nat) : Int)) rfl) <| jE ?_
    refine jl (l.length - (j + 1)) (by omega) ⟨j + 1, by omega, he_2, rfl, he_4, rfl, (by rw [← markG_step mkK 6 hlt]; rfl), rfl⟩
  refine jL (cB (dF h_6)) <| jm <| jY <| jY <| jn <| jB <| jC <| jF <| jA (jD (v := iv ((k + 6 * j : Nat) : Int)) he_3) <| jA (jG (v := iv ((k + 6 * j : Nat) : Int)) rfl) ?_
  refine jE <| jB <| jK <| jN (.inl rfl) rfl (jJ (v := iv ((k + 6 * j : Nat) : Int)) rfl) (List.Sublist.refl _) ?_
  exact ⟨by rw [show j = l.length by omega], by rw [show j = l.length by omega, List.drop_of_length_le (Nat.le_refl _), List.append_nil, List.take_of_length_le (by rw [markG_len]; exact Nat.le_refl _)]⟩

theorem C_heldCallS (a : Option Addr) (c : Nat) (l : List CL) (k : Nat) (h0 : 0 < k) (h1 : k + 6 * l.length ≤ 100000000) :
    Ct Tryz.prog 43 [.slice a l.length c, .int .i64 ((k : Nat) : Int)] [] (fun w => Sees w (.slice a l.length c) 6 l.length ((markG mkK 6 l k).flatMap encK)) (fun v A' => v = .int .i64 ((k + 6 * l.length : Nat) : Int) ∧ A' = []) := by
  refine Ct.intro Tryz.func43 rfl Tryz.ntmps43 (lb rfl) fun w0 hpre => ?_
  have hs_a : Sees w0 _ _ _ _ := hpre
  refine jC <| jF <| jA (jG (v := iv 0) rfl) <| jE <| jB <| jC <| jC <| jF <| jA (jG (v := iv 0) rfl) <| jE ?_
  refine jB <| jZ <| jo (fun k_ e_ L_ => ∃ j : Nat, (j ≤ l.length) ∧ e_ 0 = .slice a l.length c ∧ e_ 1 = iv ((k + 6 * j : Nat) : Int) ∧ e_ 5 = nv j ∧ L_ = [] ∧ k_ = l.length - j) _ ⟨0, by omega, rfl, rfl, rfl, rfl, rfl⟩ ?_
  rintro _ e_1 _ ⟨j, hj, he_2, he_3, he_4, rfl, rfl⟩
  refine jC <| jC <| jF <| jA (jD (v := nv j) he_4) <| jA (jD (v := .slice a l.length c) he_2) <| jA (jh kQ rfl) <| jA (jb rfl rfl) <| jE <| jB ?_
  by_cases h_5 : ((j : Nat) : Int) < ((l.length : Nat) : Int)
  · have hlt : j < l.length := by omega
    refine jQ (cB (dT h_5)) <| jM <| jB <| jC <| jZ <| jC <| jC <| jF <| jA (jD (v := .slice a l.length c) he_2) <| jA (jD (v := nv j) he_4) ?_
    obtain ⟨hr_6, hr_6b, -⟩ := sees_some hs_a (by omega)
    refine jA (jV (i := j) kQ kR hr_6 hr_6b rfl rfl (by omega)) <| jA (jX fo97_0 hr_6 rfl) <| jP (ji (v := iv (((markG mkK 6 l k).getD j k0).kind)) hs_a nM rfl kE (flat_at encK_len k0 (markG mkK 6 l k) j 0 (by rw [markG_len]; omega) (by decide))) <| jA (jD (v := iv ((k + 6 * j : Nat) : Int)) he_3) <| jA (jf rfl rfl) <| jE <| jB ?_
    by_cases h_7 : (((markG mkK 6 l k).getD j k0).kind) = ((k + 6 * j : Nat) : Int)
    · refine jL (cB (cN (dT h_7))) <| jM <| jB <| jC <| jF <| jA (jD (v := iv ((k + 6 * j : Nat) : Int)) he_3) <| jA (jT (c := (((k + 6 * j) + 1 : Nat) : Int)) rfl rfl (wr (by omega))) <| jA (jG (v := iv (((k + 6 * j) + 1 : Nat) : Int)) rfl) <| jE <| jB ?_
      refine jC <| jC <| jv [] 7 mixed (by simp) <| jW 0 rfl (jD (v := .slice a l.length c) he_2) <| jW 1 rfl (jD (v := nv j) he_4) <| jW 2 rfl (jV (i := j) kQ kR hr_6 hr_6b rfl rfl (by omega)) <| jW 3 rfl (jX fo97_1 hr_6 rfl) <| jw 4 rfl (ji (v := str (((markG mkK 6 l k).getD j k0).name)) hs_a nM rfl kH (flat_at encK_len k0 (markG mkK 6 l k) j 1 (by rw [markG_len]; omega) (by decide))) <| jW 5 rfl (jD (v := iv (((k + 6 * j) + 1 : Nat) : Int)) rfl) <| jx (i := 6) ?_
      refine jz rfl rfl (jR [] Tryz.call37 rfl (C_markText ((k + 6 * j) + 1) (by omega) (by omega)) rfl (fun _ _ => trivial)) ?_
      rintro _ _ ⟨_, ⟨rfl, rfl⟩, rfl⟩
      refine ⟨(fun _ h => by cases h), ?_⟩
      refine jW 7 rfl (kA rfl rfl) <| kB (by kernel_rfl) <| jB ?_
      by_cases h_8 : (((markG mkK 6 l k).getD j k0).name) = (mt ((k + 6 * j) + 1))
      · refine jL (cB (cN (dT h_8))) <| jM <| jB <| jC <| jF <| jA (jD (v := iv (((k + 6 * j) + 1 : Nat) : Int)) rfl) <| jA (jT (c := ((((k + 6 * j) + 1) + 1 : Nat) : Int)) rfl rfl (wr (by omega))) <| jA (jG (v := iv ((((k + 6 * j) + 1) + 1 : Nat) : Int)) rfl) <| jE <| jB ?_
        refine jC <| jC <| jv [] 7 mixed (by simp) <| jW 0 rfl (jD (v := .slice a l.length c) he_2) <| jW 1 rfl (jD (v := nv j) he_4) <| jW 2 rfl (jV (i := j) kQ kR hr_6 hr_6b rfl rfl (by omega)) <| jW 3 rfl (jX fo97_2 hr_6 rfl) <| jw 4 rfl (ji (v := str (((markG mkK 6 l k).getD j k0).to_)) hs_a nM rfl kH (flat_at encK_len k0 (markG mkK 6 l k) j 2 (by rw [markG_len]; omega) (by decide))) <| jW 5 rfl (jD (v := iv ((((k + 6 * j) + 1) + 1 : Nat) : Int)) rfl) <| jx (i := 6) ?_
        refine jz rfl rfl (jR [] Tryz.call37 rfl (C_markText (((k + 6 * j) + 1) + 1) (by omega) (by omega)) rfl (fun _ _ => trivial)) ?_
        rintro _ _ ⟨_, ⟨rfl, rfl⟩, rfl⟩
        refine ⟨(fun _ h => by cases h), ?_⟩
        refine jW 7 rfl (kA rfl rfl) <| kB (by kernel_rfl) <| jB ?_
        by_cases h_9 : (((markG mkK 6 l k).getD j k0).to_) = (mt (((k + 6 * j) + 1) + 1))
        · refine jL (cB (cN (dT h_9))) <| jM <| jB <| jC <| jF <| jA (jD (v := iv ((((k + 6 * j) + 1) + 1 : Nat) : Int)) rfl) <| jA (jT (c := (((((k + 6 * j) + 1) + 1) + 1 : Nat) : Int)) rfl rfl (wr (by omega))) <| jA (jG (v := iv (((((k + 6 * j) + 1) + 1) + 1 : Nat) : Int)) rfl) <| jE <| jB ?_
          refine jC <| jC <| jF <| jA (jD (v := .slice a l.length c) he_2) <| jA (jD (v := nv j) he_4) <| jA (jV (i := j) kQ kR hr_6 hr_6b rfl rfl (by omega)) <| jA (jX fo97_3 hr_6 rfl) <| jP (ji (v := iv (((markG mkK 6 l k).getD j k0).a)) hs_a nM rfl kE (flat_at encK_len k0 (markG mkK 6 l k) j 3 (by rw [markG_len]; omega) (by decide))) <| jA (jD (v := iv (((((k + 6 * j) + 1) + 1) + 1 : Nat) : Int)) rfl) <| jA (jf rfl rfl) ?_
          refine jE <| jB ?_
          by_cases h_10 : (((markG mkK 6 l k).getD j k0).a) = (((((k + 6 * j) + 1) + 1) + 1 : Nat) : Int)
          · refine jL (cB (cN (dT h_10))) <| jM <| jB <| jC <| jF <| jA (jD (v := iv (((((k + 6 * j) + 1) + 1) + 1 : Nat) : Int)) rfl) <| jA (jT (c := ((((((k + 6 * j) + 1) + 1) + 1) + 1 : Nat) : Int)) rfl rfl (wr (by omega))) <| jA (jG (v := iv ((((((k + 6 * j) + 1) + 1) + 1) + 1 : Nat) : Int)) rfl) <| jE <| jB ?_
            refine jC <| jC <| jF <| jA (jD (v := .slice a l.length c) he_2) <| jA (jD (v := nv j) he_4) <| jA (jV (i := j) kQ kR hr_6 hr_6b rfl rfl (by omega)) <| jA (jX fo97_4 hr_6 rfl) <| jP (ji (v := iv (((markG mkK 6 l k).getD j k0).b)) hs_a nM rfl kE (flat_at encK_len k0 (markG mkK 6 l k) j 4 (by rw [markG_len]; omega) (by decide))) <| jA (jD (v := iv ((((((k + 6 * j) + 1) + 1) + 1) + 1 : Nat) : Int)) rfl) <| jA (jf rfl rfl) ?_
            refine jE <| jB ?_
            by_cases h_11 : (((markG mkK 6 l k).getD j k0).b) = ((((((k + 6 * j) + 1) + 1) + 1) + 1 : Nat) : Int)
            · refine jL (cB (cN (dT h_11))) <| jM <| jB <| jC <| jF <| jA (jD (v := iv ((((((k + 6 * j) + 1) + 1) + 1) + 1 : Nat) : Int)) rfl) <| jA (jT (c := (((((((k + 6 * j) + 1) + 1) + 1) + 1) + 1 : Nat) : Int)) rfl rfl (wr (by omega))) <| jA (jG (v := iv (((((((k + 6 * j) + 1) + 1) + 1) + 1) + 1 : Nat) : Int)) rfl) <| jE <| jB ?_
              refine jC <| jC <| jv [] 7 mixed (by simp) <| jW 0 rfl (jD (v := .slice a l.length c) he_2) <| jW 1 rfl (jD (v := nv j) he_4) <| jW 2 rfl (jV (i := j) kQ kR hr_6 hr_6b rfl rfl (by omega)) <| jW 3 rfl (jX fo97_5 hr_6 rfl) <| jw 4 rfl (ji (v := str (((markG mkK 6 l k).getD j k0).text)) hs_a nM rfl kH (flat_at encK_len k0 (markG mkK 6 l k) j 5 (by rw [markG_len]; omega) (by decide))) <| jW 5 rfl (jD (v := iv (((((((k + 6 * j) + 1) + 1) + 1) + 1) + 1 : Nat) : Int)) rfl) <| jx (i := 6) ?_
              refine jz rfl rfl (jR [] Tryz.call37 rfl (C_markText ((((((k + 6 * j) + 1) + 1) + 1) + 1) + 1) (by omega) (by omega)) rfl (fun _ _ => trivial)) ?_
              rintro _ _ ⟨_, ⟨rfl, rfl⟩, rfl⟩
              refine ⟨(fun _ h => by cases h), ?_⟩
              refine jW 7 rfl (kA rfl rfl) <| kB (by kernel_rfl) <| jB ?_
              by_cases h_12 : (((markG mkK 6 l k).getD j k0).text) = (mt ((((((k + 6 * j) + 1) + 1) + 1) + 1) + 1))
              · refine jL (cB (cN (dT h_12))) <| jM <| jB <| jF <| jA (jD (v := iv (((((((k + 6 * j) + 1) + 1) + 1) + 1) + 1 : Nat) : Int)) rfl) <| jA (jT (c := ((((((((k + 6 * j) + 1) + 1) + 1) + 1) + 1) + 1 : Nat) : Int)) rfl rfl (wr (by omega))) <| jA (jG (v := iv ((((((((k + 6 * j) + 1) + 1) + 1) + 1) + 1) + 1 : Nat) : Int)) rfl) <| jE <| jk <| jB ?_
                refine jF <| jA (jD (v := nv j) he_4) <| jA (jT (c := ((j + 1 : Nat) : Int)) rfl rfl (wr (by omega))) <| jA (jG (v := iv ((j + 1 : Nat) : Int)) rfl) <| jE ?_
                refine jl (l.length - (j + 1)) (by omega) ⟨j + 1, by omega, he_2, rfl, rfl, rfl, rfl⟩
              exfalso; rw [markG_get mkK 6 k0 l k j hlt] at h_12; first | omega | exact h_12 rfl
            exfalso; rw [markG_get mkK 6 k0 l k j hlt] at h_11; first | omega | exact h_11 rfl
          exfalso; rw [markG_get mkK 6 k0 l k j hlt] at h_10; first | omega | exact h_10 rfl
        exfalso; rw [markG_get mkK 6 k0 l k j hlt] at h_9; first | omega | exact h_9 rfl
      exfalso; rw [markG_get mkK 6 k0 l k j hlt] at h_8; first | omega | exact h_8 rfl
    exfalso; rw [markG_get mkK 6 k0 l k j hlt] at h_7; first | omega | exact h_7 rfl
  refine jL (cB (dF h_5)) <| jm <| jY <| jY <| jn <| jB <| jC <| jF <| jA (jD (v := iv ((k + 6 * j : Nat) : Int)) he_3) <| jA (jG (v := iv ((k + 6 * j : Nat) : Int)) rfl) ?_
  refine jE <| jB <| jK <| jN (.inl rfl) rfl (jJ (v := iv ((k + 6 * j : Nat) : Int)) rfl) (List.nil_sublist _) ?_
  exact ⟨by rw [show j = l.length by omega], rfl⟩

theorem C_eqAnswer (a b : AN) :
    Ct Tryz.prog 75 [.agg #[.int .i64 a.code, .int .i64 a.n, str a.text], .agg #[.int .i64 b.code, .int .i64 b.n, str b.text]] [] (fun _ => True) (fun v A' => v = .bool (decide (a = b)) ∧ A' = []) := by
  refine Ct.intro Tryz.func75 rfl Tryz.ntmps75 (lb rfl) fun w0 hpre => ?_
  refine jC <| jF ?_
  refine jI rfl (jp (cs := [iv a.code, iv a.n, str a.text]) rfl rfl) ?_
  rintro _ _ ⟨b_1, rfl, rfl⟩
  refine jI rfl (jp (cs := [iv b.code, iv b.n, str b.text]) rfl rfl) ?_
  rintro _ _ ⟨b_2, rfl, rfl⟩
  refine jA (jG (v := .bool false) rfl) <| jE <| jB <| jC <| jC <| jF <| jA (jS fo99_0 rfl) <| jP (jU 1 (v := iv a.code) rfl rfl kE rfl) <| jA (jS fo99_0 rfl) <| jP (jU 0 (v := iv b.code) rfl rfl kE rfl) ?_
  refine jA (jf rfl rfl) <| jE <| jB ?_
  by_cases h_3 : a.code = b.code
  · refine jL (cB (cN (dT h_3))) <| jM <| jB <| jC <| jC <| jF <| jA (jS fo99_1 rfl) <| jP (jU 1 (v := iv a.n) rfl rfl kE rfl) <| jA (jS fo99_1 rfl) <| jP (jU 0 (v := iv b.n) rfl rfl kE rfl) ?_
    refine jA (jf rfl rfl) <| jE <| jB ?_
    by_cases h_4 : a.n = b.n
    · refine jL (cB (cN (dT h_4))) <| jM <| jB <| jC <| jC <| jF <| jA (jS fo99_2 rfl) <| jP (jU 1 (v := str a.text) rfl rfl kH rfl) <| jA (jS fo99_2 rfl) <| jP (jU 0 (v := str b.text) rfl rfl kH rfl) ?_
      refine jA (kA rfl rfl) <| jE <| jB ?_
      by_cases h_5 : a.text = b.text
      · refine jL (cB (cN (dT h_5))) <| jM <| jB <| jC <| jF <| jA (jG (v := .bool true) rfl) <| jE <| jB <| jK <| jN (.inl rfl) rfl (jJ (v := .bool true) rfl) (List.nil_sublist _) ?_
        refine ⟨cB ?_, rfl⟩
        exact (dT (by cases a; cases b; simp_all)).symm
      refine jQ (cB (cN (dF h_5))) <| jC <| jF <| jA (jG (v := .bool false) rfl) <| jE <| jB <| jK <| jO <| jN (.inl rfl) rfl (jJ (v := .bool false) rfl) (List.nil_sublist _) ?_
      refine ⟨cB ?_, rfl⟩
      exact (dF (fun h_ => by subst h_; simp_all)).symm
    refine jQ (cB (cN (dF h_4))) <| jC <| jF <| jA (jG (v := .bool false) rfl) <| jE <| jB <| jK <| jO <| jN (.inl rfl) rfl (jJ (v := .bool false) rfl) (List.nil_sublist _) ?_
    refine ⟨cB ?_, rfl⟩
    exact (dF (fun h_ => by subst h_; simp_all)).symm
  refine jQ (cB (cN (dF h_3))) <| jC <| jF <| jA (jG (v := .bool false) rfl) <| jE <| jB <| jK <| jO <| jN (.inl rfl) rfl (jJ (v := .bool false) rfl) (List.nil_sublist _) ?_
  refine ⟨cB ?_, rfl⟩
  exact (dF (fun h_ => by subst h_; simp_all)).symm

theorem C_eqAnswerS (a b : Option Addr) (c c' : Nat) (s t : List AN) (hn : s.length ≤ 9223372036854775807) :
    Ct Tryz.prog 57 [.slice a s.length c, .slice b t.length c'] [] (fun w => Sees w (.slice a s.length c) 3 s.length (s.flatMap encA) ∧ Sees w (.slice b t.length c') 3 t.length (t.flatMap encA)) (fun r A' => r = .bool (decide (s = t)) ∧ A' = []) := by
  refine Ct.intro Tryz.func57 rfl Tryz.ntmps57 (lb rfl) fun w0 hpre => ?_
  have hs_a : Sees w0 _ _ _ _ := hpre.1
  have hs_b : Sees w0 _ _ _ _ := hpre.2
  refine jC <| jF <| jA (jG (v := .bool false) rfl) <| jE <| jB <| jC <| jC <| jF <| jA (jD (v := .slice a s.length c) rfl) <| jA (jh kZ rfl) ?_
  refine jA (jD (v := .slice b t.length c') rfl) <| jA (jh kZ rfl) <| jA (jf rfl rfl) <| jE <| jB ?_
  by_cases h_1 : ((s.length : Nat) : Int) = ((t.length : Nat) : Int)
  · have hlen := h_1
    refine jL (cB (cN (dT h_1))) <| jM <| jB <| jC <| jC <| jF <| jA (jG (v := iv 0) rfl) <| jE <| jB <| jZ ?_
    refine jo (fun k_ e_ L_ => ∃ j : Nat, (j ≤ s.length) ∧ (s.take j = t.take j) ∧ (s.length = t.length) ∧ e_ 0 = .slice a s.length c ∧ e_ 1 = .slice b t.length c' ∧ e_ 5 = nv j ∧ L_ = [] ∧ k_ = s.length - j) _ ⟨0, by omega, rfl, by omega, rfl, rfl, rfl, rfl, rfl⟩ ?_
    rintro _ e_2 _ ⟨j, hj, hE, hln, he_3, he_4, he_5, rfl, rfl⟩
    refine jC <| jC <| jF <| jA (jD (v := nv j) he_5) <| jA (jD (v := .slice a s.length c) he_3) <| jA (jh kZ rfl) <| jA (jb rfl rfl) <| jE <| jB ?_
    by_cases h_6 : ((j : Nat) : Int) < ((s.length : Nat) : Int)
    · have hlt : j < s.length := by omega
      refine jQ (cB (dT h_6)) <| jM <| jB <| jC <| jZ <| jC <| jv [] 1000 mixed (by simp) <| jW 0 rfl (jD (v := .slice a s.length c) he_3) <| jW 1 rfl (jD (v := nv j) he_5) ?_
      obtain ⟨hr_7, hr_7b, -⟩ := sees_some hs_a (by omega)
      refine jW 2 rfl (jV (i := j) kZ Tryz.sizeOf99 hr_7 hr_7b rfl rfl (by omega)) <| jw 3 rfl (LO.loadSK (vs := [iv ((s.getD j a0_).code), iv ((s.getD j a0_).n), str ((s.getD j a0_).text)]) hs_a nM rfl Tryz.isAgg99 Tryz.sizeOf99 (flat_take encA_len a0_ s j (by omega)) rfl (by decide)) <| jW 4 rfl (jD (v := .slice b t.length c') he_4) <| jW 5 rfl (jD (v := nv j) he_5) ?_
      obtain ⟨hr_8, hr_8b, -⟩ := sees_some hs_b (by omega)
      refine jW 6 rfl (jV (i := j) kZ Tryz.sizeOf99 hr_8 hr_8b rfl rfl (by omega)) <| jw 7 rfl (LO.loadSK (vs := [iv ((t.getD j a0_).code), iv ((t.getD j a0_).n), str ((t.getD j a0_).text)]) hs_b nM rfl Tryz.isAgg99 Tryz.sizeOf99 (flat_take encA_len a0_ t j (by omega)) rfl (by decide)) <| jx (i := 8) ?_
      refine jz rfl rfl (jR [] Tryz.call75 rfl (C_eqAnswer (s.getD j a0_) (t.getD j a0_)) rfl (fun _ _ => trivial)) ?_
      rintro _ _ ⟨_, ⟨rfl, rfl⟩, rfl⟩
      refine ⟨(fun _ h => by cases h), ?_⟩
      refine jW 9 rfl (jq rfl) <| kB (by kernel_rfl) <| jB ?_
      by_cases h_9 : (s.getD j a0_) = (t.getD j a0_)
      · have heq := h_9
        refine jL (cB (cN (dT h_9))) <| jM <| jk <| jB <| jF <| jA (jD (v := nv j) he_5) <| jA (jT (c := ((j + 1 : Nat) : Int)) rfl rfl (wr (by omega))) <| jA (jG (v := iv ((j + 1 : Nat) : Int)) rfl) <| jE ?_
        refine jl (s.length - (j + 1)) (by omega) ⟨j + 1, by omega, take_succ_eq a0_ hE hlt hln heq, hln, he_3, he_4, rfl, rfl, rfl⟩
      have hne := h_9
      refine jQ (cB (cN (dF h_9))) <| jC <| jF <| jA (jG (v := .bool false) rfl) <| jE <| jB <| jK <| je <| jO <| jO ?_
      refine je <| jO <| jN (.inl rfl) rfl (jJ (v := .bool false) rfl) (List.nil_sublist _) ?_
      refine ⟨?_, rfl⟩
      rw [dF (fun h => hne (by rw [h]))]
    refine jL (cB (dF h_6)) <| jm <| jY <| jY <| jn <| jB <| jC <| jF <| jA (jG (v := .bool true) rfl) <| jE ?_
    refine jB <| jK <| jN (.inl rfl) rfl (jJ (v := .bool true) rfl) (List.nil_sublist _) ?_
    refine ⟨?_, rfl⟩
    rw [dT (take_all_eq hE (by omega) (by omega))]
  have hlen := h_1
  refine jQ (cB (cN (dF h_1))) <| jC <| jF <| jA (jG (v := .bool false) rfl) <| jE <| jB <| jK <| jO <| jN (.inl rfl) rfl (jJ (v := .bool false) rfl) (List.nil_sublist _) ?_
  refine ⟨?_, rfl⟩
  rw [dF (fun h => by rw [h] at hlen; omega)]

theorem C_markAnswerS (a : Option Addr) (c : Nat) (l : List AN) (k : Nat) (h0 : 0 < k) (h1 : k + 3 * l.length ≤ 100000000) :
    Ct Tryz.prog 39 [.slice a l.length c, .int .i64 ((k : Nat) : Int)] [Res.row (.slice a l.length c) 99 3 l.length (l.flatMap encA)] (fun _ => True) (fun v A' => v = .int .i64 ((k + 3 * l.length : Nat) : Int) ∧ A' = [.row (.slice a l.length c) 99 3 l.length ((markG mkA 3 l k).flatMap encA)]) := by
  refine Ct.intro Tryz.func39 rfl Tryz.ntmps39 (lb rfl) fun w0 hpre => ?_
  refine jC <| jF <| jA (jG (v := iv 0) rfl) <| jE <| jB <| jC <| jC <| jF <| jA (jG (v := iv 0) rfl) <| jE ?_
  refine jB <| jZ <| jo (fun k_ e_ L_ => ∃ j : Nat, (j ≤ l.length) ∧ e_ 0 = .slice a l.length c ∧ e_ 1 = iv ((k + 3 * j : Nat) : Int) ∧ e_ 4 = iv 0 ∧ e_ 5 = nv j ∧ L_ = [Res.row (.slice a l.length c) 99 3 l.length (((markG mkA 3 l k).take j ++ l.drop j).flatMap encA)] ∧ k_ = l.length - j) _ ⟨0, by omega, rfl, rfl, rfl, rfl, rfl, rfl⟩ ?_
  rintro _ e_1 _ ⟨j, hj, he_2, he_3, he_4, he_5, rfl, rfl⟩
  refine jC <| jC <| jF <| jA (jD (v := nv j) he_5) <| jA (jD (v := .slice a l.length c) he_2) <| jA (jh kZ rfl) <| jA (jb rfl rfl) <| jE <| jB ?_
  by_cases h_6 : ((j : Nat) : Int) < ((l.length : Nat) : Int)
  · have hlt : j < l.length := by omega
    refine jQ (cB (dT h_6)) <| jM <| jB <| jC <| jZ <| jC <| jF <| jA (jD (v := .slice a l.length c) he_2) <| jA (jD (v := nv j) he_5) <| jA (jD (v := iv ((k + 3 * j : Nat) : Int)) he_3) ?_
    refine JL.facts fun hst => ?_
    obtain ⟨hr_7, hr_7b, -⟩ := row_some 0 rfl (by omega) hst
    refine jA (jV (i := j) kZ Tryz.sizeOf99 hr_7 hr_7b rfl rfl (by omega)) <| jA (jX fo99_0 hr_7 rfl) ?_
    refine jI rfl (ju 0 (vs := [iv ((k + 3 * j : Nat) : Int)]) (cs' := (((markG mkA 3 l k).take j ++ l.drop j).set j (⟨((k + 3 * j : Nat) : Int), (((markG mkA 3 l k).take j ++ l.drop j).getD j a0_).n, (((markG mkA 3 l k).take j ++ l.drop j).getD j a0_).text⟩ : AN)).flatMap encA) rfl rfl rfl rfl kK rfl rfl (by decide) (by rw [flat_length encA_len]; (try rw [List.length_set]); rw [markG_lenj mkA 3 hj]; omega) (flat_set1 encA_len a0_ (f := 0) (y := (⟨((k + 3 * j : Nat) : Int), (((markG mkA 3 l k).take j ++ l.drop j).getD j a0_).n, (((markG mkA 3 l k).take j ++ l.drop j).getD j a0_).text⟩ : AN)) (by rw [markG_lenj mkA 3 hj]; omega) (by decide) rfl)) ?_
    rintro _ _ rfl
    refine jE <| jB <| jC <| jF <| jA (jD (v := iv ((k + 3 * j : Nat) : Int)) he_3) <| jA (jT (c := (((k + 3 * j) + 1 : Nat) : Int)) rfl rfl (wr (by omega))) <| jA (jG (v := iv (((k + 3 * j) + 1 : Nat) : Int)) rfl) <| jE <| jB <| jC ?_
    refine jF <| jA (jD (v := .slice a l.length c) he_2) <| jA (jD (v := nv j) he_5) <| jA (jD (v := iv (((k + 3 * j) + 1 : Nat) : Int)) rfl) <| jA (jV (i := j) kZ Tryz.sizeOf99 hr_7 hr_7b rfl rfl (by omega)) <| jA (jX fo99_1 hr_7 rfl) ?_
    refine jI rfl (ju 0 (vs := [iv (((k + 3 * j) + 1 : Nat) : Int)]) (cs' := (((markG mkA 3 l k).take j ++ l.drop j).set j (⟨((k + 3 * j : Nat) : Int), (((k + 3 * j) + 1 : Nat) : Int), (((markG mkA 3 l k).take j ++ l.drop j).getD j a0_).text⟩ : AN)).flatMap encA) rfl rfl rfl rfl kK rfl rfl (by decide) (by rw [flat_length encA_len]; (try rw [List.length_set]); rw [markG_lenj mkA 3 hj]; omega) (flat_set1s encA_len a0_ (f := 1) (x := (⟨((k + 3 * j : Nat) : Int), (((markG mkA 3 l k).take j ++ l.drop j).getD j a0_).n, (((markG mkA 3 l k).take j ++ l.drop j).getD j a0_).text⟩ : AN)) (y := (⟨((k + 3 * j : Nat) : Int), (((k + 3 * j) + 1 : Nat) : Int), (((markG mkA 3 l k).take j ++ l.drop j).getD j a0_).text⟩ : AN)) (by rw [markG_lenj mkA 3 hj]; omega) (by decide) rfl)) ?_
    rintro _ _ rfl
    refine jE <| jB <| jC <| jF <| jA (jD (v := iv (((k + 3 * j) + 1 : Nat) : Int)) rfl) <| jA (jT (c := ((((k + 3 * j) + 1) + 1 : Nat) : Int)) rfl rfl (wr (by omega))) <| jA (jG (v := iv ((((k + 3 * j) + 1) + 1 : Nat) : Int)) rfl) <| jE <| jB <| jC ?_
    refine jF <| jA (jD (v := .slice a l.length c) he_2) <| jA (jD (v := nv j) he_5) <| jA (jD (v := iv ((((k + 3 * j) + 1) + 1 : Nat) : Int)) rfl) ?_
    refine jI rfl (jR [] Tryz.call37 rfl (C_markText (((k + 3 * j) + 1) + 1) (by omega) (by omega)) rfl (fun _ _ => trivial)) ?_
    rintro _ _ ⟨_, ⟨rfl, rfl⟩, rfl⟩
    refine jA (jV (i := j) kZ Tryz.sizeOf99 hr_7 hr_7b rfl rfl (by omega)) <| jA (jX fo99_2 hr_7 rfl) ?_
    refine jI rfl (ju 0 (vs := [str (mt (((k + 3 * j) + 1) + 1))]) (cs' := (((markG mkA 3 l k).take j ++ l.drop j).set j (⟨((k + 3 * j : Nat) : Int), (((k + 3 * j) + 1 : Nat) : Int), mt (((k + 3 * j) + 1) + 1)⟩ : AN)).flatMap encA) rfl rfl rfl rfl kI rfl rfl (by decide) (by rw [flat_length encA_len]; (try rw [List.length_set]); rw [markG_lenj mkA 3 hj]; omega) (flat_set1s encA_len a0_ (f := 2) (x := (⟨((k + 3 * j : Nat) : Int), (((k + 3 * j) + 1 : Nat) : Int), (((markG mkA 3 l k).take j ++ l.drop j).getD j a0_).text⟩ : AN)) (y := (⟨((k + 3 * j : Nat) : Int), (((k + 3 * j) + 1 : Nat) : Int), mt (((k + 3 * j) + 1) + 1)⟩ : AN)) (by rw [markG_lenj mkA 3 hj]; omega) (by decide) rfl)) ?_
    rintro _ _ rfl
    refine jE <| jB <| jF <| jA (jD (v := iv ((((k + 3 * j) + 1) + 1 : Nat) : Int)) rfl) <| jA (jT (c := (((((k + 3 * j) + 1) + 1) + 1 : Nat) : Int)) rfl rfl (wr (by omega))) <| jA (jG (v := iv (((((k + 3 * j) + 1) + 1) + 1 : Nat) : Int)) rfl) <| jE <| jk <| jB <| jF ?_
    refine jA (jD (v := nv j) he_5) <| jA (jT (c := ((j + 1 : Nat) : Int)) rfl rfl (wr (by omega))) <| jA (jG (v := iv ((j + 1 : Nat) : Int)) rfl) <| jE ?_
    refine jl (l.length - (j + 1)) (by omega) ⟨j + 1, by omega, he_2, rfl, he_4, rfl, (by rw [← markG_step mkA 3 hlt]; rfl), rfl⟩
  refine jL (cB (dF h_6)) <| jm <| jY <| jY <| jn <| jB <| jC <| jF <| jA (jD (v := iv ((k + 3 * j : Nat) : Int)) he_3) <| jA (jG (v := iv ((k + 3 * j : Nat) : Int)) rfl) ?_
  refine jE <| jB <| jK <| jN (.inl rfl) rfl (jJ (v := iv ((k + 3 * j : Nat) : Int)) rfl) (List.Sublist.refl _) ?_
  exact ⟨by rw [show j = l.length by omega], by rw [show j = l.length by omega, List.drop_of_length_le (Nat.le_refl _), List.append_nil, List.take_of_length_le (by rw [markG_len]; exact Nat.le_refl _)]⟩

theorem C_heldAnswerS (a : Option Addr) (c : Nat) (l : List AN) (k : Nat) (h0 : 0 < k) (h1 : k + 3 * l.length ≤ 100000000) :
    Ct Tryz.prog 44 [.slice a l.length c, .int .i64 ((k : Nat) : Int)] [] (fun w => Sees w (.slice a l.length c) 3 l.length ((markG mkA 3 l k).flatMap encA)) (fun v A' => v = .int .i64 ((k + 3 * l.length : Nat) : Int) ∧ A' = []) := by
  refine Ct.intro Tryz.func44 rfl Tryz.ntmps44 (lb rfl) fun w0 hpre => ?_
  have hs_a : Sees w0 _ _ _ _ := hpre
  refine jC <| jF <| jA (jG (v := iv 0) rfl) <| jE <| jB <| jC <| jC <| jF <| jA (jG (v := iv 0) rfl) <| jE ?_
  refine jB <| jZ <| jo (fun k_ e_ L_ => ∃ j : Nat, (j ≤ l.length) ∧ e_ 0 = .slice a l.length c ∧ e_ 1 = iv ((k + 3 * j : Nat) : Int) ∧ e_ 5 = nv j ∧ L_ = [] ∧ k_ = l.length - j) _ ⟨0, by omega, rfl, rfl, rfl, rfl, rfl⟩ ?_
  rintro _ e_1 _ ⟨j, hj, he_2, he_3, he_4, rfl, rfl⟩
  refine jC <| jC <| jF <| jA (jD (v := nv j) he_4) <| jA (jD (v := .slice a l.length c) he_2) <| jA (jh kZ rfl) <| jA (jb rfl rfl) <| jE <| jB ?_
  by_cases h_5 : ((j : Nat) : Int) < ((l.length : Nat) : Int)
  · have hlt : j < l.length := by omega
    refine jQ (cB (dT h_5)) <| jM <| jB <| jC <| jZ <| jC <| jC <| jF <| jA (jD (v := .slice a l.length c) he_2) <| jA (jD (v := nv j) he_4) ?_
    obtain ⟨hr_6, hr_6b, -⟩ := sees_some hs_a (by omega)
    refine jA (jV (i := j) kZ Tryz.sizeOf99 hr_6 hr_6b rfl rfl (by omega)) <| jA (jX fo99_0 hr_6 rfl) <| jP (ji (v := iv (((markG mkA 3 l k).getD j a0_).code)) hs_a nM rfl kE (flat_at encA_len a0_ (markG mkA 3 l k) j 0 (by rw [markG_len]; omega) (by decide))) <| jA (jD (v := iv ((k + 3 * j : Nat) : Int)) he_3) <| jA (jf rfl rfl) <| jE <| jB ?_
    by_cases h_7 : (((markG mkA 3 l k).getD j a0_).code) = ((k + 3 * j : Nat) : Int)
    · refine jL (cB (cN (dT h_7))) <| jM <| jB <| jC <| jF <| jA (jD (v := iv ((k + 3 * j : Nat) : Int)) he_3) <| jA (jT (c := (((k + 3 * j) + 1 : Nat) : Int)) rfl rfl (wr (by omega))) <| jA (jG (v := iv (((k + 3 * j) + 1 : Nat) : Int)) rfl) <| jE <| jB ?_
      refine jC <| jC <| jF <| jA (jD (v := .slice a l.length c) he_2) <| jA (jD (v := nv j) he_4) <| jA (jV (i := j) kZ Tryz.sizeOf99 hr_6 hr_6b rfl rfl (by omega)) <| jA (jX fo99_1 hr_6 rfl) <| jP (ji (v := iv (((markG mkA 3 l k).getD j a0_).n)) hs_a nM rfl kE (flat_at encA_len a0_ (markG mkA 3 l k) j 1 (by rw [markG_len]; omega) (by decide))) <| jA (jD (v := iv (((k + 3 * j) + 1 : Nat) : Int)) rfl) <| jA (jf rfl rfl) ?_
      refine jE <| jB ?_
      by_cases h_8 : (((markG mkA 3 l k).getD j a0_).n) = (((k + 3 * j) + 1 : Nat) : Int)
      · refine jL (cB (cN (dT h_8))) <| jM <| jB <| jC <| jF <| jA (jD (v := iv (((k + 3 * j) + 1 : Nat) : Int)) rfl) <| jA (jT (c := ((((k + 3 * j) + 1) + 1 : Nat) : Int)) rfl rfl (wr (by omega))) <| jA (jG (v := iv ((((k + 3 * j) + 1) + 1 : Nat) : Int)) rfl) <| jE <| jB ?_
        refine jC <| jC <| jv [] 7 mixed (by simp) <| jW 0 rfl (jD (v := .slice a l.length c) he_2) <| jW 1 rfl (jD (v := nv j) he_4) <| jW 2 rfl (jV (i := j) kZ Tryz.sizeOf99 hr_6 hr_6b rfl rfl (by omega)) <| jW 3 rfl (jX fo99_2 hr_6 rfl) <| jw 4 rfl (ji (v := str (((markG mkA 3 l k).getD j a0_).text)) hs_a nM rfl kH (flat_at encA_len a0_ (markG mkA 3 l k) j 2 (by rw [markG_len]; omega) (by decide))) <| jW 5 rfl (jD (v := iv ((((k + 3 * j) + 1) + 1 : Nat) : Int)) rfl) <| jx (i := 6) ?_
        refine jz rfl rfl (jR [] Tryz.call37 rfl (C_markText (((k + 3 * j) + 1) + 1) (by omega) (by omega)) rfl (fun _ _ => trivial)) ?_
        rintro _ _ ⟨_, ⟨rfl, rfl⟩, rfl⟩
        refine ⟨(fun _ h => by cases h), ?_⟩
        refine jW 7 rfl (kA rfl rfl) <| kB (by kernel_rfl) <| jB ?_
        by_cases h_9 : (((markG mkA 3 l k).getD j a0_).text) = (mt (((k + 3 * j) + 1) + 1))
        · refine jL (cB (cN (dT h_9))) <| jM <| jB <| jF <| jA (jD (v := iv ((((k + 3 * j) + 1) + 1 : Nat) : Int)) rfl) <| jA (jT (c := (((((k + 3 * j) + 1) + 1) + 1 : Nat) : Int)) rfl rfl (wr (by omega))) <| jA (jG (v := iv (((((k + 3 * j) + 1) + 1) + 1 : Nat) : Int)) rfl) <| jE <| jk <| jB ?_
          refine jF <| jA (jD (v := nv j) he_4) <| jA (jT (c := ((j + 1 : Nat) : Int)) rfl rfl (wr (by omega))) <| jA (jG (v := iv ((j + 1 : Nat) : Int)) rfl) <| jE ?_
          refine jl (l.length - (j + 1)) (by omega) ⟨j + 1, by omega, he_2, rfl, rfl, rfl, rfl⟩
        exfalso; rw [markG_get mkA 3 a0_ l k j hlt] at h_9; first | omega | exact h_9 rfl
      exfalso; rw [markG_get mkA 3 a0_ l k j hlt] at h_8; first | omega | exact h_8 rfl
    exfalso; rw [markG_get mkA 3 a0_ l k j hlt] at h_7; first | omega | exact h_7 rfl
  refine jL (cB (dF h_5)) <| jm <| jY <| jY <| jn <| jB <| jC <| jF <| jA (jD (v := iv ((k + 3 * j : Nat) : Int)) he_3) <| jA (jG (v := iv ((k + 3 * j : Nat) : Int)) rfl) ?_
  refine jE <| jB <| jK <| jN (.inl rfl) rfl (jJ (v := iv ((k + 3 * j : Nat) : Int)) rfl) (List.nil_sublist _) ?_
  exact ⟨by rw [show j = l.length by omega], rfl⟩

theorem C_eqStep (a b : SP) :
    Ct Tryz.prog 76 [.agg #[.int .i64 a.proc, .int .i64 a.call.kind, str a.call.name, str a.call.to_, .int .i64 a.call.a, .int .i64 a.call.b, str a.call.text], .agg #[.int .i64 b.proc, .int .i64 b.call.kind, str b.call.name, str b.call.to_, .int .i64 b.call.a, .int .i64 b.call.b, str b.call.text]] [] (fun _ => True) (fun v A' => v = .bool (decide (a = b)) ∧ A' = []) := by
  refine Ct.intro Tryz.func76 rfl Tryz.ntmps76 (lb rfl) fun w0 hpre => ?_
  refine jC <| jF ?_
  refine jI rfl (jp (cs := [iv a.proc, iv a.call.kind, str a.call.name, str a.call.to_, iv a.call.a, iv a.call.b, str a.call.text]) rfl rfl) ?_
  rintro _ _ ⟨b_1, rfl, rfl⟩
  refine jI rfl (jp (cs := [iv b.proc, iv b.call.kind, str b.call.name, str b.call.to_, iv b.call.a, iv b.call.b, str b.call.text]) rfl rfl) ?_
  rintro _ _ ⟨b_2, rfl, rfl⟩
  refine jA (jG (v := .bool false) rfl) <| jE <| jB <| jC <| jC <| jF <| jA (jS fo101_0 rfl) <| jP (jU 1 (v := iv a.proc) rfl rfl kE rfl) <| jA (jS fo101_0 rfl) <| jP (jU 0 (v := iv b.proc) rfl rfl kE rfl) ?_
  refine jA (jf rfl rfl) <| jE <| jB ?_
  by_cases h_3 : a.proc = b.proc
  · refine jL (cB (cN (dT h_3))) <| jM <| jB <| jC <| jC <| jF <| jA (jS fo101_1 rfl) <| jP (jr 1 (vs := [iv a.call.kind, str a.call.name, str a.call.to_, iv a.call.a, iv a.call.b, str a.call.text]) rfl rfl Tryz.isAgg97 kR rfl rfl) <| jA (jS fo101_1 rfl) <| jP (jr 0 (vs := [iv b.call.kind, str b.call.name, str b.call.to_, iv b.call.a, iv b.call.b, str b.call.text]) rfl rfl Tryz.isAgg97 kR rfl rfl) ?_
    refine jI rfl (jR [] Tryz.call74 rfl (C_eqCall a.call b.call) rfl (fun _ _ => trivial)) ?_
    rintro _ _ ⟨_, ⟨rfl, rfl⟩, rfl⟩
    refine jA (jq rfl) <| jE <| jB ?_
    by_cases h_4 : a.call = b.call
    · refine jL (cB (cN (dT h_4))) <| jM <| jB <| jC <| jF <| jA (jG (v := .bool true) rfl) <| jE <| jB <| jK <| jN (.inl rfl) rfl (jJ (v := .bool true) rfl) (List.nil_sublist _) ?_
      refine ⟨cB ?_, rfl⟩
      exact (dT (by cases a; cases b; simp_all)).symm
    refine jQ (cB (cN (dF h_4))) <| jC <| jF <| jA (jG (v := .bool false) rfl) <| jE <| jB <| jK <| jO <| jN (.inl rfl) rfl (jJ (v := .bool false) rfl) (List.nil_sublist _) ?_
    refine ⟨cB ?_, rfl⟩
    exact (dF (fun h_ => by subst h_; simp_all)).symm
  refine jQ (cB (cN (dF h_3))) <| jC <| jF <| jA (jG (v := .bool false) rfl) <| jE <| jB <| jK <| jO <| jN (.inl rfl) rfl (jJ (v := .bool false) rfl) (List.nil_sublist _) ?_
  refine ⟨cB ?_, rfl⟩
  exact (dF (fun h_ => by subst h_; simp_all)).symm

theorem C_eqStepS (a b : Option Addr) (c c' : Nat) (s t : List SP) (hn : s.length ≤ 9223372036854775807) :
    Ct Tryz.prog 61 [.slice a s.length c, .slice b t.length c'] [] (fun w => Sees w (.slice a s.length c) 7 s.length (s.flatMap encP) ∧ Sees w (.slice b t.length c') 7 t.length (t.flatMap encP)) (fun r A' => r = .bool (decide (s = t)) ∧ A' = []) := by
  refine Ct.intro Tryz.func61 rfl Tryz.ntmps61 (lb rfl) fun w0 hpre => ?_
  have hs_a : Sees w0 _ _ _ _ := hpre.1
  have hs_b : Sees w0 _ _ _ _ := hpre.2
  refine jC <| jF <| jA (jG (v := .bool false) rfl) <| jE <| jB <| jC <| jC <| jF <| jA (jD (v := .slice a s.length c) rfl) <| jA (jh kO rfl) ?_
  refine jA (jD (v := .slice b t.length c') rfl) <| jA (jh kO rfl) <| jA (jf rfl rfl) <| jE <| jB ?_
  by_cases h_1 : ((s.length : Nat) : Int) = ((t.length : Nat) : Int)
  · have hlen := h_1
    refine jL (cB (cN (dT h_1))) <| jM <| jB <| jC <| jC <| jF <| jA (jG (v := iv 0) rfl) <| jE <| jB <| jZ ?_
    refine jo (fun k_ e_ L_ => ∃ j : Nat, (j ≤ s.length) ∧ (s.take j = t.take j) ∧ (s.length = t.length) ∧ e_ 0 = .slice a s.length c ∧ e_ 1 = .slice b t.length c' ∧ e_ 5 = nv j ∧ L_ = [] ∧ k_ = s.length - j) _ ⟨0, by omega, rfl, by omega, rfl, rfl, rfl, rfl, rfl⟩ ?_
    rintro _ e_2 _ ⟨j, hj, hE, hln, he_3, he_4, he_5, rfl, rfl⟩
    refine jC <| jC <| jF <| jA (jD (v := nv j) he_5) <| jA (jD (v := .slice a s.length c) he_3) <| jA (jh kO rfl) <| jA (jb rfl rfl) <| jE <| jB ?_
    by_cases h_6 : ((j : Nat) : Int) < ((s.length : Nat) : Int)
    · have hlt : j < s.length := by omega
      refine jQ (cB (dT h_6)) <| jM <| jB <| jC <| jZ <| jC <| jv [] 1000 mixed (by simp) <| jW 0 rfl (jD (v := .slice a s.length c) he_3) <| jW 1 rfl (jD (v := nv j) he_5) ?_
      obtain ⟨hr_7, hr_7b, -⟩ := sees_some hs_a (by omega)
      refine jW 2 rfl (jV (i := j) kO kS hr_7 hr_7b rfl rfl (by omega)) <| jw 3 rfl (LO.loadSK (vs := [iv ((s.getD j p0_).proc), iv ((s.getD j p0_).call.kind), str ((s.getD j p0_).call.name), str ((s.getD j p0_).call.to_), iv ((s.getD j p0_).call.a), iv ((s.getD j p0_).call.b), str ((s.getD j p0_).call.text)]) hs_a nM rfl Tryz.isAgg101 kS (flat_take encP_len p0_ s j (by omega)) rfl (by decide)) <| jW 4 rfl (jD (v := .slice b t.length c') he_4) <| jW 5 rfl (jD (v := nv j) he_5) ?_
      obtain ⟨hr_8, hr_8b, -⟩ := sees_some hs_b (by omega)
      refine jW 6 rfl (jV (i := j) kO kS hr_8 hr_8b rfl rfl (by omega)) <| jw 7 rfl (LO.loadSK (vs := [iv ((t.getD j p0_).proc), iv ((t.getD j p0_).call.kind), str ((t.getD j p0_).call.name), str ((t.getD j p0_).call.to_), iv ((t.getD j p0_).call.a), iv ((t.getD j p0_).call.b), str ((t.getD j p0_).call.text)]) hs_b nM rfl Tryz.isAgg101 kS (flat_take encP_len p0_ t j (by omega)) rfl (by decide)) <| jx (i := 8) ?_
      refine jz rfl rfl (jR [] Tryz.call76 rfl (C_eqStep (⟨(s.getD j p0_).proc, (s.getD j p0_).call⟩ : SP) (⟨(t.getD j p0_).proc, (t.getD j p0_).call⟩ : SP)) rfl (fun _ _ => trivial)) ?_
      rintro _ _ ⟨_, ⟨rfl, rfl⟩, rfl⟩
      refine ⟨(fun _ h => by cases h), ?_⟩
      refine jW 9 rfl (jq rfl) <| kB (by kernel_rfl) <| jB ?_
      by_cases h_9 : (⟨(s.getD j p0_).proc, (s.getD j p0_).call⟩ : SP) = (⟨(t.getD j p0_).proc, (t.getD j p0_).call⟩ : SP)
      · have heq := h_9
        refine jL (cB (cN (dT h_9))) <| jM <| jk <| jB <| jF <| jA (jD (v := nv j) he_5) <| jA (jT (c := ((j + 1 : Nat) : Int)) rfl rfl (wr (by omega))) <| jA (jG (v := iv ((j + 1 : Nat) : Int)) rfl) <| jE ?_
        refine jl (s.length - (j + 1)) (by omega) ⟨j + 1, by omega, take_succ_eq p0_ hE hlt hln heq, hln, he_3, he_4, rfl, rfl, rfl⟩
      have hne := h_9
      refine jQ (cB (cN (dF h_9))) <| jC <| jF <| jA (jG (v := .bool false) rfl) <| jE <| jB <| jK <| je <| jO <| jO ?_
      refine je <| jO <| jN (.inl rfl) rfl (jJ (v := .bool false) rfl) (List.nil_sublist _) ?_
      refine ⟨?_, rfl⟩
      rw [dF (fun h => hne (by rw [h]))]
    refine jL (cB (dF h_6)) <| jm <| jY <| jY <| jn <| jB <| jC <| jF <| jA (jG (v := .bool true) rfl) <| jE ?_
    refine jB <| jK <| jN (.inl rfl) rfl (jJ (v := .bool true) rfl) (List.nil_sublist _) ?_
    refine ⟨?_, rfl⟩
    rw [dT (take_all_eq hE (by omega) (by omega))]
  have hlen := h_1
  refine jQ (cB (cN (dF h_1))) <| jC <| jF <| jA (jG (v := .bool false) rfl) <| jE <| jB <| jK <| jO <| jN (.inl rfl) rfl (jJ (v := .bool false) rfl) (List.nil_sublist _) ?_
  refine ⟨?_, rfl⟩
  rw [dF (fun h => by rw [h] at hlen; omega)]

theorem C_markStepS (a : Option Addr) (c : Nat) (l : List SP) (k : Nat) (h0 : 0 < k) (h1 : k + 7 * l.length ≤ 100000000) :
    Ct Tryz.prog 42 [.slice a l.length c, .int .i64 ((k : Nat) : Int)] [Res.row (.slice a l.length c) 101 7 l.length (l.flatMap encP)] (fun _ => True) (fun v A' => v = .int .i64 ((k + 7 * l.length : Nat) : Int) ∧ A' = [.row (.slice a l.length c) 101 7 l.length ((markG mkP 7 l k).flatMap encP)]) := by
  refine Ct.intro Tryz.func42 rfl Tryz.ntmps42 (lb rfl) fun w0 hpre => ?_
  refine jC <| jF <| jA (jG (v := iv 0) rfl) <| jE <| jB <| jC <| jC <| jF <| jA (jG (v := iv 0) rfl) <| jE ?_
  refine jB <| jZ <| jo (fun k_ e_ L_ => ∃ j : Nat, (j ≤ l.length) ∧ e_ 0 = .slice a l.length c ∧ e_ 1 = iv ((k + 7 * j : Nat) : Int) ∧ e_ 4 = iv 0 ∧ e_ 5 = nv j ∧ L_ = [Res.row (.slice a l.length c) 101 7 l.length (((markG mkP 7 l k).take j ++ l.drop j).flatMap encP)] ∧ k_ = l.length - j) _ ⟨0, by omega, rfl, rfl, rfl, rfl, rfl, rfl⟩ ?_
  rintro _ e_1 _ ⟨j, hj, he_2, he_3, he_4, he_5, rfl, rfl⟩
  refine jC <| jC <| jF <| jA (jD (v := nv j) he_5) <| jA (jD (v := .slice a l.length c) he_2) <| jA (jh kO rfl) <| jA (jb rfl rfl) <| jE <| jB ?_
  by_cases h_6 : ((j : Nat) : Int) < ((l.length : Nat) : Int)
  · have hlt : j < l.length := by omega
    refine jQ (cB (dT h_6)) <| jM <| jB <| jC <| jZ <| jC <| jF <| jA (jD (v := .slice a l.length c) he_2) <| jA (jD (v := nv j) he_5) <| jA (jD (v := iv ((k + 7 * j : Nat) : Int)) he_3) ?_
    refine JL.facts fun hst => ?_
    obtain ⟨hr_7, hr_7b, -⟩ := row_some 0 rfl (by omega) hst
    refine jA (jV (i := j) kO kS hr_7 hr_7b rfl rfl (by omega)) <| jA (jX fo101_0 hr_7 rfl) ?_
    refine jI rfl (ju 0 (vs := [iv ((k + 7 * j : Nat) : Int)]) (cs' := (((markG mkP 7 l k).take j ++ l.drop j).set j (⟨((k + 7 * j : Nat) : Int), (((markG mkP 7 l k).take j ++ l.drop j).getD j p0_).call⟩ : SP)).flatMap encP) rfl rfl rfl rfl kK rfl rfl (by decide) (by rw [flat_length encP_len]; (try rw [List.length_set]); rw [markG_lenj mkP 7 hj]; omega) (flat_set1 encP_len p0_ (f := 0) (y := (⟨((k + 7 * j : Nat) : Int), (((markG mkP 7 l k).take j ++ l.drop j).getD j p0_).call⟩ : SP)) (by rw [markG_lenj mkP 7 hj]; omega) (by decide) rfl)) ?_
    rintro _ _ rfl
    refine jE <| jB <| jC <| jF <| jA (jD (v := iv ((k + 7 * j : Nat) : Int)) he_3) <| jA (jT (c := (((k + 7 * j) + 1 : Nat) : Int)) rfl rfl (wr (by omega))) <| jA (jG (v := iv (((k + 7 * j) + 1 : Nat) : Int)) rfl) <| jE <| jB <| jC ?_
    refine jF <| jA (jD (v := .slice a l.length c) he_2) <| jA (jD (v := nv j) he_5) <| jA (jD (v := iv (((k + 7 * j) + 1 : Nat) : Int)) rfl) <| jA (jV (i := j) kO kS hr_7 hr_7b rfl rfl (by omega)) <| jA (jX fo101_1 hr_7 rfl) <| jA (jX fo97_0 hr_7 rfl) ?_
    refine jI rfl (ju 0 (vs := [iv (((k + 7 * j) + 1 : Nat) : Int)]) (cs' := (((markG mkP 7 l k).take j ++ l.drop j).set j (⟨((k + 7 * j : Nat) : Int), (⟨(((k + 7 * j) + 1 : Nat) : Int), (((markG mkP 7 l k).take j ++ l.drop j).getD j p0_).call.name, (((markG mkP 7 l k).take j ++ l.drop j).getD j p0_).call.to_, (((markG mkP 7 l k).take j ++ l.drop j).getD j p0_).call.a, (((markG mkP 7 l k).take j ++ l.drop j).getD j p0_).call.b, (((markG mkP 7 l k).take j ++ l.drop j).getD j p0_).call.text⟩ : CL)⟩ : SP)).flatMap encP) rfl rfl rfl rfl kK rfl rfl (by decide) (by rw [flat_length encP_len]; (try rw [List.length_set]); rw [markG_lenj mkP 7 hj]; omega) (flat_set1s encP_len p0_ (f := 1) (x := (⟨((k + 7 * j : Nat) : Int), (((markG mkP 7 l k).take j ++ l.drop j).getD j p0_).call⟩ : SP)) (y := (⟨((k + 7 * j : Nat) : Int), (⟨(((k + 7 * j) + 1 : Nat) : Int), (((markG mkP 7 l k).take j ++ l.drop j).getD j p0_).call.name, (((markG mkP 7 l k).take j ++ l.drop j).getD j p0_).call.to_, (((markG mkP 7 l k).take j ++ l.drop j).getD j p0_).call.a, (((markG mkP 7 l k).take j ++ l.drop j).getD j p0_).call.b, (((markG mkP 7 l k).take j ++ l.drop j).getD j p0_).call.text⟩ : CL)⟩ : SP)) (by rw [markG_lenj mkP 7 hj]; omega) (by decide) rfl)) ?_
    rintro _ _ rfl
    refine jE <| jB <| jC <| jF <| jA (jD (v := iv (((k + 7 * j) + 1 : Nat) : Int)) rfl) <| jA (jT (c := ((((k + 7 * j) + 1) + 1 : Nat) : Int)) rfl rfl (wr (by omega))) <| jA (jG (v := iv ((((k + 7 * j) + 1) + 1 : Nat) : Int)) rfl) <| jE <| jB <| jC ?_
    refine jF <| jA (jD (v := .slice a l.length c) he_2) <| jA (jD (v := nv j) he_5) <| jA (jD (v := iv ((((k + 7 * j) + 1) + 1 : Nat) : Int)) rfl) ?_
    refine jI rfl (jR [] Tryz.call37 rfl (C_markText (((k + 7 * j) + 1) + 1) (by omega) (by omega)) rfl (fun _ _ => trivial)) ?_
    rintro _ _ ⟨_, ⟨rfl, rfl⟩, rfl⟩
    refine jA (jV (i := j) kO kS hr_7 hr_7b rfl rfl (by omega)) <| jA (jX fo101_1 hr_7 rfl) <| jA (jX fo97_1 hr_7 rfl) ?_
    refine jI rfl (ju 0 (vs := [str (mt (((k + 7 * j) + 1) + 1))]) (cs' := (((markG mkP 7 l k).take j ++ l.drop j).set j (⟨((k + 7 * j : Nat) : Int), (⟨(((k + 7 * j) + 1 : Nat) : Int), mt (((k + 7 * j) + 1) + 1), (((markG mkP 7 l k).take j ++ l.drop j).getD j p0_).call.to_, (((markG mkP 7 l k).take j ++ l.drop j).getD j p0_).call.a, (((markG mkP 7 l k).take j ++ l.drop j).getD j p0_).call.b, (((markG mkP 7 l k).take j ++ l.drop j).getD j p0_).call.text⟩ : CL)⟩ : SP)).flatMap encP) rfl rfl rfl rfl kI rfl rfl (by decide) (by rw [flat_length encP_len]; (try rw [List.length_set]); rw [markG_lenj mkP 7 hj]; omega) (flat_set1s encP_len p0_ (f := 2) (x := (⟨((k + 7 * j : Nat) : Int), (⟨(((k + 7 * j) + 1 : Nat) : Int), (((markG mkP 7 l k).take j ++ l.drop j).getD j p0_).call.name, (((markG mkP 7 l k).take j ++ l.drop j).getD j p0_).call.to_, (((markG mkP 7 l k).take j ++ l.drop j).getD j p0_).call.a, (((markG mkP 7 l k).take j ++ l.drop j).getD j p0_).call.b, (((markG mkP 7 l k).take j ++ l.drop j).getD j p0_).call.text⟩ : CL)⟩ : SP)) (y := (⟨((k + 7 * j : Nat) : Int), (⟨(((k + 7 * j) + 1 : Nat) : Int), mt (((k + 7 * j) + 1) + 1), (((markG mkP 7 l k).take j ++ l.drop j).getD j p0_).call.to_, (((markG mkP 7 l k).take j ++ l.drop j).getD j p0_).call.a, (((markG mkP 7 l k).take j ++ l.drop j).getD j p0_).call.b, (((markG mkP 7 l k).take j ++ l.drop j).getD j p0_).call.text⟩ : CL)⟩ : SP)) (by rw [markG_lenj mkP 7 hj]; omega) (by decide) rfl)) ?_
    rintro _ _ rfl
    refine jE <| jB <| jC <| jF <| jA (jD (v := iv ((((k + 7 * j) + 1) + 1 : Nat) : Int)) rfl) <| jA (jT (c := (((((k + 7 * j) + 1) + 1) + 1 : Nat) : Int)) rfl rfl (wr (by omega))) <| jA (jG (v := iv (((((k + 7 * j) + 1) + 1) + 1 : Nat) : Int)) rfl) <| jE <| jB <| jC ?_
    refine jF <| jA (jD (v := .slice a l.length c) he_2) <| jA (jD (v := nv j) he_5) <| jA (jD (v := iv (((((k + 7 * j) + 1) + 1) + 1 : Nat) : Int)) rfl) ?_
    refine jI rfl (jR [] Tryz.call37 rfl (C_markText ((((k + 7 * j) + 1) + 1) + 1) (by omega) (by omega)) rfl (fun _ _ => trivial)) ?_
    rintro _ _ ⟨_, ⟨rfl, rfl⟩, rfl⟩
    refine jA (jV (i := j) kO kS hr_7 hr_7b rfl rfl (by omega)) <| jA (jX fo101_1 hr_7 rfl) <| jA (jX fo97_2 hr_7 rfl) ?_
    refine jI rfl (ju 0 (vs := [str (mt ((((k + 7 * j) + 1) + 1) + 1))]) (cs' := (((markG mkP 7 l k).take j ++ l.drop j).set j (⟨((k + 7 * j : Nat) : Int), (⟨(((k + 7 * j) + 1 : Nat) : Int), mt (((k + 7 * j) + 1) + 1), mt ((((k + 7 * j) + 1) + 1) + 1), (((markG mkP 7 l k).take j ++ l.drop j).getD j p0_).call.a, (((markG mkP 7 l k).take j ++ l.drop j).getD j p0_).call.b, (((markG mkP 7 l k).take j ++ l.drop j).getD j p0_).call.text⟩ : CL)⟩ : SP)).flatMap encP) rfl rfl rfl rfl kI rfl rfl (by decide) (by rw [flat_length encP_len]; (try rw [List.length_set]); rw [markG_lenj mkP 7 hj]; omega) (flat_set1s encP_len p0_ (f := 3) (x := (⟨((k + 7 * j : Nat) : Int), (⟨(((k + 7 * j) + 1 : Nat) : Int), mt (((k + 7 * j) + 1) + 1), (((markG mkP 7 l k).take j ++ l.drop j).getD j p0_).call.to_, (((markG mkP 7 l k).take j ++ l.drop j).getD j p0_).call.a, (((markG mkP 7 l k).take j ++ l.drop j).getD j p0_).call.b, (((markG mkP 7 l k).take j ++ l.drop j).getD j p0_).call.text⟩ : CL)⟩ : SP)) (y := (⟨((k + 7 * j : Nat) : Int), (⟨(((k + 7 * j) + 1 : Nat) : Int), mt (((k + 7 * j) + 1) + 1), mt ((((k + 7 * j) + 1) + 1) + 1), (((markG mkP 7 l k).take j ++ l.drop j).getD j p0_).call.a, (((markG mkP 7 l k).take j ++ l.drop j).getD j p0_).call.b, (((markG mkP 7 l k).take j ++ l.drop j).getD j p0_).call.text⟩ : CL)⟩ : SP)) (by rw [markG_lenj mkP 7 hj]; omega) (by decide) rfl)) ?_
    rintro _ _ rfl
    refine jE <| jB <| jC <| jF <| jA (jD (v := iv (((((k + 7 * j) + 1) + 1) + 1 : Nat) : Int)) rfl) <| jA (jT (c := ((((((k + 7 * j) + 1) + 1) + 1) + 1 : Nat) : Int)) rfl rfl (wr (by omega))) <| jA (jG (v := iv ((((((k + 7 * j) + 1) + 1) + 1) + 1 : Nat) : Int)) rfl) <| jE <| jB <| jC ?_
    refine jF <| jA (jD (v := .slice a l.length c) he_2) <| jA (jD (v := nv j) he_5) <| jA (jD (v := iv ((((((k + 7 * j) + 1) + 1) + 1) + 1 : Nat) : Int)) rfl) <| jA (jV (i := j) kO kS hr_7 hr_7b rfl rfl (by omega)) <| jA (jX fo101_1 hr_7 rfl) <| jA (jX fo97_3 hr_7 rfl) ?_
    refine jI rfl (ju 0 (vs := [iv ((((((k + 7 * j) + 1) + 1) + 1) + 1 : Nat) : Int)]) (cs' := (((markG mkP 7 l k).take j ++ l.drop j).set j (⟨((k + 7 * j : Nat) : Int), (⟨(((k + 7 * j) + 1 : Nat) : Int), mt (((k + 7 * j) + 1) + 1), mt ((((k + 7 * j) + 1) + 1) + 1), ((((((k + 7 * j) + 1) + 1) + 1) + 1 : Nat) : Int), (((markG mkP 7 l k).take j ++ l.drop j).getD j p0_).call.b, (((markG mkP 7 l k).take j ++ l.drop j).getD j p0_).call.text⟩ : CL)⟩ : SP)).flatMap encP) rfl rfl rfl rfl kK rfl rfl (by decide) (by rw [flat_length encP_len]; (try rw [List.length_set]); rw [markG_lenj mkP 7 hj]; omega) (flat_set1s encP_len p0_ (f := 4) (x := (⟨((k + 7 * j : Nat) : Int), (⟨(((k + 7 * j) + 1 : Nat) : Int), mt (((k + 7 * j) + 1) + 1), mt ((((k + 7 * j) + 1) + 1) + 1), (((markG mkP 7 l k).take j ++ l.drop j).getD j p0_).call.a, (((markG mkP 7 l k).take j ++ l.drop j).getD j p0_).call.b, (((markG mkP 7 l k).take j ++ l.drop j).getD j p0_).call.text⟩ : CL)⟩ : SP)) (y := (⟨((k + 7 * j : Nat) : Int), (⟨(((k + 7 * j) + 1 : Nat) : Int), mt (((k + 7 * j) + 1) + 1), mt ((((k + 7 * j) + 1) + 1) + 1), ((((((k + 7 * j) + 1) + 1) + 1) + 1 : Nat) : Int), (((markG mkP 7 l k).take j ++ l.drop j).getD j p0_).call.b, (((markG mkP 7 l k).take j ++ l.drop j).getD j p0_).call.text⟩ : CL)⟩ : SP)) (by rw [markG_lenj mkP 7 hj]; omega) (by decide) rfl)) ?_
    rintro _ _ rfl
    refine jE <| jB <| jC <| jF <| jA (jD (v := iv ((((((k + 7 * j) + 1) + 1) + 1) + 1 : Nat) : Int)) rfl) <| jA (jT (c := (((((((k + 7 * j) + 1) + 1) + 1) + 1) + 1 : Nat) : Int)) rfl rfl (wr (by omega))) <| jA (jG (v := iv (((((((k + 7 * j) + 1) + 1) + 1) + 1) + 1 : Nat) : Int)) rfl) <| jE <| jB <| jC ?_
    refine jF <| jA (jD (v := .slice a l.length c) he_2) <| jA (jD (v := nv j) he_5) <| jA (jD (v := iv (((((((k + 7 * j) + 1) + 1) + 1) + 1) + 1 : Nat) : Int)) rfl) <| jA (jV (i := j) kO kS hr_7 hr_7b rfl rfl (by omega)) <| jA (jX fo101_1 hr_7 rfl) <| jA (jX fo97_4 hr_7 rfl) ?_
    refine jI rfl (ju 0 (vs := [iv (((((((k + 7 * j) + 1) + 1) + 1) + 1) + 1 : Nat) : Int)]) (cs' := (((markG mkP 7 l k).take j ++ l.drop j).set j (⟨((k + 7 * j : Nat) : Int), (⟨(((k + 7 * j) + 1 : Nat) : Int), mt (((k + 7 * j) + 1) + 1), mt ((((k + 7 * j) + 1) + 1) + 1), ((((((k + 7 * j) + 1) + 1) + 1) + 1 : Nat) : Int), (((((((k + 7 * j) + 1) + 1) + 1) + 1) + 1 : Nat) : Int), (((markG mkP 7 l k).take j ++ l.drop j).getD j p0_).call.text⟩ : CL)⟩ : SP)).flatMap encP) rfl rfl rfl rfl kK rfl rfl (by decide) (by rw [flat_length encP_len]; (try rw [List.length_set]); rw [markG_lenj mkP 7 hj]; omega) (flat_set1s encP_len p0_ (f := 5) (x := (⟨((k + 7 * j : Nat) : Int), (⟨(((k + 7 * j) + 1 : Nat) : Int), mt (((k + 7 * j) + 1) + 1), mt ((((k + 7 * j) + 1) + 1) + 1), ((((((k + 7 * j) + 1) + 1) + 1) + 1 : Nat) : Int), (((markG mkP 7 l k).take j ++ l.drop j).getD j p0_).call.b, (((markG mkP 7 l k).take j ++ l.drop j).getD j p0_).call.text⟩ : CL)⟩ : SP)) (y := (⟨((k + 7 * j : Nat) : Int), (⟨(((k + 7 * j) + 1 : Nat) : Int), mt (((k + 7 * j) + 1) + 1), mt ((((k + 7 * j) + 1) + 1) + 1), ((((((k + 7 * j) + 1) + 1) + 1) + 1 : Nat) : Int), (((((((k + 7 * j) + 1) + 1) + 1) + 1) + 1 : Nat) : Int), (((markG mkP 7 l k).take j ++ l.drop j).getD j p0_).call.text⟩ : CL)⟩ : SP)) (by rw [markG_lenj mkP 7 hj]; omega) (by decide) rfl)) ?_
    rintro _ _ rfl
    refine jE <| jB <| jC <| jF <| jA (jD (v := iv (((((((k + 7 * j) + 1) + 1) + 1) + 1) + 1 : Nat) : Int)) rfl) <| jA (jT (c := ((((((((k + 7 * j) + 1) + 1) + 1) + 1) + 1) + 1 : Nat) : Int)) rfl rfl (wr (by omega))) <| jA (jG (v := iv ((((((((k + 7 * j) + 1) + 1) + 1) + 1) + 1) + 1 : Nat) : Int)) rfl) <| jE <| jB <| jC ?_
    refine jF <| jA (jD (v := .slice a l.length c) he_2) <| jA (jD (v := nv j) he_5) <| jA (jD (v := iv ((((((((k + 7 * j) + 1) + 1) + 1) + 1) + 1) + 1 : Nat) : Int)) rfl) ?_
    refine jI rfl (jR [] Tryz.call37 rfl (C_markText (((((((k + 7 * j) + 1) + 1) + 1) + 1) + 1) + 1) (by omega) (by omega)) rfl (fun _ _ => trivial)) ?_
    rintro _ _ ⟨_, ⟨rfl, rfl⟩, rfl⟩
    refine jA (jV (i := j) kO kS hr_7 hr_7b rfl rfl (by omega)) <| jA (jX fo101_1 hr_7 rfl) <| jA (jX fo97_5 hr_7 rfl) ?_
    refine jI rfl (ju 0 (vs := [str (mt (((((((k + 7 * j) + 1) + 1) + 1) + 1) + 1) + 1))]) (cs' := (((markG mkP 7 l k).take j ++ l.drop j).set j (⟨((k + 7 * j : Nat) : Int), (⟨(((k + 7 * j) + 1 : Nat) : Int), mt (((k + 7 * j) + 1) + 1), mt ((((k + 7 * j) + 1) + 1) + 1), ((((((k + 7 * j) + 1) + 1) + 1) + 1 : Nat) : Int), (((((((k + 7 * j) + 1) + 1) + 1) + 1) + 1 : Nat) : Int), mt (((((((k + 7 * j) + 1) + 1) + 1) + 1) + 1) + 1)⟩ : CL)⟩ : SP)).flatMap encP) rfl rfl rfl rfl kI rfl rfl (by decide) (by rw [flat_length encP_len]; (try rw [List.length_set]); rw [markG_lenj mkP 7 hj]; omega) (flat_set1s encP_len p0_ (f := 6) (x := (⟨((k + 7 * j : Nat) : Int), (⟨(((k + 7 * j) + 1 : Nat) : Int), mt (((k + 7 * j) + 1) + 1), mt ((((k + 7 * j) + 1) + 1) + 1), ((((((k + 7 * j) + 1) + 1) + 1) + 1 : Nat) : Int), (((((((k + 7 * j) + 1) + 1) + 1) + 1) + 1 : Nat) : Int), (((markG mkP 7 l k).take j ++ l.drop j).getD j p0_).call.text⟩ : CL)⟩ : SP)) (y := (⟨((k + 7 * j : Nat) : Int), (⟨(((k + 7 * j) + 1 : Nat) : Int), mt (((k + 7 * j) + 1) + 1), mt ((((k + 7 * j) + 1) + 1) + 1), ((((((k + 7 * j) + 1) + 1) + 1) + 1 : Nat) : Int), (((((((k + 7 * j) + 1) + 1) + 1) + 1) + 1 : Nat) : Int), mt (((((((k + 7 * j) + 1) + 1) + 1) + 1) + 1) + 1)⟩ : CL)⟩ : SP)) (by rw [markG_lenj mkP 7 hj]; omega) (by decide) rfl)) ?_
    rintro _ _ rfl
    refine jE <| jB <| jF <| jA (jD (v := iv ((((((((k + 7 * j) + 1) + 1) + 1) + 1) + 1) + 1 : Nat) : Int)) rfl) <| jA (jT (c := (((((((((k + 7 * j) + 1) + 1) + 1) + 1) + 1) + 1) + 1 : Nat) : Int)) rfl rfl (wr (by omega))) <| jA (jG (v := iv (((((((((k + 7 * j) + 1) + 1) + 1) + 1) + 1) + 1) + 1 : Nat) : Int)) rfl) <| jE <| jk <| jB <| jF ?_
    refine jA (jD (v := nv j) he_5) <| jA (jT (c := ((j + 1 : Nat) : Int)) rfl rfl (wr (by omega))) <| jA (jG (v := iv ((j + 1 : Nat) : Int)) rfl) <| jE ?_
    refine jl (l.length - (j + 1)) (by omega) ⟨j + 1, by omega, he_2, rfl, he_4, rfl, (by rw [← markG_step mkP 7 hlt]; rfl), rfl⟩
  refine jL (cB (dF h_6)) <| jm <| jY <| jY <| jn <| jB <| jC <| jF <| jA (jD (v := iv ((k + 7 * j : Nat) : Int)) he_3) <| jA (jG (v := iv ((k + 7 * j : Nat) : Int)) rfl) ?_
  refine jE <| jB <| jK <| jN (.inl rfl) rfl (jJ (v := iv ((k + 7 * j : Nat) : Int)) rfl) (List.Sublist.refl _) ?_
  exact ⟨by rw [show j = l.length by omega], by rw [show j = l.length by omega, List.drop_of_length_le (Nat.le_refl _), List.append_nil, List.take_of_length_le (by rw [markG_len]; exact Nat.le_refl _)]⟩

theorem C_heldStepS (a : Option Addr) (c : Nat) (l : List SP) (k : Nat) (h0 : 0 < k) (h1 : k + 7 * l.length ≤ 100000000) :
    Ct Tryz.prog 47 [.slice a l.length c, .int .i64 ((k : Nat) : Int)] [] (fun w => Sees w (.slice a l.length c) 7 l.length ((markG mkP 7 l k).flatMap encP)) (fun v A' => v = .int .i64 ((k + 7 * l.length : Nat) : Int) ∧ A' = []) := by
  refine Ct.intro Tryz.func47 rfl Tryz.ntmps47 (lb rfl) fun w0 hpre => ?_
  have hs_a : Sees w0 _ _ _ _ := hpre
  refine jC <| jF <| jA (jG (v := iv 0) rfl) <| jE <| jB <| jC <| jC <| jF <| jA (jG (v := iv 0) rfl) <| jE ?_
  refine jB <| jZ <| jo (fun k_ e_ L_ => ∃ j : Nat, (j ≤ l.length) ∧ e_ 0 = .slice a l.length c ∧ e_ 1 = iv ((k + 7 * j : Nat) : Int) ∧ e_ 5 = nv j ∧ L_ = [] ∧ k_ = l.length - j) _ ⟨0, by omega, rfl, rfl, rfl, rfl, rfl⟩ ?_
  rintro _ e_1 _ ⟨j, hj, he_2, he_3, he_4, rfl, rfl⟩
  refine jC <| jC <| jF <| jA (jD (v := nv j) he_4) <| jA (jD (v := .slice a l.length c) he_2) <| jA (jh kO rfl) <| jA (jb rfl rfl) <| jE <| jB ?_
  by_cases h_5 : ((j : Nat) : Int) < ((l.length : Nat) : Int)
  · have hlt : j < l.length := by omega
    refine jQ (cB (dT h_5)) <| jM <| jB <| jC <| jZ <| jC <| jC <| jF <| jA (jD (v := .slice a l.length c) he_2) <| jA (jD (v := nv j) he_4) ?_
    obtain ⟨hr_6, hr_6b, -⟩ := sees_some hs_a (by omega)
    refine jA (jV (i := j) kO kS hr_6 hr_6b rfl rfl (by omega)) <| jA (jX fo101_0 hr_6 rfl) <| jP (ji (v := iv (((markG mkP 7 l k).getD j p0_).proc)) hs_a nM rfl kE (flat_at encP_len p0_ (markG mkP 7 l k) j 0 (by rw [markG_len]; omega) (by decide))) <| jA (jD (v := iv ((k + 7 * j : Nat) : Int)) he_3) <| jA (jf rfl rfl) <| jE <| jB ?_
    by_cases h_7 : (((markG mkP 7 l k).getD j p0_).proc) = ((k + 7 * j : Nat) : Int)
    · refine jL (cB (cN (dT h_7))) <| jM <| jB <| jC <| jF <| jA (jD (v := iv ((k + 7 * j : Nat) : Int)) he_3) <| jA (jT (c := (((k + 7 * j) + 1 : Nat) : Int)) rfl rfl (wr (by omega))) <| jA (jG (v := iv (((k + 7 * j) + 1 : Nat) : Int)) rfl) <| jE <| jB ?_
      refine jC <| jC <| jF <| jA (jD (v := .slice a l.length c) he_2) <| jA (jD (v := nv j) he_4) <| jA (jV (i := j) kO kS hr_6 hr_6b rfl rfl (by omega)) <| jA (jX fo101_1 hr_6 rfl) <| jA (jX fo97_0 hr_6 rfl) <| jP (ji (v := iv (((markG mkP 7 l k).getD j p0_).call.kind)) hs_a nM rfl kE (flat_at encP_len p0_ (markG mkP 7 l k) j 1 (by rw [markG_len]; omega) (by decide))) <| jA (jD (v := iv (((k + 7 * j) + 1 : Nat) : Int)) rfl) ?_
      refine jA (jf rfl rfl) <| jE <| jB ?_
      by_cases h_8 : (((markG mkP 7 l k).getD j p0_).call.kind) = (((k + 7 * j) + 1 : Nat) : Int)
      · refine jL (cB (cN (dT h_8))) <| jM <| jB <| jC <| jF <| jA (jD (v := iv (((k + 7 * j) + 1 : Nat) : Int)) rfl) <| jA (jT (c := ((((k + 7 * j) + 1) + 1 : Nat) : Int)) rfl rfl (wr (by omega))) <| jA (jG (v := iv ((((k + 7 * j) + 1) + 1 : Nat) : Int)) rfl) <| jE <| jB ?_
        refine jC <| jC <| jv [] 8 mixed (by simp) <| jW 0 rfl (jD (v := .slice a l.length c) he_2) <| jW 1 rfl (jD (v := nv j) he_4) <| jW 2 rfl (jV (i := j) kO kS hr_6 hr_6b rfl rfl (by omega)) <| jW 3 rfl (jX fo101_1 hr_6 rfl) <| jW 4 rfl (jX fo97_1 hr_6 rfl) <| jw 5 rfl (ji (v := str (((markG mkP 7 l k).getD j p0_).call.name)) hs_a nM rfl kH (flat_at encP_len p0_ (markG mkP 7 l k) j 2 (by rw [markG_len]; omega) (by decide))) <| jW 6 rfl (jD (v := iv ((((k + 7 * j) + 1) + 1 : Nat) : Int)) rfl) ?_
        refine jx (i := 7) ?_
        refine jz rfl rfl (jR [] Tryz.call37 rfl (C_markText (((k + 7 * j) + 1) + 1) (by omega) (by omega)) rfl (fun _ _ => trivial)) ?_
        rintro _ _ ⟨_, ⟨rfl, rfl⟩, rfl⟩
        refine ⟨(fun _ h => by cases h), ?_⟩
        refine jW 8 rfl (kA rfl rfl) <| kB (by kernel_rfl) <| jB ?_
        by_cases h_9 : (((markG mkP 7 l k).getD j p0_).call.name) = (mt (((k + 7 * j) + 1) + 1))
        · refine jL (cB (cN (dT h_9))) <| jM <| jB <| jC <| jF <| jA (jD (v := iv ((((k + 7 * j) + 1) + 1 : Nat) : Int)) rfl) <| jA (jT (c := (((((k + 7 * j) + 1) + 1) + 1 : Nat) : Int)) rfl rfl (wr (by omega))) <| jA (jG (v := iv (((((k + 7 * j) + 1) + 1) + 1 : Nat) : Int)) rfl) <| jE <| jB ?_
          refine jC <| jC <| jv [] 8 mixed (by simp) <| jW 0 rfl (jD (v := .slice a l.length c) he_2) <| jW 1 rfl (jD (v := nv j) he_4) <| jW 2 rfl (jV (i := j) kO kS hr_6 hr_6b rfl rfl (by omega)) <| jW 3 rfl (jX fo101_1 hr_6 rfl) <| jW 4 rfl (jX fo97_2 hr_6 rfl) <| jw 5 rfl (ji (v := str (((markG mkP 7 l k).getD j p0_).call.to_)) hs_a nM rfl kH (flat_at encP_len p0_ (markG mkP 7 l k) j 3 (by rw [markG_len]; omega) (by decide))) <| jW 6 rfl (jD (v := iv (((((k + 7 * j) + 1) + 1) + 1 : Nat) : Int)) rfl) ?_
          refine jx (i := 7) ?_
          refine jz rfl rfl (jR [] Tryz.call37 rfl (C_markText ((((k + 7 * j) + 1) + 1) + 1) (by omega) (by omega)) rfl (fun _ _ => trivial)) ?_
          rintro _ _ ⟨_, ⟨rfl, rfl⟩, rfl⟩
          refine ⟨(fun _ h => by cases h), ?_⟩
          refine jW 8 rfl (kA rfl rfl) <| kB (by kernel_rfl) <| jB ?_
          by_cases h_10 : (((markG mkP 7 l k).getD j p0_).call.to_) = (mt ((((k + 7 * j) + 1) + 1) + 1))
          · refine jL (cB (cN (dT h_10))) <| jM <| jB <| jC <| jF <| jA (jD (v := iv (((((k + 7 * j) + 1) + 1) + 1 : Nat) : Int)) rfl) <| jA (jT (c := ((((((k + 7 * j) + 1) + 1) + 1) + 1 : Nat) : Int)) rfl rfl (wr (by omega))) <| jA (jG (v := iv ((((((k + 7 * j) + 1) + 1) + 1) + 1 : Nat) : Int)) rfl) <| jE <| jB ?_
            refine jC <| jC <| jF <| jA (jD (v := .slice a l.length c) he_2) <| jA (jD (v := nv j) he_4) <| jA (jV (i := j) kO kS hr_6 hr_6b rfl rfl (by omega)) <| jA (jX fo101_1 hr_6 rfl) <| jA (jX fo97_3 hr_6 rfl) <| jP (ji (v := iv (((markG mkP 7 l k).getD j p0_).call.a)) hs_a nM rfl kE (flat_at encP_len p0_ (markG mkP 7 l k) j 4 (by rw [markG_len]; omega) (by decide))) <| jA (jD (v := iv ((((((k + 7 * j) + 1) + 1) + 1) + 1 : Nat) : Int)) rfl) ?_
            refine jA (jf rfl rfl) <| jE <| jB ?_
            by_cases h_11 : (((markG mkP 7 l k).getD j p0_).call.a) = ((((((k + 7 * j) + 1) + 1) + 1) + 1 : Nat) : Int)
            · refine jL (cB (cN (dT h_11))) <| jM <| jB <| jC <| jF <| jA (jD (v := iv ((((((k + 7 * j) + 1) + 1) + 1) + 1 : Nat) : Int)) rfl) <| jA (jT (c := (((((((k + 7 * j) + 1) + 1) + 1) + 1) + 1 : Nat) : Int)) rfl rfl (wr (by omega))) <| jA (jG (v := iv (((((((k + 7 * j) + 1) + 1) + 1) + 1) + 1 : Nat) : Int)) rfl) <| jE <| jB ?_
              refine jC <| jC <| jF <| jA (jD (v := .slice a l.length c) he_2) <| jA (jD (v := nv j) he_4) <| jA (jV (i := j) kO kS hr_6 hr_6b rfl rfl (by omega)) <| jA (jX fo101_1 hr_6 rfl) <| jA (jX fo97_4 hr_6 rfl) <| jP (ji (v := iv (((markG mkP 7 l k).getD j p0_).call.b)) hs_a nM rfl kE (flat_at encP_len p0_ (markG mkP 7 l k) j 5 (by rw [markG_len]; omega) (by decide))) <| jA (jD (v := iv (((((((k + 7 * j) + 1) + 1) + 1) + 1) + 1 : Nat) : Int)) rfl) ?_
              refine jA (jf rfl rfl) <| jE <| jB ?_
              by_cases h_12 : (((markG mkP 7 l k).getD j p0_).call.b) = (((((((k + 7 * j) + 1) + 1) + 1) + 1) + 1 : Nat) : Int)
              · refine jL (cB (cN (dT h_12))) <| jM <| jB <| jC <| jF <| jA (jD (v := iv (((((((k + 7 * j) + 1) + 1) + 1) + 1) + 1 : Nat) : Int)) rfl) <| jA (jT (c := ((((((((k + 7 * j) + 1) + 1) + 1) + 1) + 1) + 1 : Nat) : Int)) rfl rfl (wr (by omega))) <| jA (jG (v := iv ((((((((k + 7 * j) + 1) + 1) + 1) + 1) + 1) + 1 : Nat) : Int)) rfl) <| jE <| jB ?_
                refine jC <| jC <| jv [] 8 mixed (by simp) <| jW 0 rfl (jD (v := .slice a l.length c) he_2) <| jW 1 rfl (jD (v := nv j) he_4) <| jW 2 rfl (jV (i := j) kO kS hr_6 hr_6b rfl rfl (by omega)) <| jW 3 rfl (jX fo101_1 hr_6 rfl) <| jW 4 rfl (jX fo97_5 hr_6 rfl) <| jw 5 rfl (ji (v := str (((markG mkP 7 l k).getD j p0_).call.text)) hs_a nM rfl kH (flat_at encP_len p0_ (markG mkP 7 l k) j 6 (by rw [markG_len]; omega) (by decide))) <| jW 6 rfl (jD (v := iv ((((((((k + 7 * j) + 1) + 1) + 1) + 1) + 1) + 1 : Nat) : Int)) rfl) ?_
                refine jx (i := 7) ?_
                refine jz rfl rfl (jR [] Tryz.call37 rfl (C_markText (((((((k + 7 * j) + 1) + 1) + 1) + 1) + 1) + 1) (by omega) (by omega)) rfl (fun _ _ => trivial)) ?_
                rintro _ _ ⟨_, ⟨rfl, rfl⟩, rfl⟩
                refine ⟨(fun _ h => by cases h), ?_⟩
                refine jW 8 rfl (kA rfl rfl) <| kB (by kernel_rfl) <| jB ?_
                by_cases h_13 : (((markG mkP 7 l k).getD j p0_).call.text) = (mt (((((((k + 7 * j) + 1) + 1) + 1) + 1) + 1) + 1))
                · refine jL (cB (cN (dT h_13))) <| jM <| jB <| jF <| jA (jD (v := iv ((((((((k + 7 * j) + 1) + 1) + 1) + 1) + 1) + 1 : Nat) : Int)) rfl) <| jA (jT (c := (((((((((k + 7 * j) + 1) + 1) + 1) + 1) + 1) + 1) + 1 : Nat) : Int)) rfl rfl (wr (by omega))) <| jA (jG (v := iv (((((((((k + 7 * j) + 1) + 1) + 1) + 1) + 1) + 1) + 1 : Nat) : Int)) rfl) <| jE <| jk <| jB ?_
                  refine jF <| jA (jD (v := nv j) he_4) <| jA (jT (c := ((j + 1 : Nat) : Int)) rfl rfl (wr (by omega))) <| jA (jG (v := iv ((j + 1 : Nat) : Int)) rfl) <| jE ?_
                  refine jl (l.length - (j + 1)) (by omega) ⟨j + 1, by omega, he_2, rfl, rfl, rfl, rfl⟩
                exfalso; rw [markG_get mkP 7 p0_ l k j hlt] at h_13; first | omega | exact h_13 rfl
              exfalso; rw [markG_get mkP 7 p0_ l k j hlt] at h_12; first | omega | exact h_12 rfl
            exfalso; rw [markG_get mkP 7 p0_ l k j hlt] at h_11; first | omega | exact h_11 rfl
          exfalso; rw [markG_get mkP 7 p0_ l k j hlt] at h_10; first | omega | exact h_10 rfl
        exfalso; rw [markG_get mkP 7 p0_ l k j hlt] at h_9; first | omega | exact h_9 rfl
      exfalso; rw [markG_get mkP 7 p0_ l k j hlt] at h_8; first | omega | exact h_8 rfl
    exfalso; rw [markG_get mkP 7 p0_ l k j hlt] at h_7; first | omega | exact h_7 rfl
  refine jL (cB (dF h_5)) <| jm <| jY <| jY <| jn <| jB <| jC <| jF <| jA (jD (v := iv ((k + 7 * j : Nat) : Int)) he_3) <| jA (jG (v := iv ((k + 7 * j : Nat) : Int)) rfl) ?_
  refine jE <| jB <| jK <| jN (.inl rfl) rfl (jJ (v := iv ((k + 7 * j : Nat) : Int)) rfl) (List.nil_sublist _) ?_
  exact ⟨by rw [show j = l.length by omega], rfl⟩

end Go.Proofs.YtkmpmjficoohkaaGreatDoor

set_option linter.unusedSimpArgs false
set_option linter.unusedVariables false
set_option linter.unnecessarySimpa false
namespace Go.Proofs.YtkmpmjficoohkaaGreatDoor
open Go Go.RowKit
/-- A transaction; where its five rows lie. -/
structure TD where
  id : Int
  age : Int
  proc : Int
  began : Int
  calls : List CL
  ans : List AN
  rd : List Str
  wr : List Str
  marks : List Int
  state : Int
structure TA where
  a0 : Option Addr
  c0 : Nat
  a1 : Option Addr
  c1 : Nat
  a2 : Option Addr
  c2 : Nat
  a3 : Option Addr
  c3 : Nat
  a4 : Option Addr
  c4 : Nat
def TD.new (a b c : Int) : TD := ⟨a, b, c, 0, [], [], [], [], [], 1⟩
def TD.mark (t : TD) : TD × Int :=
  if t.state = 1 ∧ (t.marks.length : Int) < 4 then ({ t with marks := t.marks ++ [(t.calls.length : Int)] }, ((t.marks.length + 1 : Nat) : Int)) else (t, 0)
def TD.back (t : TD) (k : Int) : TD × Bool :=
  if t.state = 1 ∧ 1 ≤ k ∧ k ≤ (t.marks.length : Int) then
    ({ t with calls := t.calls.take (bro (t.marks.getD (k - 1).toNat 0) t.calls.length), ans := t.ans.take (bro (t.marks.getD (k - 1).toNat 0) t.ans.length), marks := t.marks.take (k - 1).toNat }, true)
  else (t, false)
def TD.since (t : TD) (k : Int) : List CL :=
  if 1 ≤ k ∧ k ≤ (t.marks.length : Int) then t.calls.drop (bro (t.marks.getD (k - 1).toNat 0) t.calls.length) else []
def sortedI : List Int → Bool
  | [] => true
  | [_] => true
  | a :: b :: l => decide (a ≤ b) && sortedI (b :: l)
def TD.marksOk (t : TD) : Bool := decide ((t.marks.length : Int) ≤ 4) && (sortedI t.marks && t.marks.all fun n => decide (0 ≤ n) && decide (n ≤ (t.calls.length : Int)))
structure TD.ok (t : TD) (n : Nat) : Prop where
  h1 : -9223372036854775808 ≤ t.id ∧ t.id ≤ 9223372036854775807
  h2 : -9223372036854775808 ≤ t.age ∧ t.age ≤ 9223372036854775807
  h3 : -9223372036854775808 ≤ t.proc ∧ t.proc ≤ 9223372036854775807
  h4 : -9223372036854775808 ≤ t.began ∧ t.began ≤ 9223372036854775807
  h5 : -9223372036854775808 ≤ t.state ∧ t.state ≤ 9223372036854775807
  hc : t.calls.length ≤ n
  ha : t.ans.length ≤ n
  hr : t.rd.length ≤ n
  hw : t.wr.length ≤ n
  hm : t.marks.length ≤ n
theorem TD.mark_ok {t t' : TD} {n : Nat} {k : Int} (h : t.ok n) (e : t.mark = (t', k)) : t'.ok (n + 1) ∧ 0 ≤ k ∧ k ≤ 4 := by
  obtain ⟨h1, h2, h3, h4, h5, hc, ha, hr, hw, hm⟩ := h
  unfold TD.mark at e
  split at e
  · rename_i hif
    simp only [Prod.mk.injEq] at e
    obtain ⟨rfl, rfl⟩ := e
    refine ⟨⟨h1, h2, h3, h4, h5, ?_, ?_, ?_, ?_, ?_⟩, by omega, by omega⟩ <;> simp only [List.length_append, List.length_cons, List.length_nil] <;> omega
  · simp only [Prod.mk.injEq] at e
    obtain ⟨rfl, rfl⟩ := e
    exact ⟨⟨h1, h2, h3, h4, h5, by omega, by omega, by omega, by omega, by omega⟩, by omega, by omega⟩
theorem TD.back_ok {t t' : TD} {n : Nat} {k : Int} {b : Bool} (h : t.ok n) (e : t.back k = (t', b)) : t'.ok n := by
  obtain ⟨h1, h2, h3, h4, h5, hc, ha, hr, hw, hm⟩ := h
  unfold TD.back at e
  split at e
  · simp only [Prod.mk.injEq] at e
    obtain ⟨rfl, rfl⟩ := e
    refine ⟨h1, h2, h3, h4, h5, ?_, ?_, hr, hw, ?_⟩ <;> simp only [List.length_take] <;> omega
  · simp only [Prod.mk.injEq] at e
    obtain ⟨rfl, rfl⟩ := e
    exact ⟨h1, h2, h3, h4, h5, hc, ha, hr, hw, hm⟩
end Go.Proofs.YtkmpmjficoohkaaGreatDoor

set_option linter.unusedSimpArgs false
set_option linter.unusedVariables false
set_option linter.unnecessarySimpa false
namespace Go.Proofs.YtkmpmjficoohkaaGreatDoor
open Go Go.RowKit
/-- A told row can be read; each of some. -/
def RD.sees (w : World) (r : RD) : Prop := Sees w r.v r.k r.n r.cs
def SeesA (w : World) (rs : List RD) : Prop := ∀ r ∈ rs, r.sees w
section
variable {w0 w : World} {D : List Nat} {L F : List Res} {rs A B C : List RD} {r : RD}
theorem SeesA.nil : SeesA w [] := fun _ h => by cases h
theorem SeesA.cons (h : r.sees w) (h' : SeesA w rs) : SeesA w (r :: rs) := fun q hq => by
  rcases List.mem_cons.1 hq with rfl | hq
  · exact h
  · exact h' q hq
theorem SeesA.head (h : SeesA w (r :: rs)) : r.sees w := h r (List.mem_cons_self ..)
theorem SeesA.tail (h : SeesA w (r :: rs)) : SeesA w rs := fun q hq => h q (List.mem_cons_of_mem _ hq)
theorem SeesA.left (h : SeesA w (A ++ B)) : SeesA w A := fun q hq => h q (List.mem_append_left _ hq)
theorem SeesA.right (h : SeesA w (A ++ B)) : SeesA w B := fun q hq => h q (List.mem_append_right _ hq)
theorem SeesA.app (h : SeesA w A) (h' : SeesA w B) : SeesA w (A ++ B) := fun q hq => by
  rcases List.mem_append.1 hq with hq | hq
  · exact h q hq
  · exact h' q hq
theorem SeesA.elem {α : Type} {f : α → List RD} {l : List α} (h : SeesA w (l.flatMap f)) {j : Nat} (d : α) (hj : j < l.length) : SeesA w (f (l.getD j d)) := fun q hq => h q (List.mem_flatMap.2 ⟨_, getD_mem hj, hq⟩)
theorem ownsR_sees {t k n : Nat} {v : Value} {cs : List Value} (h : World.ownsR w 0 t k v n cs) : Sees w v k n cs := by
  refine ⟨h.1, ?_⟩
  rcases h.2 with ⟨hv, rfl⟩ | ⟨g, cap, cur, hv, _, hg, h1, h2, h3, h4⟩
  · exact .inl ⟨hv, rfl⟩
  · subst hv
    refine .inr ⟨g, 0, cap, rfl, h1, h2, hg.lt, fun j u hj => ?_⟩
    obtain ⟨g', hg', hcell⟩ := row_cell h hj
    simp only [Option.some.injEq, Addr.mk.injEq, and_true] at hg'
    rw [Nat.zero_add, hg']
    exact hcell
theorem St.seeRows (hw : St w0 D L w) (i : Nat) (hL : L[i]? = some (.rows rs)) : SeesA w rs := fun r hr => ownsR_sees (hw.get hL r hr)
theorem St.seeRow (hw : St w0 D L w) (i : Nat) {v : Value} {t k n : Nat} {cs : List Value} (hL : L[i]? = some (.row v t k n cs)) : Sees w v k n cs := ownsR_sees (hw.get hL)
theorem St.seeOutA (hw : St w0 D L w) (hs : SeesA w0 rs) (hD : ∀ r ∈ rs, ∀ b, r.v.ownBlock = some b → b ∉ D) : SeesA w rs := fun r hr => hw.seeOut_ (hs r hr) (hD r hr)
theorem nMA : ∀ r ∈ rs, ∀ b, r.v.ownBlock = some b → b ∉ ([] : List Nat) := fun _ _ _ _ => List.not_mem_nil
/-- It can be read, or it is empty, wherever it points. -/
def SeesE (w : World) (v : Value) (k m : Nat) (cs : List Value) : Prop := Sees w v k m cs ∨ ((∃ a, v = .slice a 0 0) ∧ m = 0 ∧ cs = [])
theorem SeesE.full {v : Value} {k m : Nat} {cs : List Value} (h : SeesE w v k m cs) (h0 : 0 < m) : Sees w v k m cs := by
  rcases h with h | ⟨_, h, _⟩
  · exact h
  · omega
def SeesAE (w : World) (rs : List RD) : Prop := ∀ r ∈ rs, SeesE w r.v r.k r.n r.cs
theorem SeesAE.nil : SeesAE w [] := fun _ h => by cases h
theorem SeesAE.cons (h : SeesE w r.v r.k r.n r.cs) (h' : SeesAE w rs) : SeesAE w (r :: rs) := fun q hq => by
  rcases List.mem_cons.1 hq with rfl | hq
  · exact h
  · exact h' q hq
theorem SeesAE.head (h : SeesAE w (r :: rs)) : SeesE w r.v r.k r.n r.cs := h r (List.mem_cons_self ..)
theorem SeesAE.tail (h : SeesAE w (r :: rs)) : SeesAE w rs := fun q hq => h q (List.mem_cons_of_mem _ hq)
theorem SeesAE.left (h : SeesAE w (A ++ B)) : SeesAE w A := fun q hq => h q (List.mem_append_left _ hq)
theorem SeesAE.right (h : SeesAE w (A ++ B)) : SeesAE w B := fun q hq => h q (List.mem_append_right _ hq)
theorem SeesAE.app (h : SeesAE w A) (h' : SeesAE w B) : SeesAE w (A ++ B) := fun q hq => by
  rcases List.mem_append.1 hq with hq | hq
  · exact h q hq
  · exact h' q hq
theorem SeesAE.elem {α : Type} {f : α → List RD} {l : List α} (h : SeesAE w (l.flatMap f)) {j : Nat} (d : α) (hj : j < l.length) : SeesAE w (f (l.getD j d)) := fun q hq => h q (List.mem_flatMap.2 ⟨_, getD_mem hj, hq⟩)
theorem St.seeOutE {v : Value} {k m : Nat} {cs : List Value} (hw : St w0 D L w) (hs : SeesE w0 v k m cs) (hD : ∀ b, v.ownBlock = some b → b ∉ D) : SeesE w v k m cs := by
  rcases hs with hs | hs
  · exact .inl (hw.seeOut_ hs hD)
  · exact .inr hs
theorem St.seeOutAE (hw : St w0 D L w) (hs : SeesAE w0 rs) (hD : ∀ r ∈ rs, ∀ b, r.v.ownBlock = some b → b ∉ D) : SeesAE w rs := fun r hr => hw.seeOutE (hs r hr) (hD r hr)
/- the owned rows, parted and joined -/
theorem St.openR (i : Nat) (hp : pick [i] L = some ([.rows A], F)) (hw : St w0 D L w) : St w0 D (A.map RD.res ++ F) w := St.openRows (hw.perm (pick_perm [i] hp).symm)
theorem St.closeR (is : List Nat) (hp : pick is L = some (A.map RD.res, F)) (hw : St w0 D L w) : St w0 D (.rows A :: F) w := St.closeRows (hw.perm (pick_perm is hp).symm)
theorem St.splitR (i : Nat) (hp : pick [i] L = some ([.rows rs], F)) (e : rs = A ++ (B ++ C)) (hw : St w0 D L w) : St w0 D (.rows A :: .rows B :: .rows C :: F) w := by
  subst e
  have h1 := (hw.perm (pick_perm [i] hp).symm).rowsApp
  have h2 : St w0 D (.rows (B ++ C) :: .rows A :: F) w := h1.perm (List.Perm.swap _ _ _)
  have h3 := h2.rowsApp
  exact h3.perm ((List.Perm.swap _ _ _).trans (List.Perm.cons _ (List.Perm.swap _ _ _)))
theorem St.addR (is : List Nat) (hp : pick is L = some ([.rows A, .rows B], F)) (e : rs = A ++ B) (hw : St w0 D L w) : St w0 D (.rows rs :: F) w := by
  subst e
  exact (hw.perm (pick_perm is hp).symm).appRows
theorem St.joinR (is : List Nat) (hp : pick is L = some ([.rows A, .rows B, .rows C], F)) (e : rs = A ++ (B ++ C)) (hw : St w0 D L w) : St w0 D (.rows rs :: F) w := by
  subst e
  have h1 := hw.perm (pick_perm is hp).symm
  have h2 : St w0 D (.rows B :: .rows C :: .rows A :: F) w := h1.perm ((List.Perm.cons _ (List.Perm.swap _ _ _)).trans (List.Perm.swap _ _ _))
  have h3 := h2.appRows
  exact (h3.perm (List.Perm.swap _ _ _)).appRows
end
section
variable {P : Program} {ops : Array Oper} {Q : Exit → Act → World → Prop} {n : Nat} {w0 : World} {D : List Nat} {L L' : List Res} {e : Env}
theorem JL.ghost {l : List Oper} (g : ∀ w, St w0 D L w → St w0 D L' w) (h : JL P ops Q n w0 D L' l e) : JL P ops Q n w0 D L l e := fun w hw => h w (g w hw)
theorem JC.ghost {c : Code} (g : ∀ w, St w0 D L w → St w0 D L' w) (h : JC P Q n w0 D L' c e) : JC P Q n w0 D L c e := fun w hw => h w (g w hw)
theorem kC {x : Exit} (g : ∀ w, St w0 D L w → St w0 D L' w) (h : JQ Q x n w0 D L' e) : JQ Q x n w0 D L e := fun w hw => h w (g w hw)
theorem St.eqL {w : World} (hL : L = L') (hw : St w0 D L w) : St w0 D L' w := hL ▸ hw
/-- A contract, told otherwise. -/
theorem Ct.conv {f : FuncId} {args : List Value} {A : List Res} {Pre Pre' : World → Prop} {Post Post' : Value → List Res → Prop} (h : Ct P f args A Pre Post) (h1 : ∀ w, Has A w → Pre' w → Pre w)
    (h2 : ∀ w0 v A' w, Post v A' → St w0 (idsOf A) A' w → ∃ A'', Post' v A'' ∧ St w0 (idsOf A) A'' w) : Ct P f args A Pre' Post' := fun w hA hp =>
  (h w hA (h1 w hA hp)).mono fun e w' he => by
    obtain ⟨v, A', rfl, hpost, hst⟩ := he
    obtain ⟨A'', hp', hst'⟩ := h2 w v A' w' hpost hst
    exact ⟨v, A'', rfl, hp', hst'⟩
section
variable {d : Option Tmp} {ty : TypeId} {pos : String} {aft : Array Edge} {gd : Option (Nat × Bool)}
theorem equal_bool {t : TypeId} (ht : P.underlying t = some .bool) (a b : Bool) (w : World) : (Op.equal t (.bool a) (.bool b)).run P w = .ok (decide (a = b)) w := by
  have h : ∀ d : Nat, (Op.equalIn (d + 1) t (.bool a) (.bool b)).run P w = .ok (decide (a = b)) w := fun d => by
    cases a <;> cases b <;> simp [Op.equalIn, run_underlying ht]
  simp only [Op.equal, Op.maxDepth, h 9999]
theorem PO.eqlB {x y : Operand} {a b : Bool} {t u : TypeId} (ht : P.underlying t = some .bool) (hx : rd n e x = .bool a) (hy : rd n e y = .bool b) : PO P n e ⟨d, .binOp .eql t x y u, ty, pos, aft, gd⟩ (.bool (decide (a = b))) := fun w => by
  simp [execOp, hx, hy, eqGuard, binOp, equal_bool ht]
theorem PO.neqB {x y : Operand} {a b : Bool} {t u : TypeId} (ht : P.underlying t = some .bool) (hx : rd n e x = .bool a) (hy : rd n e y = .bool b) : PO P n e ⟨d, .binOp .neq t x y u, ty, pos, aft, gd⟩ (.bool (!decide (a = b))) := fun w => by
  simp [execOp, hx, hy, eqGuard, binOp, equal_bool ht]
end
end
/- a row one of whose elements is told cell by cell -/
section
variable {α : Type} {enc : α → List Value} {k : Nat} {Q R : List α} {j : Nat} {cs : List Value}
def mid (enc : α → List Value) (Q : List α) (cs : List Value) (R : List α) : List Value := Q.flatMap enc ++ (cs ++ R.flatMap enc)
theorem mid_at (hk : ∀ x, (enc x).length = k) (hc : cs.length = k) (hQ : Q.length = j) (f : Nat) (hf : f < k) : (mid enc Q cs R)[j * k + f]? = cs[f]? := by
  have hl := flat_length hk Q
  unfold mid
  rw [List.getElem?_append_right (by rw [hl, hQ]; omega), hl, hQ, Nat.add_sub_cancel_left, List.getElem?_append_left (by omega)]
theorem mid_part (hk : ∀ x, (enc x).length = k) (hc : cs.length = k) (hQ : Q.length = j) (f m : Nat) (hf : f + m ≤ k) : ((mid enc Q cs R).drop (j * k + f)).take m = (cs.drop f).take m := by
  have hl := flat_length hk Q
  unfold mid
  rw [List.drop_append, List.drop_of_length_le (by rw [hl, hQ]; omega), List.nil_append, hl, hQ, Nat.add_sub_cancel_left, List.drop_append_of_le_length (by omega), List.take_append_of_le_length (by rw [List.length_drop]; omega)]
theorem mid_set (hk : ∀ x, (enc x).length = k) (hc : cs.length = k) (hQ : Q.length = j) (f : Nat) (vs : List Value) (hf : f + vs.length ≤ k) :
    (mid enc Q cs R).take (j * k + f) ++ vs ++ (mid enc Q cs R).drop (j * k + f + vs.length) = mid enc Q (cs.take f ++ vs ++ cs.drop (f + vs.length)) R := by
  have hl := flat_length hk Q
  unfold mid
  rw [List.take_append, List.take_of_length_le (by rw [hl, hQ]; omega), hl, hQ, Nat.add_sub_cancel_left, List.take_append_of_le_length (by omega), Nat.add_assoc, List.drop_append, List.drop_of_length_le (by rw [hl, hQ]; omega), List.nil_append, hl, hQ, Nat.add_sub_cancel_left, List.drop_append_of_le_length (by omega)]
  simp only [List.append_assoc]
theorem mid_len (hk : ∀ x, (enc x).length = k) (hc : cs.length = k) : (mid enc Q cs R).length = (Q.length + 1 + R.length) * k := by
  unfold mid
  rw [List.length_append, List.length_append, flat_length hk, flat_length hk, hc, Nat.add_mul, Nat.add_mul, Nat.one_mul, Nat.add_assoc]
theorem mid_fit (hk : ∀ x, (enc x).length = k) (hc : cs.length = k) (hQ : Q.length = j) {f m : Nat} (hf : f + m ≤ k) : j * k + f + m ≤ (mid enc Q cs R).length := by
  rw [mid_len hk hc, hQ, Nat.add_assoc j, Nat.add_mul, Nat.add_mul, Nat.one_mul]
  omega
theorem flat_atE (hk : ∀ x, (enc x).length = k) (d : α) (xs : List α) (i f : Nat) (hi : i < xs.length) (hf : f < k) {x : α} (hx : xs.getD i d = x) (hc : enc x = cs) : (xs.flatMap enc)[i * k + f]? = cs[f]? := by
  rw [flat_at hk d xs i f hi hf, hx, hc]
theorem mid_open {l : List α} (d : α) (hj : j < l.length) : (Q ++ l.drop j).flatMap enc = mid enc Q (enc (l.getD j d)) (l.drop (j + 1)) := by
  unfold mid
  rw [List.flatMap_append, drop_at (getD_some (d := d) hj), List.flatMap_cons]
theorem mid_close {q : α} : mid enc Q (enc q) R = ((Q ++ [q]) ++ R).flatMap enc := by
  unfold mid
  rw [List.flatMap_append, List.flatMap_append, List.flatMap_cons, List.flatMap_nil, List.append_nil, List.append_assoc]
theorem flatMap_snoc {β : Type} {f : α → List β} {l : List α} {y : α} : (l ++ [y]).flatMap f = l.flatMap f ++ f y := by
  rw [List.flatMap_append, List.flatMap_cons, List.flatMap_nil, List.append_nil]
theorem flatMap_mid {β : Type} {f : α → List β} {l : List α} (d : α) (hj : j < l.length) : (Q ++ l.drop j).flatMap f = Q.flatMap f ++ (f (l.getD j d) ++ (l.drop (j + 1)).flatMap f) := by
  rw [List.flatMap_append, drop_at (getD_some (d := d) hj), List.flatMap_cons]
theorem flatMap_mid2 {β : Type} {f : α → List β} {q : α} : ((Q ++ [q]) ++ R).flatMap f = Q.flatMap f ++ (f q ++ R.flatMap f) := by
  rw [List.flatMap_append, List.flatMap_append, List.flatMap_cons, List.flatMap_nil, List.append_nil, List.append_assoc]
theorem flatMap_at {β : Type} {f : α → List β} {l : List α} (d : α) (hj : j < l.length) : l.flatMap f = (l.take j).flatMap f ++ (f (l.getD j d) ++ (l.drop (j + 1)).flatMap f) := by
  have := flatMap_mid (Q := l.take j) (f := f) d hj
  rwa [List.take_append_drop] at this
theorem flatMap_setAt {β : Type} {f : α → List β} {l : List α} {y : α} (hj : j < l.length) : (l.set j y).flatMap f = (l.take j).flatMap f ++ (f y ++ (l.drop (j + 1)).flatMap f) := by
  rw [List.set_eq_take_append_cons_drop, if_pos hj, List.flatMap_append, List.flatMap_cons]
/- marks of elements that take as many as they are great -/
def markV (mk : α → Nat → α) (ct : α → Nat) : List α → Nat → List α
  | [], _ => []
  | x :: l, m => mk x m :: markV mk ct l (m + ct x)
def cntV (ct : α → Nat) : List α → Nat
  | [] => 0
  | x :: l => ct x + cntV ct l
variable {mk : α → Nat → α} {ct : α → Nat}
theorem markV_len : ∀ (l : List α) (m : Nat), (markV mk ct l m).length = l.length
  | [], _ => rfl
  | _ :: l, m => by simp [markV, markV_len l]
theorem cntV_app : ∀ (a b : List α), cntV ct (a ++ b) = cntV ct a + cntV ct b
  | [], b => by simp [cntV]
  | x :: a, b => by simp [cntV, cntV_app a b, Nat.add_assoc]
theorem take_snoc {l : List α} (d : α) (hj : j < l.length) : l.take (j + 1) = l.take j ++ [l.getD j d] := take_at (getD_some (d := d) hj)
theorem cntV_step {l : List α} (d : α) (hj : j < l.length) : cntV ct (l.take (j + 1)) = cntV ct (l.take j) + ct (l.getD j d) := by
  rw [take_snoc d hj, cntV_app]; simp [cntV]
theorem cntV_le {l : List α} (d : α) (hj : j < l.length) : cntV ct (l.take j) + ct (l.getD j d) ≤ cntV ct l := by
  rw [← cntV_step d hj]
  conv => rhs; rw [← List.take_append_drop (j + 1) l]
  rw [cntV_app]
  omega
theorem cntV_all {l : List α} (hj : l.length ≤ j) : cntV ct (l.take j) = cntV ct l := by rw [List.take_of_length_le hj]
theorem markV_get (d : α) : ∀ (l : List α) (m j : Nat), j < l.length → (markV mk ct l m).getD j d = mk (l.getD j d) (m + cntV ct (l.take j))
  | [], m, j, h => by simp at h
  | x :: l, m, 0, _ => by simp [markV, cntV]
  | x :: l, m, j + 1, h => by
    have := markV_get d l (m + ct x) j (by simpa using h)
    simp only [markV, List.getD_cons_succ, this, List.take_succ_cons, cntV, Nat.add_assoc]
theorem markV_step {l : List α} {m : Nat} (d : α) (hj : j < l.length) : (markV mk ct l m).take (j + 1) = (markV mk ct l m).take j ++ [mk (l.getD j d) (m + cntV ct (l.take j))] := by
  rw [take_snoc d (by rw [markV_len]; exact hj), markV_get d l m j hj]
theorem markV_all {l : List α} {m : Nat} (hj : l.length ≤ j) : (markV mk ct l m).take j = markV mk ct l m := List.take_of_length_le (by rw [markV_len]; exact hj)
theorem map_take_succ {β : Type} {f : α → β} {l y : List α} {x : α} (d : α) (h : y.map f = (l.take j).map f) (hj : j < l.length) (hx : f x = f (l.getD j d)) : (y ++ [x]).map f = (l.take (j + 1)).map f := by
  simp only [take_snoc d hj, List.map_append, h, List.map_cons, hx, List.map_nil]
theorem map_len {β : Type} {f : α → β} {l y : List α} (h : y.map f = (l.take j).map f) (hj : j ≤ l.length) : y.length = j := by
  have := congrArg List.length h
  rw [List.length_map, List.length_map, List.length_take] at this
  omega
theorem map_all {β : Type} {f : α → β} {l y : List α} (h : y.map f = (l.take j).map f) (hj : l.length ≤ j) : y.map f = l.map f := by
  rw [h, List.take_of_length_le hj]
end
/- ghosts on rows told cell by cell -/
section
variable {α : Type} {enc : α → List Value} {k : Nat} {Q R l : List α} {j : Nat} {cs : List Value} {w0 w : World} {D : List Nat} {L F : List Res} {A : List RD} {r : RD} {v : Value} {t n : Nat}
theorem St.midR (i : Nat) (hp : pick [i] L = some ([.row v t k n ((Q ++ l.drop j).flatMap enc)], F)) (d : α) (hj : j < l.length) (hw : St w0 D L w) : St w0 D (.row v t k n (mid enc Q (enc (l.getD j d)) (l.drop (j + 1))) :: F) w := by
  have h := hw.perm (pick_perm [i] hp).symm
  rw [mid_open d hj] at h
  exact h
theorem St.unmid (i : Nat) (hp : pick [i] L = some ([.row v t k n (mid enc Q cs R)], F)) {q : α} (hq : enc q = cs) (hw : St w0 D L w) : St w0 D (.row v t k n (((Q ++ [q]) ++ R).flatMap enc) :: F) w := by
  have h := hw.perm (pick_perm [i] hp).symm
  rw [← hq, mid_close] at h
  exact h
theorem St.headR (i : Nat) (hp : pick [i] L = some ([.rows (r :: A)], F)) (hw : St w0 D L w) : St w0 D (r.res :: .rows A :: F) w := by
  have h := (hw.perm (pick_perm [i] hp).symm).openRows
  have h2 : St w0 D (A.map RD.res ++ (r.res :: F)) w := h.perm (by simp only [List.map_cons]; exact List.perm_middle)
  exact (h2.closeRows).perm (List.Perm.swap _ _ _)
theorem St.consR (is : List Nat) (hp : pick is L = some ([r.res, .rows A], F)) (hw : St w0 D L w) : St w0 D (.rows (r :: A) :: F) w := by
  have h : St w0 D (.rows A :: r.res :: F) w := (hw.perm (pick_perm is hp).symm).perm (List.Perm.swap _ _ _)
  have h2 := h.openRows
  exact St.closeRows (h2.perm (by simp only [List.map_cons]; exact (List.perm_middle).symm))
theorem St.nilR {α : Type} {f : α → List RD} (is : List Nat) {B F : List Res} (hp : pick is L = some (B, F)) (hw : St w0 D L w) : St w0 D (.rows (([] : List α).flatMap f) :: (B ++ F)) w := St.rowsNil (hw.perm (pick_perm is hp).symm)
theorem St.rowsNil' {α : Type} {f : α → List RD} {s : Res} (hw : St w0 D [s] w) : St w0 D [s, .rows (([] : List α).flatMap f)] w := (St.rowsNil hw).perm (List.Perm.swap _ _ _)
theorem St.rowsEq (i : Nat) {B : List RD} (hp : pick [i] L = some ([.rows A], F)) (e : A = B) (hw : St w0 D L w) : St w0 D (.rows B :: F) w := by
  subst e
  exact hw.perm (pick_perm [i] hp).symm
end
end Go.Proofs.YtkmpmjficoohkaaGreatDoor

set_option linter.unusedSimpArgs false
set_option linter.unusedVariables false
set_option linter.unnecessarySimpa false
namespace Go.Proofs.YtkmpmjficoohkaaGreatDoor
open Go Go.RowKit
def mkI (k : Nat) : Int := ((k : Nat) : Int)
def szIntF (s : List Int) (l : Int) : Int := if l - s.length < 0 then -1 else l - s.length
/-- One measure behind another. -/
def chk (x : Int) (f : Int → Int) : Int := if x < 0 then -1 else f x
def okRI (s : List Int) : Prop := s.length ≤ 9223372036854775807
def okRK (s : List CL) : Prop := s.length ≤ 9223372036854775807 ∧ ∀ j, j < s.length → (s.getD j k0).ok 9223372036854775807
def okRA (s : List AN) : Prop := s.length ≤ 9223372036854775807 ∧ ∀ j, j < s.length → (s.getD j a0_).text.length ≤ 9223372036854775807
def okRP (s : List SP) : Prop := s.length ≤ 9223372036854775807 ∧ ∀ j, j < s.length → (s.getD j p0_).call.ok 9223372036854775807
theorem szLS_take {α : Type} {f : α → Int → Int} (hf : ∀ x l, 0 ≤ l → f x l ≤ l ∧ -1 ≤ f x l) {s : List α} {l : Int} (h : ¬ szLS f s l < 0) : szLS f s l + s.length ≤ l := by
  unfold szLS at h ⊢
  split
  · rename_i h1; rw [if_pos h1] at h; omega
  · have := szL_le hf s (l - s.length) (by omega)
    omega
theorem szIntF_le (s : List Int) (l : Int) (h : 0 ≤ l) : szIntF s l ≤ l ∧ -1 ≤ szIntF s l := by unfold szIntF; split <;> omega
theorem szIntF_take {s : List Int} {l : Int} (h : ¬ szIntF s l < 0) : szIntF s l + s.length ≤ l := by unfold szIntF at *; split at h <;> omega
theorem szStringS_take {s : List Str} {l : Int} (h : ¬ szStringS s l < 0) : szStringS s l + s.length ≤ l := by
  unfold szStringS at h ⊢
  split
  · rename_i h1; rw [if_pos h1] at h; omega
  · have := szStrs_le s (l - s.length) (by omega)
    omega
theorem szCellS_take {s : List Cell} {l : Int} (h : ¬ szCellS s l < 0) : szCellS s l + s.length ≤ l := by
  unfold szCellS at h ⊢
  split
  · rename_i h1; rw [if_pos h1] at h; omega
  · have := szCells_le s (l - s.length) (by omega)
    omega
theorem szTouch_take {r w : List Str} {l : Int} (h : ¬ szTouch r w l < 0) : szTouch r w l + r.length + w.length ≤ l := by
  unfold szTouch at h ⊢
  split
  · rename_i h1; rw [if_pos h1] at h; omega
  · rename_i h1
    rw [if_neg h1] at h
    split
    · rename_i h2; rw [if_pos h2] at h; omega
    · rename_i h2
      have a := szStringS_take h1
      have b := szStringS_take h2
      omega
theorem chk_le {x l : Int} {f : Int → Int} (h : 0 ≤ l) (hx : x ≤ l ∧ -1 ≤ x) (hf : 0 ≤ x → f x ≤ x ∧ -1 ≤ f x) : chk x f ≤ l ∧ -1 ≤ chk x f := by
  unfold chk
  split
  · omega
  · have := hf (by omega); omega
theorem chk_pos {x : Int} {f : Int → Int} (h : ¬ chk x f < 0) : ¬ x < 0 ∧ ¬ f x < 0 ∧ chk x f = f x := by
  unfold chk at *
  split at h
  · omega
  · rename_i hx; exact ⟨hx, h, by rw [if_neg hx]⟩
/-- Lists of elements, of which each takes what it is great. -/
theorem szL_cnt {α : Type} {f : α → Int → Int} {ct : α → Nat} (hf : ∀ x l, 0 ≤ l → f x l ≤ l ∧ -1 ≤ f x l) (hc : ∀ x l, 0 ≤ l → ¬ f x l < 0 → (ct x : Int) ≤ 7 + 7 * (l - f x l)) : ∀ (s : List α) (l : Int), 0 ≤ l → ¬ szL f s l < 0 → (cntV ct s : Int) ≤ 7 * s.length + 7 * (l - szL f s l)
  | [], l, h, _ => by simp [cntV, szL]
  | x :: s, l, h, hn => by
    unfold szL at hn ⊢
    split at hn
    · omega
    · rename_i hx
      rw [if_neg hx]
      have h1 := hf x l h
      have h2 := szL_cnt hf hc s (f x l) (by omega) hn
      have h3 := hc x l h hx
      simp only [cntV, List.length_cons]
      omega
theorem szLS_cnt {α : Type} {f : α → Int → Int} {ct : α → Nat} (hf : ∀ x l, 0 ≤ l → f x l ≤ l ∧ -1 ≤ f x l) (hc : ∀ x l, 0 ≤ l → ¬ f x l < 0 → (ct x : Int) ≤ 7 + 7 * (l - f x l)) {s : List α} {l : Int} (h0 : 0 ≤ l) (hn : ¬ szLS f s l < 0) : (cntV ct s : Int) ≤ 7 * (l - szLS f s l) := by
  unfold szLS at hn ⊢
  split at hn
  · omega
  · rename_i hx
    rw [if_neg hx]
    have := szL_cnt hf hc s (l - s.length) (by omega) hn
    omega
theorem map_getD {α β : Type} {f : α → β} (d : α) {s : List α} {j : Nat} (h : j < s.length) : (s.map f)[j]? = some (f (s.getD j d)) := by
  rw [List.getElem?_map, getD_some (d := d) h]; rfl
theorem szL_stepM {α β : Type} {g : α → β} {f : β → Int → Int} {s : List α} {j : Nat} (d : α) (h : j < s.length) (l : Int) : szL f ((s.map g).drop j) l = if f (g (s.getD j d)) l < 0 then -1 else szL f ((s.map g).drop (j + 1)) (f (g (s.getD j d)) l) := by
  rw [drop_at (map_getD d h), szL]
theorem fillV_step {α : Type} {s y : List α} {j : Nat} {x d : α} (hy : y.length = j) (h : j < s.length) : (y ++ List.replicate (s.length - j) d).set j x = (y ++ [x]) ++ List.replicate (s.length - (j + 1)) d := by
  obtain ⟨q, hq⟩ : ∃ q, s.length - j = q + 1 := ⟨s.length - j - 1, by omega⟩
  rw [hq, show s.length - (j + 1) = q by omega, List.set_append_right _ _ (by omega), hy, Nat.sub_self, List.replicate_succ, List.set_cons_zero, List.append_assoc]
  rfl
theorem take_succM_eq {α β : Type} {f : α → β} {s t : List α} {j : Nat} (d : α) (h : (s.take j).map f = (t.take j).map f) (hj : j < s.length) (hl : s.length = t.length) (he : f (s.getD j d) = f (t.getD j d)) : (s.take (j + 1)).map f = (t.take (j + 1)).map f := by
  rw [take_snoc d hj, take_snoc d (by omega), List.map_append, List.map_append, h, List.map_cons, List.map_cons, he]
theorem take_allM_eq {α β : Type} {f : α → β} {s t : List α} {j : Nat} (h : (s.take j).map f = (t.take j).map f) (hj : s.length ≤ j) (hl : s.length = t.length) : s.map f = t.map f := by
  rwa [List.take_of_length_le hj, List.take_of_length_le (by omega)] at h
theorem getM_eq {α β : Type} {f : α → β} {s t : List α} {j : Nat} (d : α) (h : s.map f = t.map f) (hj : j < s.length) (hl : s.length = t.length) : f (s.getD j d) = f (t.getD j d) := by
  have h1 := map_getD (f := f) d hj
  have h2 := map_getD (f := f) (s := t) d (j := j) (by omega)
  rw [h, h2] at h1
  exact (Option.some.inj h1).symm
structure SD where
  seq : Int
  cells : List Cell
  whole : Bool
structure OA where
  a0 : Option Addr
  c0 : Nat
structure OX where
  x : OA
  t : SD
def encO (p : OX) : List Value := [.int .i64 p.t.seq, .slice p.x.a0 p.t.cells.length p.x.c0, .bool p.t.whole]
def rdsO (p : OX) : List RD := [⟨.slice p.x.a0 p.t.cells.length p.x.c0, 62, 2, p.t.cells.length, p.t.cells.flatMap encC⟩]
theorem encO_len (p : OX) : (encO p).length = 3 := rfl
def o0 : OX := ⟨⟨none, 0⟩, ⟨0, [], false⟩⟩
theorem oneO (l : List OX) : ∀ u ∈ l.flatMap encO, u.oneCell' = true := flat_one (fun c u hu => by
  simp only [encO, List.mem_cons, List.not_mem_nil, or_false] at hu
  rcases hu with rfl | rfl | rfl <;> rfl) l
theorem flatO (m : Nat) : (List.replicate m [Value.int .i64 0, Value.slice none 0 0, Value.bool false]).flatten = (List.replicate m o0).flatMap encO := flat_make (enc := encO) o0 m
theorem seesO {w : World} {p : OX} (h : SeesA w (rdsO p)) : Sees w (.slice p.x.a0 p.t.cells.length p.x.c0) 2 p.t.cells.length (p.t.cells.flatMap encC) := h.head
theorem seesOE {w : World} {p : OX} (h : SeesAE w (rdsO p)) : SeesE w (.slice p.x.a0 p.t.cells.length p.x.c0) 2 p.t.cells.length (p.t.cells.flatMap encC) := h.head
theorem seesO_mk {w : World} {p : OX} (h0 : Sees w (.slice p.x.a0 p.t.cells.length p.x.c0) 2 p.t.cells.length (p.t.cells.flatMap encC)) : SeesA w (rdsO p) := SeesA.cons h0 SeesA.nil
theorem SD.same {a b : SD} : a = b ↔ a.seq = b.seq ∧ a.cells = b.cells ∧ a.whole = b.whole := by cases a; cases b; simp
instance decSD : DecidableEq SD := fun a b => decidable_of_iff _ SD.same.symm
def szSlotF (t : SD) (l : Int) : Int := chk (szCellS t.cells l) id
theorem szSlotF_le (t : SD) (l : Int) (h : 0 ≤ l) : szSlotF t l ≤ l ∧ -1 ≤ szSlotF t l := chk_le (by omega) (szCellS_le t.cells _ (by omega)) (fun hx => ⟨Int.le_refl _, by simp only [id]; omega⟩)
structure SD.lim (t : SD) (n : Nat) : Prop where
  l0 : t.cells.length ≤ n
theorem SD.lim.mono {t : SD} {n m : Nat} (h : t.lim n) (hm : n ≤ m) : t.lim m := ⟨Nat.le_trans h.l0 hm⟩
structure SD.okz (t : SD) : Prop where
  k0 : okC t.cells
def cntO (p : OX) : Nat := 1 + (2 * p.t.cells.length) + 1
def cntOd (t : SD) : Nat := 1 + (2 * t.cells.length) + 1
theorem szSlotF_all {t : SD} {l : Int} (h0 : 0 ≤ l) (h : ¬ szSlotF t l < 0) : (t.cells.length : Int) ≤ l ∧ (cntOd t : Int) ≤ 7 + 7 * (l - szSlotF t l) := by
  unfold szSlotF at h ⊢
  obtain ⟨n0, h, e0⟩ := chk_pos h
  have le0 := szCellS_le t.cells _ (by omega)
  have tk0 := szCellS_take n0
  simp only [e0, id_eq, cntOd] at *
  omega
def mkO (p : OX) (k : Nat) : OX := ⟨p.x, ⟨((k : Nat) : Int), markC p.t.cells (k + 1), decide ((((k + 1 + 2 * p.t.cells.length) % 3 : Nat) : Int) = 0)⟩⟩
theorem encO_mk (p : OX) (k : Nat) : encO (mkO p k) = [.int .i64 ((k : Nat) : Int), .slice p.x.a0 p.t.cells.length p.x.c0, .bool (decide ((((k + 1 + 2 * p.t.cells.length) % 3 : Nat) : Int) = 0))] := by simp only [mkO, encO, markG_len, markS_len, markC_len]
theorem seesO_mk' {w : World} {p : OX} {k : Nat} (h : SeesA w (rdsO (mkO p k))) : Sees w (.slice p.x.a0 p.t.cells.length p.x.c0) 2 p.t.cells.length ((markC p.t.cells (k + 1)).flatMap encC) := by
  have := seesO h
  simpa only [mkO, markG_len, markS_len, markC_len] using this
theorem rdsO_mk (p : OX) (k : Nat) : rdsO (mkO p k) = [⟨.slice p.x.a0 p.t.cells.length p.x.c0, 62, 2, p.t.cells.length, (markC p.t.cells (k + 1)).flatMap encC⟩] := by simp only [mkO, rdsO, markG_len, markS_len, markC_len]
structure TX where
  x : TA
  t : TD
def encX (p : TX) : List Value := [.int .i64 p.t.id, .int .i64 p.t.age, .int .i64 p.t.proc, .int .i64 p.t.began, .slice p.x.a0 p.t.calls.length p.x.c0, .slice p.x.a1 p.t.ans.length p.x.c1, .slice p.x.a2 p.t.rd.length p.x.c2, .slice p.x.a3 p.t.wr.length p.x.c3, .slice p.x.a4 p.t.marks.length p.x.c4, .int .i64 p.t.state]
def rdsX (p : TX) : List RD := [⟨.slice p.x.a0 p.t.calls.length p.x.c0, 97, 6, p.t.calls.length, p.t.calls.flatMap encK⟩, ⟨.slice p.x.a1 p.t.ans.length p.x.c1, 99, 3, p.t.ans.length, p.t.ans.flatMap encA⟩, ⟨.slice p.x.a2 p.t.rd.length p.x.c2, 9, 1, p.t.rd.length, p.t.rd.map str⟩, ⟨.slice p.x.a3 p.t.wr.length p.x.c3, 9, 1, p.t.wr.length, p.t.wr.map str⟩, ⟨.slice p.x.a4 p.t.marks.length p.x.c4, 3, 1, p.t.marks.length, p.t.marks.map (Value.int .i64)⟩]
theorem encX_len (p : TX) : (encX p).length = 10 := rfl
def x0 : TX := ⟨⟨none, 0, none, 0, none, 0, none, 0, none, 0⟩, ⟨0, 0, 0, 0, [], [], [], [], [], 0⟩⟩
theorem oneX (l : List TX) : ∀ u ∈ l.flatMap encX, u.oneCell' = true := flat_one (fun c u hu => by
  simp only [encX, List.mem_cons, List.not_mem_nil, or_false] at hu
  rcases hu with rfl | rfl | rfl | rfl | rfl | rfl | rfl | rfl | rfl | rfl <;> rfl) l
theorem flatX (m : Nat) : (List.replicate m [Value.int .i64 0, Value.int .i64 0, Value.int .i64 0, Value.int .i64 0, Value.slice none 0 0, Value.slice none 0 0, Value.slice none 0 0, Value.slice none 0 0, Value.slice none 0 0, Value.int .i64 0]).flatten = (List.replicate m x0).flatMap encX := flat_make (enc := encX) x0 m
theorem seesX {w : World} {p : TX} (h : SeesA w (rdsX p)) : Sees w (.slice p.x.a0 p.t.calls.length p.x.c0) 6 p.t.calls.length (p.t.calls.flatMap encK) ∧ Sees w (.slice p.x.a1 p.t.ans.length p.x.c1) 3 p.t.ans.length (p.t.ans.flatMap encA) ∧ Sees w (.slice p.x.a2 p.t.rd.length p.x.c2) 1 p.t.rd.length (p.t.rd.map str) ∧ Sees w (.slice p.x.a3 p.t.wr.length p.x.c3) 1 p.t.wr.length (p.t.wr.map str) ∧ Sees w (.slice p.x.a4 p.t.marks.length p.x.c4) 1 p.t.marks.length (p.t.marks.map (Value.int .i64)) := ⟨h.head, h.tail.head, h.tail.tail.head, h.tail.tail.tail.head, h.tail.tail.tail.tail.head⟩
theorem seesXE {w : World} {p : TX} (h : SeesAE w (rdsX p)) : SeesE w (.slice p.x.a0 p.t.calls.length p.x.c0) 6 p.t.calls.length (p.t.calls.flatMap encK) ∧ SeesE w (.slice p.x.a1 p.t.ans.length p.x.c1) 3 p.t.ans.length (p.t.ans.flatMap encA) ∧ SeesE w (.slice p.x.a2 p.t.rd.length p.x.c2) 1 p.t.rd.length (p.t.rd.map str) ∧ SeesE w (.slice p.x.a3 p.t.wr.length p.x.c3) 1 p.t.wr.length (p.t.wr.map str) ∧ SeesE w (.slice p.x.a4 p.t.marks.length p.x.c4) 1 p.t.marks.length (p.t.marks.map (Value.int .i64)) := ⟨h.head, h.tail.head, h.tail.tail.head, h.tail.tail.tail.head, h.tail.tail.tail.tail.head⟩
theorem seesX_mk {w : World} {p : TX} (h0 : Sees w (.slice p.x.a0 p.t.calls.length p.x.c0) 6 p.t.calls.length (p.t.calls.flatMap encK)) (h1 : Sees w (.slice p.x.a1 p.t.ans.length p.x.c1) 3 p.t.ans.length (p.t.ans.flatMap encA)) (h2 : Sees w (.slice p.x.a2 p.t.rd.length p.x.c2) 1 p.t.rd.length (p.t.rd.map str)) (h3 : Sees w (.slice p.x.a3 p.t.wr.length p.x.c3) 1 p.t.wr.length (p.t.wr.map str)) (h4 : Sees w (.slice p.x.a4 p.t.marks.length p.x.c4) 1 p.t.marks.length (p.t.marks.map (Value.int .i64))) : SeesA w (rdsX p) := SeesA.cons h0 (SeesA.cons h1 (SeesA.cons h2 (SeesA.cons h3 (SeesA.cons h4 SeesA.nil))))
theorem TD.same {a b : TD} : a = b ↔ a.id = b.id ∧ a.age = b.age ∧ a.proc = b.proc ∧ a.began = b.began ∧ a.calls = b.calls ∧ a.ans = b.ans ∧ a.rd = b.rd ∧ a.wr = b.wr ∧ a.marks = b.marks ∧ a.state = b.state := by cases a; cases b; simp
instance decTD : DecidableEq TD := fun a b => decidable_of_iff _ TD.same.symm
def szTxF (t : TD) (l : Int) : Int := chk (szLS szCallF t.calls l) fun l => chk (szLS szAnsF t.ans l) fun l => chk (szTouch t.rd t.wr l) fun l => chk (szIntF t.marks l) id
theorem szTxF_le (t : TD) (l : Int) (h : 0 ≤ l) : szTxF t l ≤ l ∧ -1 ≤ szTxF t l := chk_le (by omega) (szLS_le szCallF_le t.calls _ (by omega)) (fun hx => chk_le (by omega) (szLS_le szAnsF_le t.ans _ (by omega)) (fun hx => chk_le (by omega) (szTouch_le t.rd t.wr _ (by omega)) (fun hx => chk_le (by omega) (szIntF_le t.marks _ (by omega)) (fun hx => ⟨Int.le_refl _, by simp only [id]; omega⟩))))
structure TD.lim (t : TD) (n : Nat) : Prop where
  l0 : t.calls.length ≤ n
  l1 : t.ans.length ≤ n
  l2 : t.rd.length ≤ n
  l3 : t.wr.length ≤ n
  l4 : t.marks.length ≤ n
theorem TD.lim.mono {t : TD} {n m : Nat} (h : t.lim n) (hm : n ≤ m) : t.lim m := ⟨Nat.le_trans h.l0 hm, Nat.le_trans h.l1 hm, Nat.le_trans h.l2 hm, Nat.le_trans h.l3 hm, Nat.le_trans h.l4 hm⟩
structure TD.okz (t : TD) : Prop where
  k0 : okRK t.calls
  k1 : okRA t.ans
  k2 : okS t.rd
  k3 : okS t.wr
  k4 : okRI t.marks
def cntX (p : TX) : Nat := 1 + 1 + 1 + 1 + (6 * p.t.calls.length) + (3 * p.t.ans.length) + (p.t.rd.length) + (p.t.wr.length) + (1 * p.t.marks.length) + 1
def cntXd (t : TD) : Nat := 1 + 1 + 1 + 1 + (6 * t.calls.length) + (3 * t.ans.length) + (t.rd.length) + (t.wr.length) + (1 * t.marks.length) + 1
theorem szTxF_all {t : TD} {l : Int} (h0 : 0 ≤ l) (h : ¬ szTxF t l < 0) : (t.calls.length : Int) ≤ l ∧ (t.ans.length : Int) ≤ l ∧ (t.rd.length : Int) ≤ l ∧ (t.wr.length : Int) ≤ l ∧ (t.marks.length : Int) ≤ l ∧ (cntXd t : Int) ≤ 7 + 7 * (l - szTxF t l) := by
  unfold szTxF at h ⊢
  obtain ⟨n0, h, e0⟩ := chk_pos h
  have le0 := szLS_le szCallF_le t.calls _ (by omega)
  have tk0 := szLS_take szCallF_le n0
  obtain ⟨n1, h, e1⟩ := chk_pos h
  have le1 := szLS_le szAnsF_le t.ans _ (by omega)
  have tk1 := szLS_take szAnsF_le n1
  obtain ⟨n2, h, e2⟩ := chk_pos h
  have le2 := szTouch_le t.rd t.wr _ (by omega)
  have tk2 := szTouch_take n2
  obtain ⟨n3, h, e3⟩ := chk_pos h
  have le3 := szIntF_le t.marks _ (by omega)
  have tk3 := szIntF_take n3
  simp only [e0, e1, e2, e3, id_eq, cntXd] at *
  omega
def mkX (p : TX) (k : Nat) : TX := ⟨p.x, ⟨((k : Nat) : Int), ((k + 1 : Nat) : Int), ((k + 1 + 1 : Nat) : Int), ((k + 1 + 1 + 1 : Nat) : Int), markG mkK 6 p.t.calls (k + 1 + 1 + 1 + 1), markG mkA 3 p.t.ans (k + 1 + 1 + 1 + 1 + 6 * p.t.calls.length), markS p.t.rd (k + 1 + 1 + 1 + 1 + 6 * p.t.calls.length + 3 * p.t.ans.length), markS p.t.wr (k + 1 + 1 + 1 + 1 + 6 * p.t.calls.length + 3 * p.t.ans.length + p.t.rd.length), markG mkI 1 p.t.marks (k + 1 + 1 + 1 + 1 + 6 * p.t.calls.length + 3 * p.t.ans.length + p.t.rd.length + p.t.wr.length), ((k + 1 + 1 + 1 + 1 + 6 * p.t.calls.length + 3 * p.t.ans.length + p.t.rd.length + p.t.wr.length + 1 * p.t.marks.length : Nat) : Int)⟩⟩
theorem encX_mk (p : TX) (k : Nat) : encX (mkX p k) = [.int .i64 ((k : Nat) : Int), .int .i64 ((k + 1 : Nat) : Int), .int .i64 ((k + 1 + 1 : Nat) : Int), .int .i64 ((k + 1 + 1 + 1 : Nat) : Int), .slice p.x.a0 p.t.calls.length p.x.c0, .slice p.x.a1 p.t.ans.length p.x.c1, .slice p.x.a2 p.t.rd.length p.x.c2, .slice p.x.a3 p.t.wr.length p.x.c3, .slice p.x.a4 p.t.marks.length p.x.c4, .int .i64 ((k + 1 + 1 + 1 + 1 + 6 * p.t.calls.length + 3 * p.t.ans.length + p.t.rd.length + p.t.wr.length + 1 * p.t.marks.length : Nat) : Int)] := by simp only [mkX, encX, markG_len, markS_len, markC_len]
theorem seesX_mk' {w : World} {p : TX} {k : Nat} (h : SeesA w (rdsX (mkX p k))) : Sees w (.slice p.x.a0 p.t.calls.length p.x.c0) 6 p.t.calls.length ((markG mkK 6 p.t.calls (k + 1 + 1 + 1 + 1)).flatMap encK) ∧ Sees w (.slice p.x.a1 p.t.ans.length p.x.c1) 3 p.t.ans.length ((markG mkA 3 p.t.ans (k + 1 + 1 + 1 + 1 + 6 * p.t.calls.length)).flatMap encA) ∧ Sees w (.slice p.x.a2 p.t.rd.length p.x.c2) 1 p.t.rd.length ((markS p.t.rd (k + 1 + 1 + 1 + 1 + 6 * p.t.calls.length + 3 * p.t.ans.length)).map str) ∧ Sees w (.slice p.x.a3 p.t.wr.length p.x.c3) 1 p.t.wr.length ((markS p.t.wr (k + 1 + 1 + 1 + 1 + 6 * p.t.calls.length + 3 * p.t.ans.length + p.t.rd.length)).map str) ∧ Sees w (.slice p.x.a4 p.t.marks.length p.x.c4) 1 p.t.marks.length ((markG mkI 1 p.t.marks (k + 1 + 1 + 1 + 1 + 6 * p.t.calls.length + 3 * p.t.ans.length + p.t.rd.length + p.t.wr.length)).map (Value.int .i64)) := by
  have := seesX h
  simpa only [mkX, markG_len, markS_len, markC_len] using this
theorem rdsX_mk (p : TX) (k : Nat) : rdsX (mkX p k) = [⟨.slice p.x.a0 p.t.calls.length p.x.c0, 97, 6, p.t.calls.length, (markG mkK 6 p.t.calls (k + 1 + 1 + 1 + 1)).flatMap encK⟩, ⟨.slice p.x.a1 p.t.ans.length p.x.c1, 99, 3, p.t.ans.length, (markG mkA 3 p.t.ans (k + 1 + 1 + 1 + 1 + 6 * p.t.calls.length)).flatMap encA⟩, ⟨.slice p.x.a2 p.t.rd.length p.x.c2, 9, 1, p.t.rd.length, (markS p.t.rd (k + 1 + 1 + 1 + 1 + 6 * p.t.calls.length + 3 * p.t.ans.length)).map str⟩, ⟨.slice p.x.a3 p.t.wr.length p.x.c3, 9, 1, p.t.wr.length, (markS p.t.wr (k + 1 + 1 + 1 + 1 + 6 * p.t.calls.length + 3 * p.t.ans.length + p.t.rd.length)).map str⟩, ⟨.slice p.x.a4 p.t.marks.length p.x.c4, 3, 1, p.t.marks.length, (markG mkI 1 p.t.marks (k + 1 + 1 + 1 + 1 + 6 * p.t.calls.length + 3 * p.t.ans.length + p.t.rd.length + p.t.wr.length)).map (Value.int .i64)⟩] := by simp only [mkX, rdsX, markG_len, markS_len, markC_len]
structure ED where
  seq : Int
  kind : Int
  tx : Int
  steps : List SP
  ans : List AN
  began : Int
  ended : Int
  laid : Bool
structure EA where
  a0 : Option Addr
  c0 : Nat
  a1 : Option Addr
  c1 : Nat
structure EX where
  x : EA
  t : ED
def encE (p : EX) : List Value := [.int .i64 p.t.seq, .int .i64 p.t.kind, .int .i64 p.t.tx, .slice p.x.a0 p.t.steps.length p.x.c0, .slice p.x.a1 p.t.ans.length p.x.c1, .int .i64 p.t.began, .int .i64 p.t.ended, .bool p.t.laid]
def rdsE (p : EX) : List RD := [⟨.slice p.x.a0 p.t.steps.length p.x.c0, 101, 7, p.t.steps.length, p.t.steps.flatMap encP⟩, ⟨.slice p.x.a1 p.t.ans.length p.x.c1, 99, 3, p.t.ans.length, p.t.ans.flatMap encA⟩]
theorem encE_len (p : EX) : (encE p).length = 8 := rfl
def e0 : EX := ⟨⟨none, 0, none, 0⟩, ⟨0, 0, 0, [], [], 0, 0, false⟩⟩
theorem oneE (l : List EX) : ∀ u ∈ l.flatMap encE, u.oneCell' = true := flat_one (fun c u hu => by
  simp only [encE, List.mem_cons, List.not_mem_nil, or_false] at hu
  rcases hu with rfl | rfl | rfl | rfl | rfl | rfl | rfl | rfl <;> rfl) l
theorem flatE (m : Nat) : (List.replicate m [Value.int .i64 0, Value.int .i64 0, Value.int .i64 0, Value.slice none 0 0, Value.slice none 0 0, Value.int .i64 0, Value.int .i64 0, Value.bool false]).flatten = (List.replicate m e0).flatMap encE := flat_make (enc := encE) e0 m
theorem seesE {w : World} {p : EX} (h : SeesA w (rdsE p)) : Sees w (.slice p.x.a0 p.t.steps.length p.x.c0) 7 p.t.steps.length (p.t.steps.flatMap encP) ∧ Sees w (.slice p.x.a1 p.t.ans.length p.x.c1) 3 p.t.ans.length (p.t.ans.flatMap encA) := ⟨h.head, h.tail.head⟩
theorem seesEE {w : World} {p : EX} (h : SeesAE w (rdsE p)) : SeesE w (.slice p.x.a0 p.t.steps.length p.x.c0) 7 p.t.steps.length (p.t.steps.flatMap encP) ∧ SeesE w (.slice p.x.a1 p.t.ans.length p.x.c1) 3 p.t.ans.length (p.t.ans.flatMap encA) := ⟨h.head, h.tail.head⟩
theorem seesE_mk {w : World} {p : EX} (h0 : Sees w (.slice p.x.a0 p.t.steps.length p.x.c0) 7 p.t.steps.length (p.t.steps.flatMap encP)) (h1 : Sees w (.slice p.x.a1 p.t.ans.length p.x.c1) 3 p.t.ans.length (p.t.ans.flatMap encA)) : SeesA w (rdsE p) := SeesA.cons h0 (SeesA.cons h1 SeesA.nil)
theorem ED.same {a b : ED} : a = b ↔ a.seq = b.seq ∧ a.kind = b.kind ∧ a.tx = b.tx ∧ a.steps = b.steps ∧ a.ans = b.ans ∧ a.began = b.began ∧ a.ended = b.ended ∧ a.laid = b.laid := by cases a; cases b; simp
instance decED : DecidableEq ED := fun a b => decidable_of_iff _ ED.same.symm
def szEntryF (t : ED) (l : Int) : Int := chk (szLS szStepF t.steps l) fun l => chk (szLS szAnsF t.ans l) id
theorem szEntryF_le (t : ED) (l : Int) (h : 0 ≤ l) : szEntryF t l ≤ l ∧ -1 ≤ szEntryF t l := chk_le (by omega) (szLS_le szStepF_le t.steps _ (by omega)) (fun hx => chk_le (by omega) (szLS_le szAnsF_le t.ans _ (by omega)) (fun hx => ⟨Int.le_refl _, by simp only [id]; omega⟩))
structure ED.lim (t : ED) (n : Nat) : Prop where
  l0 : t.steps.length ≤ n
  l1 : t.ans.length ≤ n
theorem ED.lim.mono {t : ED} {n m : Nat} (h : t.lim n) (hm : n ≤ m) : t.lim m := ⟨Nat.le_trans h.l0 hm, Nat.le_trans h.l1 hm⟩
structure ED.okz (t : ED) : Prop where
  k0 : okRP t.steps
  k1 : okRA t.ans
def cntE (p : EX) : Nat := 1 + 1 + 1 + (7 * p.t.steps.length) + (3 * p.t.ans.length) + 1 + 1 + 1
def cntEd (t : ED) : Nat := 1 + 1 + 1 + (7 * t.steps.length) + (3 * t.ans.length) + 1 + 1 + 1
theorem szEntryF_all {t : ED} {l : Int} (h0 : 0 ≤ l) (h : ¬ szEntryF t l < 0) : (t.steps.length : Int) ≤ l ∧ (t.ans.length : Int) ≤ l ∧ (cntEd t : Int) ≤ 7 + 7 * (l - szEntryF t l) := by
  unfold szEntryF at h ⊢
  obtain ⟨n0, h, e0⟩ := chk_pos h
  have le0 := szLS_le szStepF_le t.steps _ (by omega)
  have tk0 := szLS_take szStepF_le n0
  obtain ⟨n1, h, e1⟩ := chk_pos h
  have le1 := szLS_le szAnsF_le t.ans _ (by omega)
  have tk1 := szLS_take szAnsF_le n1
  simp only [e0, e1, id_eq, cntEd] at *
  omega
def mkE (p : EX) (k : Nat) : EX := ⟨p.x, ⟨((k : Nat) : Int), ((k + 1 : Nat) : Int), ((k + 1 + 1 : Nat) : Int), markG mkP 7 p.t.steps (k + 1 + 1 + 1), markG mkA 3 p.t.ans (k + 1 + 1 + 1 + 7 * p.t.steps.length), ((k + 1 + 1 + 1 + 7 * p.t.steps.length + 3 * p.t.ans.length : Nat) : Int), ((k + 1 + 1 + 1 + 7 * p.t.steps.length + 3 * p.t.ans.length + 1 : Nat) : Int), decide ((((k + 1 + 1 + 1 + 7 * p.t.steps.length + 3 * p.t.ans.length + 1 + 1) % 3 : Nat) : Int) = 0)⟩⟩
theorem encE_mk (p : EX) (k : Nat) : encE (mkE p k) = [.int .i64 ((k : Nat) : Int), .int .i64 ((k + 1 : Nat) : Int), .int .i64 ((k + 1 + 1 : Nat) : Int), .slice p.x.a0 p.t.steps.length p.x.c0, .slice p.x.a1 p.t.ans.length p.x.c1, .int .i64 ((k + 1 + 1 + 1 + 7 * p.t.steps.length + 3 * p.t.ans.length : Nat) : Int), .int .i64 ((k + 1 + 1 + 1 + 7 * p.t.steps.length + 3 * p.t.ans.length + 1 : Nat) : Int), .bool (decide ((((k + 1 + 1 + 1 + 7 * p.t.steps.length + 3 * p.t.ans.length + 1 + 1) % 3 : Nat) : Int) = 0))] := by simp only [mkE, encE, markG_len, markS_len, markC_len]
theorem seesE_mk' {w : World} {p : EX} {k : Nat} (h : SeesA w (rdsE (mkE p k))) : Sees w (.slice p.x.a0 p.t.steps.length p.x.c0) 7 p.t.steps.length ((markG mkP 7 p.t.steps (k + 1 + 1 + 1)).flatMap encP) ∧ Sees w (.slice p.x.a1 p.t.ans.length p.x.c1) 3 p.t.ans.length ((markG mkA 3 p.t.ans (k + 1 + 1 + 1 + 7 * p.t.steps.length)).flatMap encA) := by
  have := seesE h
  simpa only [mkE, markG_len, markS_len, markC_len] using this
theorem rdsE_mk (p : EX) (k : Nat) : rdsE (mkE p k) = [⟨.slice p.x.a0 p.t.steps.length p.x.c0, 101, 7, p.t.steps.length, (markG mkP 7 p.t.steps (k + 1 + 1 + 1)).flatMap encP⟩, ⟨.slice p.x.a1 p.t.ans.length p.x.c1, 99, 3, p.t.ans.length, (markG mkA 3 p.t.ans (k + 1 + 1 + 1 + 7 * p.t.steps.length)).flatMap encA⟩] := by simp only [mkE, rdsE, markG_len, markS_len, markC_len]
structure DD where
  slots : List SD
  jt : Str
  js : Int
/-- A disk and where it lies. -/
structure DX where
  a : Option Addr
  c : Nat
  l : List OX
  jt : Str
  js : Int
def DX.dat (d : DX) : DD := ⟨d.l.map OX.t, d.jt, d.js⟩
def rdsOS (a : Option Addr) (c : Nat) (l : List OX) : List RD := ⟨.slice a l.length c, 57, 3, l.length, l.flatMap encO⟩ :: l.flatMap rdsO
def rdsD (d : DX) : List RD := ⟨.slice d.a d.l.length d.c, 57, 3, d.l.length, d.l.flatMap encO⟩ :: d.l.flatMap rdsO
theorem DD.same {a b : DD} : a = b ↔ a.slots = b.slots ∧ a.jt = b.jt ∧ a.js = b.js := by cases a; cases b; simp
instance decDD : DecidableEq DD := fun a b => decidable_of_iff _ DD.same.symm
structure DD.lim (d : DD) (n : Nat) : Prop where
  l0 : d.slots.length ≤ n
  l1 : ∀ s ∈ d.slots, s.lim n
structure DD.okz (d : DD) : Prop where
  k0 : d.slots.length ≤ 9223372036854775807
  k1 : ∀ s ∈ d.slots, s.okz
  k2 : d.jt.length ≤ 9223372036854775807
def szJournalF (t : Str) (l : Int) : Int := chk (l - (t.length : Int)) id
def szDiskF (d : DD) (l : Int) : Int := chk (szLS szSlotF d.slots l) fun l => chk (szJournalF d.jt l) id
theorem szJournalF_le (t : Str) (l : Int) (h : 0 ≤ l) : szJournalF t l ≤ l ∧ -1 ≤ szJournalF t l := by unfold szJournalF chk; simp only [id_eq]; split <;> omega
theorem szDiskF_le (d : DD) (l : Int) (h : 0 ≤ l) : szDiskF d l ≤ l ∧ -1 ≤ szDiskF d l := chk_le (by omega) (szLS_le szSlotF_le d.slots _ (by omega)) (fun hx => chk_le (by omega) (szJournalF_le _ _ (by omega)) (fun hx => ⟨Int.le_refl _, by simp only [id]; omega⟩))
theorem cntO_dat (l : List OX) : cntV cntO l = cntV cntOd (l.map OX.t) := by
  induction l with
  | nil => rfl
  | cons x l ih => simp only [cntV, List.map_cons, ih]; rfl
theorem lim_of {α : Type} {f : α → Int → Int} {L : α → Prop} (hf : ∀ x l, 0 ≤ l → f x l ≤ l ∧ -1 ≤ f x l) {s : List α} {l : Int} (hL : ∀ x q, 0 ≤ q → q ≤ l → ¬ f x q < 0 → L x) (h : ¬ szLS f s l < 0) : ∀ x ∈ s, L x := fun x hx => by
  obtain ⟨_, h2⟩ := szLS_mem hf h
  obtain ⟨q, h3, h4, h5⟩ := h2 x hx
  exact hL x q h3 h4 h5
theorem szSlotF_lim {t : SD} {q : Int} (h0 : 0 ≤ q) {n : Nat} (hn : q ≤ n) (h : ¬ szSlotF t q < 0) : t.lim n := by
  have := szSlotF_all h0 h
  exact ⟨by omega⟩
theorem szDiskF_all {d : DD} {l : Int} {n : Nat} (h0 : 0 ≤ l) (hn : l ≤ n) (h : ¬ szDiskF d l < 0) : d.lim n ∧ (d.jt.length : Int) ≤ l ∧ (cntV cntOd d.slots : Int) ≤ 7 * (l - szDiskF d l) ∧ (d.jt.length : Int) + szDiskF d l ≤ l := by
  unfold szDiskF at h ⊢
  obtain ⟨n0, h, e0⟩ := chk_pos h
  have le0 := szLS_le szSlotF_le d.slots l h0
  have tk0 := szLS_take szSlotF_le n0
  have ct := szLS_cnt (ct := cntOd) szSlotF_le (fun x l h0 h => (szSlotF_all h0 h).2) h0 n0
  have hl := lim_of (L := fun s : SD => s.lim n) szSlotF_le (fun x q h1 h2 h3 => szSlotF_lim h1 (by omega) h3) n0
  obtain ⟨n1, h, e1⟩ := chk_pos h
  have le1 := szJournalF_le d.jt (szLS szSlotF d.slots l) (by omega)
  have hj : szJournalF d.jt (szLS szSlotF d.slots l) = szLS szSlotF d.slots l - (d.jt.length : Int) := by
    have := chk_pos (x := szLS szSlotF d.slots l - (d.jt.length : Int)) (f := id) n1
    exact this.2.2
  simp only [e0, e1, id_eq] at *
  exact ⟨⟨by omega, hl⟩, by omega, by omega, by omega⟩
def mkD (d : DX) (k : Nat) : DX := { d with l := markV mkO cntO d.l k }
structure KD where
  store : List Cell
  txs : List TD
  dk : DD
  seq : Int
  next : Int
  time : Int
  hist : List ED
  seen : List Str
  room : Bool
/-- A kernel and where it lies. -/
structure KX where
  a0 : Option Addr
  c0 : Nat
  store : List Cell
  a1 : Option Addr
  c1 : Nat
  txs : List TX
  dk : DX
  seq : Int
  next : Int
  time : Int
  a2 : Option Addr
  c2 : Nat
  hist : List EX
  a3 : Option Addr
  c3 : Nat
  seen : List Str
  room : Bool
def KX.dat (k : KX) : KD := ⟨k.store, k.txs.map TX.t, k.dk.dat, k.seq, k.next, k.time, k.hist.map EX.t, k.seen, k.room⟩
def rdsXS (a : Option Addr) (c : Nat) (l : List TX) : List RD := ⟨.slice a l.length c, 69, 10, l.length, l.flatMap encX⟩ :: l.flatMap rdsX
def rdsES (a : Option Addr) (c : Nat) (l : List EX) : List RD := ⟨.slice a l.length c, 75, 8, l.length, l.flatMap encE⟩ :: l.flatMap rdsE
def rdsN (k : KX) : List RD := ⟨.slice k.a0 k.store.length k.c0, 62, 2, k.store.length, k.store.flatMap encC⟩ :: ⟨.slice k.a3 k.seen.length k.c3, 9, 1, k.seen.length, k.seen.map str⟩ :: (rdsXS k.a1 k.c1 k.txs ++ (rdsD k.dk ++ rdsES k.a2 k.c2 k.hist))
theorem KD.same {a b : KD} : a = b ↔ a.store = b.store ∧ a.txs = b.txs ∧ a.dk = b.dk ∧ a.seq = b.seq ∧ a.next = b.next ∧ a.time = b.time ∧ a.hist = b.hist ∧ a.seen = b.seen ∧ a.room = b.room := by cases a; cases b; simp
instance decKD : DecidableEq KD := fun a b => decidable_of_iff _ KD.same.symm
structure KD.lim (k : KD) (n : Nat) : Prop where
  l0 : k.store.length ≤ n
  l1 : k.txs.length ≤ n
  l2 : ∀ t ∈ k.txs, t.lim n
  l3 : k.dk.lim n
  l4 : k.hist.length ≤ n
  l5 : ∀ t ∈ k.hist, t.lim n
  l6 : k.seen.length ≤ n
structure KD.okz (k : KD) : Prop where
  k0 : okC k.store
  k1 : k.txs.length ≤ 9223372036854775807
  k2 : ∀ t ∈ k.txs, t.okz
  k3 : k.dk.okz
  k4 : k.hist.length ≤ 9223372036854775807
  k5 : ∀ t ∈ k.hist, t.okz
  k6 : okS k.seen
def szKernelF (k : KD) (l : Int) : Int := chk (szCellS k.store l) fun l => chk (szLS szTxF k.txs l) fun l => chk (szDiskF k.dk l) fun l => chk (szLS szEntryF k.hist l) fun l => chk (szStringS k.seen l) id
theorem szKernelF_le (k : KD) (l : Int) (h : 0 ≤ l) : szKernelF k l ≤ l ∧ -1 ≤ szKernelF k l := chk_le (by omega) (szCellS_le _ _ (by omega)) (fun hx => chk_le (by omega) (szLS_le szTxF_le _ _ (by omega)) (fun hx => chk_le (by omega) (szDiskF_le _ _ (by omega)) (fun hx => chk_le (by omega) (szLS_le szEntryF_le _ _ (by omega)) (fun hx => chk_le (by omega) (szStringS_le _ _ (by omega)) (fun hx => ⟨Int.le_refl _, by simp only [id]; omega⟩)))))
theorem cntX_dat (l : List TX) : cntV cntX l = cntV cntXd (l.map TX.t) := by
  induction l with
  | nil => rfl
  | cons x l ih => simp only [cntV, List.map_cons, ih]; rfl
theorem cntE_dat (l : List EX) : cntV cntE l = cntV cntEd (l.map EX.t) := by
  induction l with
  | nil => rfl
  | cons x l ih => simp only [cntV, List.map_cons, ih]; rfl
/-- How many marks a kernel takes. -/
def KD.cnt (k : KD) : Nat := 2 * k.store.length + cntV cntXd k.txs + cntV cntOd k.dk.slots + cntV cntEd k.hist + k.seen.length
theorem szTxF_lim {t : TD} {q : Int} (h0 : 0 ≤ q) {n : Nat} (hn : q ≤ n) (h : ¬ szTxF t q < 0) : t.lim n := by
  have := szTxF_all h0 h
  exact ⟨by omega, by omega, by omega, by omega, by omega⟩
theorem szEntryF_lim {t : ED} {q : Int} (h0 : 0 ≤ q) {n : Nat} (hn : q ≤ n) (h : ¬ szEntryF t q < 0) : t.lim n := by
  have := szEntryF_all h0 h
  exact ⟨by omega, by omega⟩
theorem szKernelF_all {k : KD} {l : Int} {n : Nat} (h0 : 0 ≤ l) (hn : l ≤ n) (h : ¬ szKernelF k l < 0) : k.lim n ∧ (k.cnt : Int) ≤ 7 * (l - szKernelF k l) ∧ (k.dk.jt.length : Int) ≤ l := by
  unfold szKernelF at h ⊢
  obtain ⟨n0, h, e0⟩ := chk_pos h
  have le0 := szCellS_le k.store l h0
  have tk0 := szCellS_take n0
  obtain ⟨n1, h, e1⟩ := chk_pos h
  have le1 := szLS_le szTxF_le k.txs (szCellS k.store l) (by omega)
  have tk1 := szLS_take szTxF_le n1
  have ct1 := szLS_cnt (ct := cntXd) szTxF_le (fun x l h0 h => (szTxF_all h0 h).2.2.2.2.2) (by omega) n1
  have hl1 := lim_of (L := fun s : TD => s.lim n) szTxF_le (fun x q h1 h2 h3 => szTxF_lim h1 (by omega) h3) n1
  obtain ⟨n2, h, e2⟩ := chk_pos h
  have le2 := szDiskF_le k.dk (szLS szTxF k.txs (szCellS k.store l)) (by omega)
  have al2 := szDiskF_all (n := n) (by omega) (by omega) n2
  obtain ⟨n3, h, e3⟩ := chk_pos h
  have le3 := szLS_le szEntryF_le k.hist (szDiskF k.dk (szLS szTxF k.txs (szCellS k.store l))) (by omega)
  have tk3 := szLS_take szEntryF_le n3
  have ct3 := szLS_cnt (ct := cntEd) szEntryF_le (fun x l h0 h => (szEntryF_all h0 h).2.2) (by omega) n3
  have hl3 := lim_of (L := fun s : ED => s.lim n) szEntryF_le (fun x q h1 h2 h3 => szEntryF_lim h1 (by omega) h3) n3
  obtain ⟨n4, h, e4⟩ := chk_pos h
  have tk4 := szStringS_take n4
  simp only [e0, e1, e2, e3, e4, id_eq, KD.cnt] at *
  exact ⟨⟨by omega, by omega, hl1, al2.1, by omega, hl3, by omega⟩, by omega, by omega⟩
theorem seesN {w : World} {k : KX} (h : SeesA w (rdsN k)) : Sees w (.slice k.a0 k.store.length k.c0) 2 k.store.length (k.store.flatMap encC) ∧ Sees w (.slice k.a3 k.seen.length k.c3) 1 k.seen.length (k.seen.map str) ∧ SeesA w (rdsXS k.a1 k.c1 k.txs) ∧ SeesA w (rdsD k.dk) ∧ SeesA w (rdsES k.a2 k.c2 k.hist) :=
  ⟨h.head, h.tail.head, h.tail.tail.left, h.tail.tail.right.left, h.tail.tail.right.right⟩
theorem seesNE {w : World} {k : KX} (h : SeesAE w (rdsN k)) : SeesE w (.slice k.a0 k.store.length k.c0) 2 k.store.length (k.store.flatMap encC) ∧ SeesE w (.slice k.a3 k.seen.length k.c3) 1 k.seen.length (k.seen.map str) ∧ SeesAE w (rdsXS k.a1 k.c1 k.txs) ∧ SeesAE w (rdsD k.dk) ∧ SeesAE w (rdsES k.a2 k.c2 k.hist) :=
  ⟨h.head, h.tail.head, h.tail.tail.left, h.tail.tail.right.left, h.tail.tail.right.right⟩
theorem seesN_mk {w : World} {k : KX} (h0 : Sees w (.slice k.a0 k.store.length k.c0) 2 k.store.length (k.store.flatMap encC)) (h1 : Sees w (.slice k.a3 k.seen.length k.c3) 1 k.seen.length (k.seen.map str)) (h2 : SeesA w (rdsXS k.a1 k.c1 k.txs)) (h3 : SeesA w (rdsD k.dk)) (h4 : SeesA w (rdsES k.a2 k.c2 k.hist)) : SeesA w (rdsN k) :=
  SeesA.cons h0 (SeesA.cons h1 (h2.app (h3.app h4)))
theorem KD.lim.mono {k : KD} {n m : Nat} (h : k.lim n) (hm : n ≤ m) : k.lim m := ⟨Nat.le_trans h.l0 hm, Nat.le_trans h.l1 hm, fun t ht => (h.l2 t ht).mono hm, ⟨Nat.le_trans h.l3.l0 hm, fun t ht => (h.l3.l1 t ht).mono hm⟩, Nat.le_trans h.l4 hm, fun t ht => (h.l5 t ht).mono hm, Nat.le_trans h.l6 hm⟩
def KD.hour (k : KD) : KD := { k with time := IntKind.i64.wrap (k.time + 1) }
theorem KD.hour_lim {k : KD} {n : Nat} (h : k.lim n) : k.hour.lim n := ⟨h.l0, h.l1, h.l2, h.l3, h.l4, h.l5, h.l6⟩
theorem KD.hour_cnt (k : KD) : k.hour.cnt = k.cnt := rfl
def mkN (k : KX) (m : Nat) : KX := { k with store := markC k.store m, txs := markV mkX cntX k.txs (m + 2 * k.store.length), dk := mkD k.dk (m + 2 * k.store.length + cntV cntX k.txs), hist := markV mkE cntE k.hist (m + 2 * k.store.length + cntV cntX k.txs + cntV cntO k.dk.l), seen := markS k.seen (m + 2 * k.store.length + cntV cntX k.txs + cntV cntO k.dk.l + cntV cntE k.hist) }
def KX.cnt (k : KX) : Nat := 2 * k.store.length + cntV cntX k.txs + cntV cntO k.dk.l + cntV cntE k.hist + k.seen.length
theorem KX.cnt_dat (k : KX) : k.cnt = k.dat.cnt := by simp only [KX.cnt, KD.cnt, KX.dat, DX.dat, cntX_dat, cntO_dat, cntE_dat]
theorem seesN_mk' {w : World} {k : KX} {m : Nat} (h : SeesA w (rdsN (mkN k m))) : Sees w (.slice k.a0 k.store.length k.c0) 2 k.store.length ((markC k.store m).flatMap encC) ∧ Sees w (.slice k.a3 k.seen.length k.c3) 1 k.seen.length ((markS k.seen (m + 2 * k.store.length + cntV cntX k.txs + cntV cntO k.dk.l + cntV cntE k.hist)).map str) ∧ SeesA w (rdsXS k.a1 k.c1 (markV mkX cntX k.txs (m + 2 * k.store.length))) ∧ SeesA w (rdsOS k.dk.a k.dk.c (markV mkO cntO k.dk.l (m + 2 * k.store.length + cntV cntX k.txs))) ∧ SeesA w (rdsES k.a2 k.c2 (markV mkE cntE k.hist (m + 2 * k.store.length + cntV cntX k.txs + cntV cntO k.dk.l))) := by
  obtain ⟨h0, h1, h2, h3, h4⟩ := seesN h
  refine ⟨?_, ?_, h2, h3, h4⟩
  · simpa only [mkN, markC_len] using h0
  · simpa only [mkN, markS_len] using h1
section
variable {w0 w : World} {D : List Nat} {L F : List Res} {k : KX}
theorem St.gathN (is : List Nat) (hp : pick is L = some ([.row (.slice k.a0 k.store.length k.c0) 62 2 k.store.length (k.store.flatMap encC), .row (.slice k.a3 k.seen.length k.c3) 9 1 k.seen.length (k.seen.map str), .rows (rdsXS k.a1 k.c1 k.txs), .rows (rdsD k.dk), .rows (rdsES k.a2 k.c2 k.hist)], F)) (hw : St w0 D L w) : St w0 D (.rows (rdsN k) :: F) w := by
  have h1 := hw.perm (pick_perm is hp).symm
  have h2 := St.joinR [2, 2, 2] (rs := rdsXS k.a1 k.c1 k.txs ++ (rdsD k.dk ++ rdsES k.a2 k.c2 k.hist)) rfl rfl h1
  have h3 := St.consR [2, 0] (r := ⟨.slice k.a3 k.seen.length k.c3, 9, 1, k.seen.length, k.seen.map str⟩) rfl h2
  exact St.consR [1, 0] (r := ⟨.slice k.a0 k.store.length k.c0, 62, 2, k.store.length, k.store.flatMap encC⟩) rfl h3
theorem St.openN (hw : St w0 D (.rows (rdsN k) :: F) w) : St w0 D (.row (.slice k.a0 k.store.length k.c0) 62 2 k.store.length (k.store.flatMap encC) :: .row (.slice k.a3 k.seen.length k.c3) 9 1 k.seen.length (k.seen.map str) :: .rows (rdsXS k.a1 k.c1 k.txs) :: .rows (rdsD k.dk) :: .rows (rdsES k.a2 k.c2 k.hist) :: F) w := by
  have h1 := St.headR 0 rfl hw
  have h2 := St.headR 1 rfl h1
  have h3 := St.splitR 1 rfl rfl h2
  have h4 : St w0 D ([.row (.slice k.a0 k.store.length k.c0) 62 2 k.store.length (k.store.flatMap encC), .row (.slice k.a3 k.seen.length k.c3) 9 1 k.seen.length (k.seen.map str), .rows (rdsXS k.a1 k.c1 k.txs), .rows (rdsD k.dk), .rows (rdsES k.a2 k.c2 k.hist)] ++ F) w := h3.perm (pick_perm [4, 3, 0, 0, 0] rfl).symm
  exact h4
theorem St.markN {m : Nat} (hw : St w0 D [.row (.slice k.a0 k.store.length k.c0) 62 2 k.store.length ((markC k.store m).flatMap encC), .row (.slice k.a3 k.seen.length k.c3) 9 1 k.seen.length ((markS k.seen (m + 2 * k.store.length + cntV cntX k.txs + cntV cntO k.dk.l + cntV cntE k.hist)).map str), .rows (rdsXS k.a1 k.c1 (markV mkX cntX k.txs (m + 2 * k.store.length))), .rows (rdsOS k.dk.a k.dk.c (markV mkO cntO k.dk.l (m + 2 * k.store.length + cntV cntX k.txs))), .rows (rdsES k.a2 k.c2 (markV mkE cntE k.hist (m + 2 * k.store.length + cntV cntX k.txs + cntV cntO k.dk.l)))] w) : St w0 D [.rows (rdsN (mkN k m))] w := by
  have e1 : (markC k.store m).length = k.store.length := markC_len _ _
  have e2 := markS_len k.seen (m + 2 * k.store.length + cntV cntX k.txs + cntV cntO k.dk.l + cntV cntE k.hist)
  refine St.gathN (k := mkN k m) [0, 0, 0, 0, 0] (F := []) ?_ hw
  simp only [mkN, e1, e2]
  rfl
end
end Go.Proofs.YtkmpmjficoohkaaGreatDoor
