/-
  Texts of the walk, joined: what each one proves stands at its theorems.
-/
import Derived.Test.YtkmpmjficoohkaaGreatDatV
import Derived.Test.YtkmpmjficoohkaaGreatFlat
set_option linter.unusedSimpArgs false
set_option linter.unusedVariables false
set_option linter.unnecessarySimpa false
namespace Go.Proofs.YtkmpmjficoohkaaGreat
open Go Go.RowKit
section
variable {P : Program} {ops : Array Oper} {Q : Exit → Act → World → Prop} {n : Nat} {w0 : World} {D : List Nat} {L M : List Res} {e : Env} {z fuel : Nat} {listed : Array Bool}
theorem JX.opOnD {i : Nat} {o : Oper} {Φ : Value → List Res → Prop} {j : Nat} {b : Bool} {t : Tmp} (hi : ops[i]? = some o) (hg : o.guard = some (j, b)) (hj : (ops[j]?).bind (·.dst) = some t) (ht : Nat.blt t n = true) (hv : e t = .bool b) (ho : JO P n w0 D L e o Φ)
    (h : ∀ v L', Φ v L' → (∀ r ∈ M, r ∈ L') ∧ JA P ops Q n w0 D M z fuel (listed.setIfInBounds i true) L' (updO e o.dst v)) : JX P ops Q n w0 D M z fuel listed L e i := fun w hw => by
  have hlt : t < n := (Nat.blt_eq (x := t) (y := n)) ▸ ht
  have hyy : yielded ops (act n e).tmps j = some b := by simp [yielded, hj, act, hlt, hv]
  unfold wpOp
  simp only [hi]
  rw [if_pos (by simp [Region.wanted, hg, hyy])]
  refine .inl (ho w hw _ Q fun v L' w' hΦ hw' => ?_)
  obtain ⟨h1, h2⟩ := h v L' hΦ
  have hq := hw'.qw.sub h1
  exact ⟨fun _ => .inr hq, h2 w' hw' hq⟩
end
attribute [local irreducible] JL JC JQ JO LO PO JA JX Ct

theorem Y_iSpanHas (a : Str) (b : Str) (ha : a.length ≤ 9223372036854775807) (hb : b.length ≤ 9223372036854775807) :
    Ct Tryz.prog 167 [str a, str b] ([]) (fun _ => True) (fun v A' => ∃ r0, spanHas a b = r0 ∧ v = .bool r0 ∧ A' = []) := by
  refine Ct.intro Tryz.func167 rfl Tryz.ntmps167 (lb rfl) fun w0 hpre => ?_
  refine jC <| jE <| jA (jG (v := .bool false) rfl) <| jD <| jB <| jC <| jC <| jE <| jA (jF (v := str a) rfl) ?_
  refine jH rfl (jU [] Tryz.call165 rfl (N_cutSuffix a [42] (by omega)) rfl (fun _ _ => trivial)) ?_
  rintro _ _ ⟨_, ⟨u_3, b_5, e_1, f_4, rfl, rfl⟩, rfl⟩
  refine jA (jF (v := .tuple #[str u_3, .bool b_5]) rfl) <| jA (PO.extract (v := str u_3) rfl rfl) <| jA (PO.extract (v := .bool b_5) rfl rfl) <| jA (jG (v := str u_3) rfl) <| jA (jG (v := .bool b_5) rfl) <| jD <| jB <| jC <| jE <| jA (jF (v := .bool b_5) rfl) ?_
  refine jD <| jB ?_
  rcases Bool.eq_false_or_eq_true (b_5) with h_6 | h_6
  · refine jS (cB h_6) <| jC <| jE <| jA (jF (v := str b) rfl) <| jA (jF (v := str u_3) rfl) ?_
    refine jH rfl (jU [] Tryz.call166 rfl (N_hasPrefix b u_3) rfl (fun _ _ => trivial)) ?_
    rintro _ _ ⟨_, ⟨b_9, e_7, rfl, rfl⟩, rfl⟩
    refine jA (jG (v := .bool b_9) rfl) <| jD <| jB <| jJ <| jO <| jL (.inl rfl) rfl (jM (v := .bool b_9) rfl) (List.nil_sublist _) ?_
    exact ⟨b_9, (by simp only [spanHas, SB, e_1, h_6, e_7]; all_goals (first | rfl | (simp_all; done) | (simp_all [spanHas]; done))), rfl, rfl⟩
  refine jP (cB h_6) <| jQ <| jB <| jC <| jE <| jA (jF (v := str a) rfl) <| jA (jF (v := str b) rfl) <| jA (PO.eqlS rfl rfl) <| jA (jG (v := .bool (decide (a = b))) rfl) <| jD ?_
  refine jB <| jJ <| jL (.inl rfl) rfl (jM (v := .bool (decide (a = b))) rfl) (List.nil_sublist _) ?_
  exact ⟨(decide (a = b)), (by simp only [spanHas, SB, e_1, h_6]; all_goals (first | rfl | (simp_all; done) | (simp_all [spanHas]; done))), rfl, rfl⟩

theorem Y_iMeet (a : Str) (b : Str) (ha : a.length ≤ 9223372036854775807) (hb : b.length ≤ 9223372036854775807) :
    Ct Tryz.prog 160 [str a, str b] ([]) (fun _ => True) (fun v A' => ∃ r0, meets a b = r0 ∧ v = .bool r0 ∧ A' = []) := by
  refine Ct.intro Tryz.func160 rfl Tryz.ntmps160 (lb rfl) fun w0 hpre => ?_
  refine jC <| jE <| jA (jG (v := .bool false) rfl) <| jD <| jB <| jC <| jE <| jA (jF (v := str a) rfl) ?_
  refine jH rfl (jU [] Tryz.call165 rfl (N_cutSuffix a [42] (by omega)) rfl (fun _ _ => trivial)) ?_
  rintro _ _ ⟨_, ⟨u_3, b_5, e_1, f_4, rfl, rfl⟩, rfl⟩
  refine jA (jF (v := .tuple #[str u_3, .bool b_5]) rfl) <| jA (PO.extract (v := str u_3) rfl rfl) <| jA (PO.extract (v := .bool b_5) rfl rfl) <| jA (jG (v := str u_3) rfl) <| jA (jG (v := .bool b_5) rfl) <| jD <| jB <| jC <| jE <| jA (jF (v := str b) rfl) ?_
  refine jH rfl (jU [] Tryz.call165 rfl (N_cutSuffix b [42] (by omega)) rfl (fun _ _ => trivial)) ?_
  rintro _ _ ⟨_, ⟨u_8, b_10, e_6, f_9, rfl, rfl⟩, rfl⟩
  refine jA (jF (v := .tuple #[str u_8, .bool b_10]) rfl) <| jA (PO.extract (v := str u_8) rfl rfl) <| jA (PO.extract (v := .bool b_10) rfl rfl) <| jA (jG (v := str u_8) rfl) <| jA (jG (v := .bool b_10) rfl) <| jD <| jB <| jC <| jZ <| jC ?_
  refine jE <| jA (jF (v := .bool b_5) rfl) <| jA (jF (v := .bool b_5) rfl) ?_
  rcases Bool.eq_false_or_eq_true (b_5) with h_11 | h_11
  · refine jW rfl rfl rfl (cB h_11) (jY (jh (jF (v := .bool b_10) rfl))) ?_
    rintro _ _ ⟨rfl, rfl⟩
    refine jA (jy (v := .bool b_10) (cB h_11) rfl) <| jA (jG (v := .bool b_10) rfl) <| jD <| jB ?_
    rcases Bool.eq_false_or_eq_true (b_10) with h_12 | h_12
    · refine jS (cB h_12) <| jC <| jE <| jA (jF (v := str u_3) rfl) <| jA (jF (v := str u_8) rfl) ?_
      refine jH rfl (jU [] Tryz.call166 rfl (N_hasPrefix u_3 u_8) rfl (fun _ _ => trivial)) ?_
      rintro _ _ ⟨_, ⟨b_15, e_13, rfl, rfl⟩, rfl⟩
      refine jA (jF (v := .bool b_15) rfl) ?_
      rcases Bool.eq_false_or_eq_true (b_15) with h_16 | h_16
      · refine jV (b := true) rfl rfl rfl (cB h_16) <| jV (b := true) rfl rfl rfl (cB h_16) <| jV (b := true) rfl rfl rfl (cB h_16) <| jA (jy (v := .bool true) (cB h_16) rfl) <| jA (jG (v := .bool true) rfl) <| jD <| jB <| jJ <| je <| jO ?_
        refine jL (.inl rfl) rfl (jM (v := .bool true) rfl) (List.nil_sublist _) ?_
        exact ⟨true, (by simp only [meets, spanHas, SB, e_1, e_6, h_11, h_12, e_13, h_16]; all_goals (first | rfl | (simp_all; done) | (simp_all [meets, spanHas]; done))), rfl, rfl⟩
      refine jW rfl rfl rfl (cB h_16) (jY (jh (jF (v := str u_8) rfl))) ?_
      rintro _ _ ⟨rfl, rfl⟩
      refine jW rfl rfl rfl (cB h_16) (jY (jh (jF (v := str u_3) rfl))) ?_
      rintro _ _ ⟨rfl, rfl⟩
      refine jW rfl rfl rfl (cB h_16) (jU [] Tryz.call166 rfl (N_hasPrefix u_8 u_3) rfl (fun _ _ => trivial)) ?_
      rintro _ _ ⟨_, ⟨b_19, e_17, rfl, rfl⟩, rfl⟩
      refine jA (jx (v := .bool b_19) (cB h_16) rfl) <| jA (jG (v := .bool b_19) rfl) <| jD <| jB <| jJ <| je <| jO <| jL (.inl rfl) rfl (jM (v := .bool b_19) rfl) (List.nil_sublist _) ?_
      exact ⟨b_19, (by simp only [meets, spanHas, SB, e_1, e_6, h_11, h_12, e_13, h_16, e_17]; all_goals (first | rfl | (simp_all; done) | (simp_all [meets, spanHas]; done))), rfl, rfl⟩
    refine jP (cB h_12) <| jC <| jE <| jA (jF (v := .bool b_5) rfl) <| jA (jG (v := .bool b_5) rfl) <| jD <| jB <| jS (cB h_11) <| jC <| jE ?_
    refine jA (jF (v := str a) rfl) <| jA (jF (v := str b) rfl) ?_
    refine jH rfl (jU [] Tryz.call167 rfl (Y_iSpanHas a b (by omega) (by omega)) rfl (fun _ _ => trivial)) ?_
    rintro _ _ ⟨_, ⟨b_22, e_20, rfl, rfl⟩, rfl⟩
    refine jA (jG (v := .bool b_22) rfl) <| jD <| jB <| jJ <| je <| jO <| jL (.inl rfl) rfl (jM (v := .bool b_22) rfl) (List.nil_sublist _) ?_
    exact ⟨b_22, (by simp only [meets, spanHas, SB, e_1, e_6, h_11, h_12, e_20]; all_goals (first | rfl | (simp_all; done) | (simp_all [meets, spanHas]; done))), rfl, rfl⟩
  refine jV (b := false) rfl rfl rfl (cB h_11) <| jA (jx (v := .bool false) (cB h_11) rfl) <| jA (jG (v := .bool false) rfl) <| jD <| jB <| jP (cB rfl) <| jC <| jE <| jA (jF (v := .bool b_5) rfl) <| jA (jG (v := .bool b_5) rfl) ?_
  refine jD <| jB <| jP (cB h_11) <| jQ <| jk <| jB <| jC <| jE <| jA (jF (v := str b) rfl) <| jA (jF (v := str a) rfl) ?_
  refine jH rfl (jU [] Tryz.call167 rfl (Y_iSpanHas b a (by omega) (by omega)) rfl (fun _ _ => trivial)) ?_
  rintro _ _ ⟨_, ⟨b_25, e_23, rfl, rfl⟩, rfl⟩
  refine jA (jG (v := .bool b_25) rfl) <| jD <| jB <| jJ <| jL (.inl rfl) rfl (jM (v := .bool b_25) rfl) (List.nil_sublist _) ?_
  exact ⟨b_25, (by simp only [meets, spanHas, SB, e_1, e_6, h_11, e_23]; all_goals (first | rfl | (simp_all; done) | (simp_all [meets, spanHas]; done))), rfl, rfl⟩

theorem Y_begins (s : Str) (p : Str) (hs : s.length ≤ 9223372036854775807) (hp : p.length ≤ 9223372036854775807) :
    Ct Tryz.prog 162 [str s, str p] ([]) (fun _ => True) (fun v A' => ∃ r0, prefixB s p = r0 ∧ v = .bool r0 ∧ A' = []) := by
  refine Ct.intro Tryz.func162 rfl Tryz.ntmps162 (lb rfl) fun w0 hpre => ?_
  refine jC <| jE <| jA (jG (v := .bool false) rfl) <| jD <| jB <| jC <| jE <| jA (jF (v := str s) rfl) <| jA (PO.lenS kl rfl) <| jA (jF (v := str p) rfl) ?_
  refine jA (PO.lenS kl rfl) <| jA (PO.geq rfl rfl) <| jA (jF (v := .bool (decide ((p.length : Int) ≤ (s.length : Int)))) rfl) ?_
  by_cases h_1 : (p.length : Int) ≤ (s.length : Int)
  · refine jW rfl rfl rfl (cB (dT h_1)) (jY (jh (jF (v := str s) rfl))) ?_
    rintro _ _ ⟨rfl, rfl⟩
    refine jW rfl rfl rfl (cB (dT h_1)) (jY (jh (jF (v := str p) rfl))) ?_
    rintro _ _ ⟨rfl, rfl⟩
    refine jW rfl rfl rfl (cB (dT h_1)) (jY (jh (PO.lenS kl rfl))) ?_
    rintro _ _ ⟨rfl, rfl⟩
    refine jW rfl rfl rfl (cB (dT h_1)) (jY (jh (PO.sliceSh (j := p.length) kl rfl rfl (by omega)))) ?_
    rintro _ _ ⟨rfl, rfl⟩
    refine jW rfl rfl rfl (cB (dT h_1)) (jY (jh (jF (v := str p) rfl))) ?_
    rintro _ _ ⟨rfl, rfl⟩
    refine jW rfl rfl rfl (cB (dT h_1)) (jY (jh (PO.eqlS rfl rfl))) ?_
    rintro _ _ ⟨rfl, rfl⟩
    refine jA (jy (v := .bool (decide ((s.take p.length) = p))) (cB (dT h_1)) rfl) <| jA (jG (v := .bool (decide ((s.take p.length) = p))) rfl) <| jD <| jB <| jJ <| jL (.inl rfl) rfl (jM (v := .bool (decide ((s.take p.length) = p))) rfl) (List.nil_sublist _) ?_
    exact ⟨(decide ((s.take p.length) = p)), (by rw [begins_eqV]; first | (simp_all; done) | (simp_all; intros; omega)), rfl, rfl⟩
  refine jV (b := false) rfl rfl rfl (cB (dF h_1)) <| jV (b := false) rfl rfl rfl (cB (dF h_1)) <| jV (b := false) rfl rfl rfl (cB (dF h_1)) <| jV (b := false) rfl rfl rfl (cB (dF h_1)) <| jV (b := false) rfl rfl rfl (cB (dF h_1)) <| jV (b := false) rfl rfl rfl (cB (dF h_1)) <| jA (jx (v := .bool false) (cB (dF h_1)) rfl) <| jA (jG (v := .bool false) rfl) <| jD <| jB ?_
  refine jJ <| jL (.inl rfl) rfl (jM (v := .bool false) rfl) (List.nil_sublist _) ?_
  exact ⟨false, (by rw [begins_eqV]; first | (simp_all; done) | (simp_all; intros; omega)), rfl, rfl⟩

theorem Y_open (s : Str) (hs : s.length ≤ 9223372036854775807) :
    Ct Tryz.prog 161 [str s] ([]) (fun _ => True) (fun v A' => ∃ r0 r1, (fun s => cutSuf s [42]) s = (r0, r1) ∧ r0.length ≤ s.length ∧ v = .tuple #[str r0, .bool r1] ∧ A' = []) := by
  refine Ct.intro Tryz.func161 rfl Tryz.ntmps161 (lb rfl) fun w0 hpre => ?_
  refine jC <| jE <| jA (jG (v := str []) rfl) <| jA (jG (v := .bool false) rfl) <| jD <| jB <| jC <| jE <| jA (jF (v := str s) rfl) <| jA (PO.lenS kl rfl) ?_
  refine jA (jG (v := iv (s.length : Int)) rfl) <| jD <| jB <| jC <| jC <| jE <| jA (jF (v := iv (s.length : Int)) rfl) <| jA (PO.gtr rfl rfl) <| jA (jF (v := .bool (decide (0 < (s.length : Int)))) rfl) ?_
  by_cases h_1 : 0 < (s.length : Int)
  · refine jW rfl rfl rfl (cB (dT h_1)) (jY (jh (jF (v := str s) rfl))) ?_
    rintro _ _ ⟨rfl, rfl⟩
    refine jW rfl rfl rfl (cB (dT h_1)) (jY (jh (jF (v := iv (s.length : Int)) rfl))) ?_
    rintro _ _ ⟨rfl, rfl⟩
    refine jW rfl rfl rfl (cB (dT h_1)) (jY (jh (kM (c := ((s.length - 1 : Nat) : Int)) rfl rfl (wr (by omega))))) ?_
    rintro _ _ ⟨rfl, rfl⟩
    refine jW rfl rfl rfl (cB (dT h_1)) (jY (jh (PO.indexS (i := s.length - 1) (c := s.getD (s.length - 1) 0) kl rfl rfl (getD_some (by omega))))) ?_
    rintro _ _ ⟨rfl, rfl⟩
    have hu_2 := UInt8.toNat_lt (s.getD (s.length - 1) 0)
    refine jW rfl rfl rfl (cB (dT h_1)) (jY (jh (PO.eqlI rfl rfl))) ?_
    rintro _ _ ⟨rfl, rfl⟩
    refine jA (jy (v := .bool (decide (((s.getD (s.length - 1) 0).toNat : Int) = 42))) (cB (dT h_1)) rfl) <| jD <| jB ?_
    by_cases h_3 : ((s.getD (s.length - 1) 0).toNat : Int) = 42
    · refine jS (cB (dT h_3)) <| jC <| jE <| jA (jF (v := str s) rfl) <| jA (jF (v := iv (s.length : Int)) rfl) <| jA (kM (c := ((s.length - 1 : Nat) : Int)) rfl rfl (wr (by omega))) <| jA (PO.sliceSh (j := (s.length - 1)) kl rfl rfl (by omega)) <| jA (jG (v := str (s.take (s.length - 1))) rfl) <| jA (jG (v := .bool true) rfl) <| jD ?_
      refine jB <| jJ <| jO <| Done.two (.inl rfl) rfl (jM (v := str (s.take (s.length - 1))) rfl) (jM (v := .bool true) rfl) (List.nil_sublist _) ?_
      exact ⟨(s.take (s.length - 1)), true, (by first | exact cutSuf_open (by omega) (c42 (by assumption)) | exact cutSuf_shut (fun h_ => by obtain ⟨h_1, h_2⟩ := h_; first | (exfalso; omega) | exact absurd (c42' h_2) (by assumption))), (by first | omega | (simp only [LE]; omega)), rfl, rfl⟩
    refine jP (cB (dF h_3)) <| jQ <| jB <| jC <| jE <| jA (jF (v := str s) rfl) <| jA (jG (v := str s) rfl) <| jA (jG (v := .bool false) rfl) <| jD <| jB ?_
    refine jJ <| Done.two (.inl rfl) rfl (jM (v := str s) rfl) (jM (v := .bool false) rfl) (List.nil_sublist _) ?_
    exact ⟨s, false, (by first | exact cutSuf_open (by omega) (c42 (by assumption)) | exact cutSuf_shut (fun h_ => by obtain ⟨h_1, h_2⟩ := h_; first | (exfalso; omega) | exact absurd (c42' h_2) (by assumption))), (by first | omega | (simp only [LE]; omega)), rfl, rfl⟩
  refine jV (b := false) rfl rfl rfl (cB (dF h_1)) <| jV (b := false) rfl rfl rfl (cB (dF h_1)) <| jV (b := false) rfl rfl rfl (cB (dF h_1)) <| jV (b := false) rfl rfl rfl (cB (dF h_1)) <| jV (b := false) rfl rfl rfl (cB (dF h_1)) <| jA (jx (v := .bool false) (cB (dF h_1)) rfl) <| jD <| jB <| jP (cB rfl) <| jQ ?_
  refine jB <| jC <| jE <| jA (jF (v := str s) rfl) <| jA (jG (v := str s) rfl) <| jA (jG (v := .bool false) rfl) <| jD <| jB <| jJ <| Done.two (.inl rfl) rfl (jM (v := str s) rfl) (jM (v := .bool false) rfl) (List.nil_sublist _) ?_
  exact ⟨s, false, (by first | exact cutSuf_open (by omega) (c42 (by assumption)) | exact cutSuf_shut (fun h_ => by obtain ⟨h_1, h_2⟩ := h_; first | (exfalso; omega) | exact absurd (c42' h_2) (by assumption))), (by first | omega | (simp only [LE]; omega)), rfl, rfl⟩

theorem Y_sSpanHas (a : Str) (b : Str) (ha : a.length ≤ 9223372036854775807) (hb : b.length ≤ 9223372036854775807) :
    Ct Tryz.prog 163 [str a, str b] ([]) (fun _ => True) (fun v A' => ∃ r0, spanHas a b = r0 ∧ v = .bool r0 ∧ A' = []) := by
  refine Ct.intro Tryz.func163 rfl Tryz.ntmps163 (lb rfl) fun w0 hpre => ?_
  refine jC <| jE <| jA (jG (v := .bool false) rfl) <| jD <| jB <| jC <| jE <| jA (jF (v := str a) rfl) ?_
  refine jH rfl (jU [] Tryz.call161 rfl (Y_open a (by omega)) rfl (fun _ _ => trivial)) ?_
  rintro _ _ ⟨_, ⟨u_3, b_5, e_1, f_4, rfl, rfl⟩, rfl⟩
  refine jA (jF (v := .tuple #[str u_3, .bool b_5]) rfl) <| jA (PO.extract (v := str u_3) rfl rfl) <| jA (PO.extract (v := .bool b_5) rfl rfl) <| jA (jG (v := str u_3) rfl) <| jA (jG (v := .bool b_5) rfl) <| jD <| jB <| jC <| jC <| jE ?_
  refine jA (jF (v := .bool b_5) rfl) <| jD <| jB ?_
  rcases Bool.eq_false_or_eq_true (b_5) with h_6 | h_6
  · refine jS (cB h_6) <| jC <| jE <| jA (jF (v := str b) rfl) <| jA (jF (v := str u_3) rfl) ?_
    refine jH rfl (jU [] Tryz.call162 rfl (Y_begins b u_3 (by omega) (by omega)) rfl (fun _ _ => trivial)) ?_
    rintro _ _ ⟨_, ⟨b_9, e_7, rfl, rfl⟩, rfl⟩
    refine jA (jG (v := .bool b_9) rfl) <| jD <| jB <| jJ <| jO <| jL (.inl rfl) rfl (jM (v := .bool b_9) rfl) (List.nil_sublist _) ?_
    exact ⟨b_9, (by simp only [spanHas, SB, e_1, h_6, e_7]; all_goals (first | rfl | (simp_all; done) | (simp_all [spanHas]; done))), rfl, rfl⟩
  refine jP (cB h_6) <| jQ <| jB <| jC <| jE <| jA (jF (v := str a) rfl) <| jA (jF (v := str b) rfl) <| jA (PO.eqlS rfl rfl) <| jA (jG (v := .bool (decide (a = b))) rfl) <| jD ?_
  refine jB <| jJ <| jL (.inl rfl) rfl (jM (v := .bool (decide (a = b))) rfl) (List.nil_sublist _) ?_
  exact ⟨(decide (a = b)), (by simp only [spanHas, SB, e_1, h_6]; all_goals (first | rfl | (simp_all; done) | (simp_all [spanHas]; done))), rfl, rfl⟩

theorem Y_sMeet (a : Str) (b : Str) (ha : a.length ≤ 9223372036854775807) (hb : b.length ≤ 9223372036854775807) :
    Ct Tryz.prog 157 [str a, str b] ([]) (fun _ => True) (fun v A' => ∃ r0, meets a b = r0 ∧ v = .bool r0 ∧ A' = []) := by
  refine Ct.intro Tryz.func157 rfl Tryz.ntmps157 (lb rfl) fun w0 hpre => ?_
  refine jC <| jE <| jA (jG (v := .bool false) rfl) <| jD <| jB <| jC <| jE <| jA (jF (v := str a) rfl) ?_
  refine jH rfl (jU [] Tryz.call161 rfl (Y_open a (by omega)) rfl (fun _ _ => trivial)) ?_
  rintro _ _ ⟨_, ⟨u_3, b_5, e_1, f_4, rfl, rfl⟩, rfl⟩
  refine jA (jF (v := .tuple #[str u_3, .bool b_5]) rfl) <| jA (PO.extract (v := str u_3) rfl rfl) <| jA (PO.extract (v := .bool b_5) rfl rfl) <| jA (jG (v := str u_3) rfl) <| jA (jG (v := .bool b_5) rfl) <| jD <| jB <| jC <| jE <| jA (jF (v := str b) rfl) ?_
  refine jH rfl (jU [] Tryz.call161 rfl (Y_open b (by omega)) rfl (fun _ _ => trivial)) ?_
  rintro _ _ ⟨_, ⟨u_8, b_10, e_6, f_9, rfl, rfl⟩, rfl⟩
  refine jA (jF (v := .tuple #[str u_8, .bool b_10]) rfl) <| jA (PO.extract (v := str u_8) rfl rfl) <| jA (PO.extract (v := .bool b_10) rfl rfl) <| jA (jG (v := str u_8) rfl) <| jA (jG (v := .bool b_10) rfl) <| jD <| jB <| jC <| jZ <| jC ?_
  refine jE <| jA (jF (v := .bool b_5) rfl) <| jA (jF (v := .bool b_5) rfl) ?_
  rcases Bool.eq_false_or_eq_true (b_5) with h_11 | h_11
  · refine jW rfl rfl rfl (cB h_11) (jY (jh (jF (v := .bool b_10) rfl))) ?_
    rintro _ _ ⟨rfl, rfl⟩
    refine jA (jy (v := .bool b_10) (cB h_11) rfl) <| jA (jG (v := .bool b_10) rfl) <| jD <| jB ?_
    rcases Bool.eq_false_or_eq_true (b_10) with h_12 | h_12
    · refine jS (cB h_12) <| jC <| jE <| jA (jF (v := str u_3) rfl) <| jA (jF (v := str u_8) rfl) ?_
      refine jH rfl (jU [] Tryz.call162 rfl (Y_begins u_3 u_8 (by omega) (by omega)) rfl (fun _ _ => trivial)) ?_
      rintro _ _ ⟨_, ⟨b_15, e_13, rfl, rfl⟩, rfl⟩
      refine jA (jF (v := .bool b_15) rfl) ?_
      rcases Bool.eq_false_or_eq_true (b_15) with h_16 | h_16
      · refine jV (b := true) rfl rfl rfl (cB h_16) <| jV (b := true) rfl rfl rfl (cB h_16) <| jV (b := true) rfl rfl rfl (cB h_16) <| jA (jy (v := .bool true) (cB h_16) rfl) <| jA (jG (v := .bool true) rfl) <| jD <| jB <| jJ <| je <| jO ?_
        refine jL (.inl rfl) rfl (jM (v := .bool true) rfl) (List.nil_sublist _) ?_
        exact ⟨true, (by simp only [meets, spanHas, SB, e_1, e_6, h_11, h_12, e_13, h_16]; all_goals (first | rfl | (simp_all; done) | (simp_all [meets, spanHas]; done))), rfl, rfl⟩
      refine jW rfl rfl rfl (cB h_16) (jY (jh (jF (v := str u_8) rfl))) ?_
      rintro _ _ ⟨rfl, rfl⟩
      refine jW rfl rfl rfl (cB h_16) (jY (jh (jF (v := str u_3) rfl))) ?_
      rintro _ _ ⟨rfl, rfl⟩
      refine jW rfl rfl rfl (cB h_16) (jU [] Tryz.call162 rfl (Y_begins u_8 u_3 (by omega) (by omega)) rfl (fun _ _ => trivial)) ?_
      rintro _ _ ⟨_, ⟨b_19, e_17, rfl, rfl⟩, rfl⟩
      refine jA (jx (v := .bool b_19) (cB h_16) rfl) <| jA (jG (v := .bool b_19) rfl) <| jD <| jB <| jJ <| je <| jO <| jL (.inl rfl) rfl (jM (v := .bool b_19) rfl) (List.nil_sublist _) ?_
      exact ⟨b_19, (by simp only [meets, spanHas, SB, e_1, e_6, h_11, h_12, e_13, h_16, e_17]; all_goals (first | rfl | (simp_all; done) | (simp_all [meets, spanHas]; done))), rfl, rfl⟩
    refine jP (cB h_12) <| jC <| jE <| jA (jF (v := .bool b_5) rfl) <| jA (jG (v := .bool b_5) rfl) <| jD <| jB <| jS (cB h_11) <| jC <| jE ?_
    refine jA (jF (v := str b) rfl) <| jA (jF (v := str u_3) rfl) ?_
    refine jH rfl (jU [] Tryz.call162 rfl (Y_begins b u_3 (by omega) (by omega)) rfl (fun _ _ => trivial)) ?_
    rintro _ _ ⟨_, ⟨b_22, e_20, rfl, rfl⟩, rfl⟩
    refine jA (jG (v := .bool b_22) rfl) <| jD <| jB <| jJ <| je <| jO <| jL (.inl rfl) rfl (jM (v := .bool b_22) rfl) (List.nil_sublist _) ?_
    exact ⟨b_22, (by simp only [meets, spanHas, SB, e_1, e_6, h_11, h_12, e_20]; all_goals (first | rfl | (simp_all; done) | (simp_all [meets, spanHas]; done))), rfl, rfl⟩
  refine jV (b := false) rfl rfl rfl (cB h_11) <| jA (jx (v := .bool false) (cB h_11) rfl) <| jA (jG (v := .bool false) rfl) <| jD <| jB <| jP (cB rfl) <| jC <| jE <| jA (jF (v := .bool b_5) rfl) <| jA (jG (v := .bool b_5) rfl) ?_
  refine jD <| jB <| jP (cB h_11) <| jQ <| jk <| jB <| jC <| jE <| jA (jF (v := str b) rfl) <| jA (jF (v := str a) rfl) ?_
  refine jH rfl (jU [] Tryz.call163 rfl (Y_sSpanHas b a (by omega) (by omega)) rfl (fun _ _ => trivial)) ?_
  rintro _ _ ⟨_, ⟨b_25, e_23, rfl, rfl⟩, rfl⟩
  refine jA (jG (v := .bool b_25) rfl) <| jD <| jB <| jJ <| jL (.inl rfl) rfl (jM (v := .bool b_25) rfl) (List.nil_sublist _) ?_
  exact ⟨b_25, (by simp only [meets, spanHas, SB, e_1, e_6, h_11, e_23]; all_goals (first | rfl | (simp_all; done) | (simp_all [meets, spanHas]; done))), rfl, rfl⟩

theorem N_meet1 (kb : Nat) (key y : Str) (hkey : key.length ≤ 9223372036854775807) (hyy : y.length ≤ 9223372036854775807) :
    Ct Tryz.prog 159 [str y, .pointer (some ⟨kb, 0, none⟩)] [bk kb 9 [str key]] (fun _ => True) (fun v A' => v = .bool (meets key y) ∧ A' = [bk kb 9 [str key]]) := by
  refine Ct.intro Tryz.func159 rfl Tryz.ntmps159 (lb rfl) fun w0 hpre => ?_
  refine jC <| jE <| jA (jG (v := .bool false) rfl) <| jD <| jB <| jC <| jE <| jK (jR 0 (v := str key) rfl rfl kT rfl) <| jA (jF (v := str y) rfl) ?_
  refine jH rfl (jU [] Tryz.call160 rfl (Y_iMeet key y hkey hyy) rfl (fun _ _ => trivial)) ?_
  rintro _ _ ⟨_, ⟨_, rfl, rfl, rfl⟩, rfl⟩
  refine jA (jG (v := .bool (meets key y)) rfl) <| jD <| jB <| jJ <| jL (.inl rfl) rfl (jM (v := .bool (meets key y)) rfl) (List.Sublist.refl _) ?_
  exact ⟨rfl, rfl⟩

theorem C_ixMeet (a : Option Addr) (c : Nat) (s : List Str) (hs : okS s) (kb : Nat) (key : Str) (hkey : key.length ≤ 9223372036854775807) :
    Ct Tryz.prog 164 [.slice a s.length c, .func (.func 159) #[] #[.pointer (some ⟨kb, 0, none⟩)]] [bk kb 9 [str key]] (fun w_ => Sees w_ (.slice a s.length c) 1 s.length (s.map str) ∧ (∀ b, (Value.slice a s.length c).ownBlock = some b → b ≠ kb)) (fun v A' => v = .int .i64 (idxI (fun q => meets key q) s) ∧ A' = [bk kb 9 [str key]]) := by
  refine Ct.intro Tryz.func164 rfl Tryz.ntmps164 (lb rfl) fun w0 hpre => ?_
  have hs_a : Sees w0 _ _ _ _ := hpre.1
  have hsl := hs.1
  refine jC <| jE <| jA (jG (v := iv 0) rfl) <| jD <| jB <| jC <| jC <| jE <| jA (jF (v := .slice a s.length c) rfl) <| jA (jf kV rfl) ?_
  refine jA (jF (v := iv 0) rfl) <| jD <| jB <| jZ <| jp (fun k_ e_ L_ => ∃ j : Nat, (j ≤ s.length) ∧ (∀ i, i < j → meets key (s.getD i []) = false) ∧ e_ 0 = .slice a s.length c ∧ e_ 1 = .func (.func 159) #[] #[.pointer (some ⟨kb, 0, none⟩)] ∧ e_ 7 = nv s.length ∧ e_ 8 = nv j ∧ L_ = [bk kb 9 [str key]] ∧ k_ = s.length - j) _ ⟨0, by omega, (fun i hi => absurd hi (Nat.not_lt_zero i)), rfl, rfl, rfl, rfl, rfl, rfl⟩ ?_
  rintro _ e_1 _ ⟨j, hj, hN, he_2, he_3, he_4, he_5, rfl, rfl⟩
  refine jC <| jE <| jA (jc he_5 he_4) <| jD <| jB <| jC ?_
  by_cases h_6 : ((j : Nat) : Int) < ((s.length : Nat) : Int)
  · have hlt : j < s.length := by omega
    refine jS (cB (dT h_6)) <| jQ <| jB <| jC <| jZ <| jC <| jE <| jA (jF (v := nv j) he_5) <| jA (jG (v := nv j) rfl) <| jD ?_
    refine jB <| jC <| jE <| jA (jF (v := .func (.func 159) #[] #[.pointer (some ⟨kb, 0, none⟩)]) he_3) <| jA (jF (v := .slice a s.length c) he_2) <| jA (jF (v := nv j) rfl) ?_
    obtain ⟨hr_7, hr_7b, -⟩ := sees_some hs_a (by omega)
    refine jA (jX (i := j) kV kZ hr_7 hr_7b rfl rfl (by omega)) <| jK (ju (v := str (s.getD j [])) hs_a (notin_bk hpre.2) rfl kT (atS (by omega))) ?_
    refine jH rfl (JO.callV [0] Tryz.call159 rfl (N_meet1 kb key (s.getD j []) hkey (hs.2 j hlt)) rfl rfl (fun _ _ => trivial)) ?_
    rintro _ _ ⟨_, ⟨rfl, rfl⟩, rfl⟩
    refine jD <| jB ?_
    rcases Bool.eq_false_or_eq_true (meets key (s.getD j [])) with h_8 | h_8
    · refine jS (cB h_8) <| jC <| jE <| jA (jF (v := nv j) rfl) <| jA (jG (v := nv j) rfl) <| jD <| jB <| jJ <| je <| jO ?_
      refine jO <| je <| jO <| jL (.inl rfl) rfl (jM (v := nv j) rfl) (List.Sublist.refl _) ?_
      refine ⟨?_, rfl⟩
      rw [idxI_found [] hlt hN h_8]
    refine jP (cB h_8) <| jQ <| jk <| jB <| jE <| jA (ja (c := ((j + 1 : Nat) : Int)) he_5 rfl (wr (by omega))) <| jA (jF (v := iv ((j + 1 : Nat) : Int)) rfl) <| jD ?_
    refine jl (s.length - (j + 1)) (by omega) ⟨j + 1, by omega, (fun i hi => if h : i = j then h ▸ h_8 else hN i (by omega)), he_2, he_3, he_4, rfl, rfl, rfl⟩
  refine jP (cB (dF h_6)) <| jn <| jb <| jb <| jo <| jB <| jC <| jE <| jA (jG (v := iv (-1)) rfl) <| jD ?_
  refine jB <| jJ <| jL (.inl rfl) rfl (jM (v := iv (-1)) rfl) (List.Sublist.refl _) ?_
  refine ⟨?_, rfl⟩
  rw [idxI_none [] (by omega) hN]

theorem C_ctMeet (a : Option Addr) (c : Nat) (s : List Str) (hs : okS s) (kb : Nat) (key : Str) (hkey : key.length ≤ 9223372036854775807) :
    Ct Tryz.prog 158 [.slice a s.length c, .func (.func 159) #[] #[.pointer (some ⟨kb, 0, none⟩)]] [bk kb 9 [str key]] (fun w_ => Sees w_ (.slice a s.length c) 1 s.length (s.map str) ∧ (∀ b, (Value.slice a s.length c).ownBlock = some b → b ≠ kb)) (fun v A' => v = .bool (s.any fun q => meets key q) ∧ A' = [bk kb 9 [str key]]) := by
  refine Ct.intro Tryz.func158 rfl Tryz.ntmps158 (lb rfl) fun w0 hpre => ?_
  have hs_a : Sees w0 _ _ _ _ := hpre.1
  refine jC <| jE <| jA (jG (v := .bool false) rfl) <| jD <| jB <| jC <| jE <| jA (jF (v := .slice a s.length c) rfl) <| jA (jF (v := .func (.func 159) #[] #[.pointer (some ⟨kb, 0, none⟩)]) rfl) ?_
  refine jH rfl (jU [0] Tryz.call164 rfl (C_ixMeet a c s hs kb key hkey) rfl (fun w hw => ⟨hw.seeOut_ hs_a (notin_bk hpre.2), hpre.2⟩)) ?_
  rintro _ _ ⟨_, ⟨rfl, rfl⟩, rfl⟩
  refine jA (PO.geq rfl rfl) <| jA (jG (v := .bool (decide (0 ≤ (idxI (fun q => meets key q) s)))) rfl) <| jD <| jB <| jJ <| jL (.inl rfl) rfl (jM (v := .bool (decide (0 ≤ (idxI (fun q => meets key q) s)))) rfl) (List.Sublist.refl _) ?_
  exact ⟨cB idxI_any, rfl⟩

theorem Y_iMeetAny (a1 a2 : Option Addr) (c1 c2 : Nat) (x y : List Str) (hx : okS x) (hy : okS y) :
    Ct Tryz.prog 156 [.slice a1 x.length c1, .slice a2 y.length c2] [] (fun w_ => Sees w_ (.slice a1 x.length c1) 1 x.length (x.map str) ∧ Sees w_ (.slice a2 y.length c2) 1 y.length (y.map str)) (fun v A' => v = .bool (meetAny x y) ∧ A' = []) := by
  refine Ct.intro Tryz.func156 rfl Tryz.ntmps156 (lb rfl) fun w0 hpre => ?_
  have hs_a1 : Sees w0 _ _ _ _ := hpre.1
  have hs_a2 : Sees w0 _ _ _ _ := hpre.2
  have hxl := hx.1
  have hyl := hy.1
  refine jC <| jE <| jA (jG (v := .bool false) rfl) <| jD <| jB <| jC <| jC <| jE <| jA (jF (v := .slice a1 x.length c1) rfl) <| jA (jf kV rfl) ?_
  refine jA (jF (v := iv 0) rfl) <| jD <| jB <| jZ ?_
  refine jp (fun k_ e_ L_ => ∃ j : Nat, (j ≤ x.length) ∧ (∀ i, i < j → (y.any fun q => meets (x.getD i []) q) = false) ∧ e_ 1 = .slice a2 y.length c2 ∧ e_ 7 = .slice a1 x.length c1 ∧ e_ 8 = nv x.length ∧ e_ 9 = nv j ∧ L_ = [] ∧ k_ = x.length - j) _ ⟨0, by omega, (fun i hi => absurd hi (Nat.not_lt_zero i)), rfl, rfl, rfl, rfl, rfl, rfl⟩ ?_
  rintro _ e_1 _ ⟨j, hj, hN, he_2, he_3, he_4, he_5, rfl, rfl⟩
  refine jC <| jE <| jA (jc he_5 he_4) <| jD <| jB <| jC ?_
  by_cases h_6 : ((j : Nat) : Int) < ((x.length : Nat) : Int)
  · have hlt : j < x.length := by omega
    refine jS (cB (dT h_6)) <| jQ <| jB <| jC <| jZ <| jC <| jE ?_
    obtain ⟨hr_7, hr_7b, -⟩ := sees_some hs_a1 (by omega)
    refine jA (jX (i := j) kV kZ hr_7 hr_7b he_3 he_5 (by omega)) <| jK (ju (v := str (x.getD j [])) hs_a1 nM rfl kT (atS (by omega))) ?_
    refine jH rfl (kB (z := str []) (cs := [str []]) Tryz.zeroValue9 rfl) ?_
    rintro _ _ ⟨b_8, rfl, rfl⟩
    refine jH rfl (jd 0 (vs := [str (x.getD j [])]) (cs' := [str (x.getD j [])]) rfl rfl rfl rfl kZ rfl rfl (lb rfl) rfl) ?_
    rintro _ _ rfl
    refine jD <| jB <| jC <| jE <| jA (jF (v := .slice a2 y.length c2) he_2) <| jA (PO.makeFunc (fv := []) (cv := [.pointer (some ⟨b_8, 0, none⟩)]) rfl rfl) ?_
    refine jH rfl (jU [0] Tryz.call158 rfl (C_ctMeet a2 c2 y hy b_8 (x.getD j []) (hx.2 j hlt)) rfl (fun w hw => ⟨hw.seeOut_ hs_a2 nM, hw.apartF 0 hs_a2 rfl List.not_mem_nil⟩)) ?_
    rintro _ _ ⟨_, ⟨rfl, rfl⟩, rfl⟩
    refine jD <| jB ?_
    rcases Bool.eq_false_or_eq_true ((y.any fun q => meets (x.getD j []) q)) with h_9 | h_9
    · refine jS (cB h_9) <| jC <| jE <| jA (jG (v := .bool true) rfl) <| jD <| jB <| jJ <| je <| jO <| jO ?_
      refine je <| jO <| jL (.inl rfl) rfl (jM (v := .bool true) rfl) (List.nil_sublist _) ?_
      exact ⟨cB (meetAny_found hlt h_9).symm, rfl⟩
    refine jP (cB h_9) <| jQ <| jk <| jB <| jE <| jA (ja (c := ((j + 1 : Nat) : Int)) he_5 rfl (wr (by omega))) <| jA (jF (v := iv ((j + 1 : Nat) : Int)) rfl) <| jD <| kL [] (A := []) rfl ?_
    refine jl (x.length - (j + 1)) (by omega) ⟨j + 1, by omega, (fun i hi => if h : i = j then h ▸ h_9 else hN i (by omega)), he_2, he_3, he_4, rfl, rfl, rfl⟩
  refine jP (cB (dF h_6)) <| jn <| jb <| jb <| jo <| jB <| jC <| jE <| jA (jG (v := .bool false) rfl) <| jD ?_
  refine jB <| jJ <| jL (.inl rfl) rfl (jM (v := .bool false) rfl) (List.nil_sublist _) ?_
  exact ⟨cB (meetAny_none (by omega) hN).symm, rfl⟩

theorem Y_sMeetAny (a1 a2 : Option Addr) (c1 c2 : Nat) (x y : List Str) (hx : okS x) (hy : okS y) :
    Ct Tryz.prog 155 [.slice a1 x.length c1, .slice a2 y.length c2] [] (fun w_ => Sees w_ (.slice a1 x.length c1) 1 x.length (x.map str) ∧ Sees w_ (.slice a2 y.length c2) 1 y.length (y.map str)) (fun v A' => v = .bool (meetAny x y) ∧ A' = []) := by
  refine Ct.intro Tryz.func155 rfl Tryz.ntmps155 (lb rfl) fun w0 hpre => ?_
  have hs_a1 : Sees w0 _ _ _ _ := hpre.1
  have hs_a2 : Sees w0 _ _ _ _ := hpre.2
  have hxl := hx.1
  have hyl := hy.1
  refine jC <| jE <| jA (jG (v := .bool false) rfl) <| jD <| jB <| jC <| jC <| jE <| jA (jG (v := iv 0) rfl) <| jD ?_
  refine jB <| jZ ?_
  refine jp (fun k_ e_ L_ => ∃ j : Nat, (j ≤ x.length) ∧ (∀ i, i < j → (y.any fun q => meets (x.getD i []) q) = false) ∧ e_ 0 = .slice a1 x.length c1 ∧ e_ 1 = .slice a2 y.length c2 ∧ e_ 5 = nv j ∧ L_ = [] ∧ k_ = x.length - j) _ ⟨0, by omega, (fun i hi => absurd hi (Nat.not_lt_zero i)), rfl, rfl, rfl, rfl, rfl⟩ ?_
  rintro _ e_1 _ ⟨j, hj, hN, he_2, he_3, he_4, rfl, rfl⟩
  refine jC <| jC <| jE <| jA (jF (v := nv j) he_4) <| jA (jF (v := .slice a1 x.length c1) he_2) <| jA (jf kV rfl) <| jA (jc rfl rfl) <| jD <| jB ?_
  by_cases h_5 : ((j : Nat) : Int) < ((x.length : Nat) : Int)
  · have hlt : j < x.length := by omega
    refine jS (cB (dT h_5)) <| jQ <| jB <| jC <| jZ <| jC <| jE <| jA (jG (v := iv 0) rfl) <| jD <| jB ?_
    refine jZ <| jp (fun k_ e_ L_ => ∃ k2 : Nat, (k2 ≤ y.length) ∧ (∀ i, i < k2 → meets (x.getD j []) (y.getD i []) = false) ∧ e_ 0 = .slice a1 x.length c1 ∧ e_ 1 = .slice a2 y.length c2 ∧ e_ 5 = nv j ∧ e_ 6 = nv k2 ∧ L_ = [] ∧ k_ = y.length - k2) _ ⟨0, by omega, (fun i hi => absurd hi (Nat.not_lt_zero i)), he_2, he_3, he_4, rfl, rfl, rfl⟩ ?_
    rintro _ e_6 _ ⟨k2, hk2, hM, he_7, he_8, he_9, he_10, rfl, rfl⟩
    refine jC <| jC <| jE <| jA (jF (v := nv k2) he_10) <| jA (jF (v := .slice a2 y.length c2) he_8) <| jA (jf kV rfl) <| jA (jc rfl rfl) <| jD <| jB ?_
    by_cases h_11 : ((k2 : Nat) : Int) < ((y.length : Nat) : Int)
    · have hlt2 : k2 < y.length := by omega
      refine jS (cB (dT h_11)) <| jQ <| jB <| jC <| jZ <| jC <| kG [] 8 mixed (by simp) <| jT 0 rfl (jF (v := .slice a1 x.length c1) he_7) <| jT 1 rfl (jF (v := nv j) he_9) ?_
      obtain ⟨hr_12, hr_12b, -⟩ := sees_some hs_a1 (by omega)
      refine jT 2 rfl (jX (i := j) kV kZ hr_12 hr_12b rfl rfl (by omega)) <| jw 3 rfl (ju (v := str (x.getD j [])) hs_a1 nM rfl kT (atS (by omega))) <| jT 4 rfl (jF (v := .slice a2 y.length c2) he_8) <| jT 5 rfl (jF (v := nv k2) he_10) ?_
      obtain ⟨hr_13, hr_13b, -⟩ := sees_some hs_a2 (by omega)
      refine jT 6 rfl (jX (i := k2) kV kZ hr_13 hr_13b rfl rfl (by omega)) <| jw 7 rfl (ju (v := str (y.getD k2 [])) hs_a2 nM rfl kT (atS (by omega))) <| jq (i := 8) ?_
      refine JX.ls rfl (jU [] Tryz.call157 rfl (Y_sMeet (x.getD j []) (y.getD k2 []) (hx.2 j hlt) (hy.2 k2 hlt2)) rfl (fun _ _ => trivial)) ?_
      rintro _ _ ⟨_, ⟨_, rfl, rfl, rfl⟩, rfl⟩
      refine jB ?_
      rcases Bool.eq_false_or_eq_true (meets (x.getD j []) (y.getD k2 [])) with h_14 | h_14
      · refine jS (cB h_14) <| jC <| jE <| jA (jG (v := .bool true) rfl) <| jD <| jB <| jJ <| je <| jO <| jO ?_
        refine je <| je <| jO <| jO <| je <| jO <| jL (.inl rfl) rfl (jM (v := .bool true) rfl) (List.nil_sublist _) ?_
        exact ⟨cB (meetAny_found hlt (any_found [] hlt2 h_14)).symm, rfl⟩
      refine jP (cB h_14) <| jQ <| jk <| jB <| jE <| jA (jF (v := nv k2) he_10) <| jA (ja (c := ((k2 + 1 : Nat) : Int)) rfl rfl (wr (by omega))) <| jA (jG (v := iv ((k2 + 1 : Nat) : Int)) rfl) <| jD ?_
      refine jl (y.length - (k2 + 1)) (by omega) ⟨k2 + 1, by omega, (fun i hi => if h : i = k2 then h ▸ h_14 else hM i (by omega)), he_7, he_8, he_9, rfl, rfl, rfl⟩
    refine jP (cB (dF h_11)) <| jn <| jb <| jb <| jo <| jk <| jB <| jE <| jA (jF (v := nv j) he_9) <| jA (ja (c := ((j + 1 : Nat) : Int)) rfl rfl (wr (by omega))) ?_
    refine jA (jG (v := iv ((j + 1 : Nat) : Int)) rfl) <| jD ?_
    refine jl (x.length - (j + 1)) (by omega) ⟨j + 1, by omega, (fun i hi => if h : i = j then h ▸ (any_none [] (by omega) hM) else hN i (by omega)), he_7, he_8, rfl, rfl, rfl⟩
  refine jP (cB (dF h_5)) <| jn <| jb <| jb <| jo <| jB <| jC <| jE <| jA (jG (v := .bool false) rfl) <| jD ?_
  refine jB <| jJ <| jL (.inl rfl) rfl (jM (v := .bool false) rfl) (List.nil_sublist _) ?_
  exact ⟨cB (meetAny_none (by omega) hN).symm, rfl⟩

theorem Y_implClash (a1 a2 b1 b2 : Option Addr) (c1 c2 d1 d2 : Nat) (r w r' w' : List Str) (hr : okS r) (hw : okS w) (hr' : okS r') (hw' : okS w') :
    Ct Tryz.prog 151 [.agg #[.slice a1 r.length c1, .slice a2 w.length c2], .agg #[.slice b1 r'.length d1, .slice b2 w'.length d2]] [] (fun w_ => Sees w_ (.slice a1 r.length c1) 1 r.length (r.map str) ∧ Sees w_ (.slice a2 w.length c2) 1 w.length (w.map str) ∧ Sees w_ (.slice b1 r'.length d1) 1 r'.length (r'.map str) ∧ Sees w_ (.slice b2 w'.length d2) 1 w'.length (w'.map str)) (fun v A' => v = .bool (clashT r w r' w') ∧ A' = []) := by
  refine Ct.intro Tryz.func151 rfl Tryz.ntmps151 (lb rfl) fun w0 hpre => ?_
  refine jC <| jE ?_
  refine jH rfl (jm (cs := [.slice a1 r.length c1, .slice a2 w.length c2]) rfl rfl) ?_
  rintro _ _ ⟨b_1, rfl, rfl⟩
  refine jH rfl (jm (cs := [.slice b1 r'.length d1, .slice b2 w'.length d2]) rfl rfl) ?_
  rintro _ _ ⟨b_2, rfl, rfl⟩
  refine jA (jG (v := .bool false) rfl) <| jD <| jB <| jC <| jE <| jA (jI fo59_1 rfl) <| jK (jR 1 (v := .slice a2 w.length c2) rfl rfl ka rfl) <| jA (jI fo59_0 rfl) <| jK (jR 0 (v := .slice b1 r'.length d1) rfl rfl ka rfl) ?_
  refine jH rfl (jU [] Tryz.call156 rfl (Y_iMeetAny a2 b1 c2 d1 w r' hw hr') rfl (fun w_ hw_ => ⟨hw_.seeOut_ hpre.2.1 nM, hw_.seeOut_ hpre.2.2.1 nM⟩)) ?_
  rintro _ _ ⟨_, ⟨rfl, rfl⟩, rfl⟩
  refine jA (jF (v := .bool (meetAny w r')) rfl) ?_
  rcases Bool.eq_false_or_eq_true (meetAny w r') with h_3 | h_3
  · refine jV (b := true) rfl rfl rfl (cB h_3) <| jV (b := true) rfl rfl rfl (cB h_3) <| jV (b := true) rfl rfl rfl (cB h_3) <| jV (b := true) rfl rfl rfl (cB h_3) <| jV (b := true) rfl rfl rfl (cB h_3) <| jA (jy (v := .bool true) (cB h_3) rfl) <| jA (jF (v := .bool true) rfl) <| jV (b := true) rfl rfl rfl (cB rfl) <| jV (b := true) rfl rfl rfl (cB rfl) <| jV (b := true) rfl rfl rfl (cB rfl) ?_
    refine jV (b := true) rfl rfl rfl (cB rfl) <| jV (b := true) rfl rfl rfl (cB rfl) <| jA (jy (v := .bool true) (cB rfl) rfl) <| jA (jG (v := .bool true) rfl) <| jD <| jB <| jJ <| jL (.inl rfl) rfl (jM (v := .bool true) rfl) (List.nil_sublist _) ?_
    exact ⟨by rw [clashT]; simp_all, rfl⟩
  refine jW rfl rfl rfl (cB h_3) (jY (jh (jI fo59_1 rfl))) ?_
  rintro _ _ ⟨rfl, rfl⟩
  refine jW rfl rfl rfl (cB h_3) (jY (jR 1 (v := .slice a2 w.length c2) rfl rfl ka rfl)) ?_
  rintro _ _ ⟨rfl, rfl⟩
  refine jW rfl rfl rfl (cB h_3) (jY (jh (jI fo59_1 rfl))) ?_
  rintro _ _ ⟨rfl, rfl⟩
  refine jW rfl rfl rfl (cB h_3) (jY (jR 0 (v := .slice b2 w'.length d2) rfl rfl ka rfl)) ?_
  rintro _ _ ⟨rfl, rfl⟩
  refine jW rfl rfl rfl (cB h_3) (jU [] Tryz.call156 rfl (Y_iMeetAny a2 b2 c2 d2 w w' hw hw') rfl (fun w_ hw_ => ⟨hw_.seeOut_ hpre.2.1 nM, hw_.seeOut_ hpre.2.2.2 nM⟩)) ?_
  rintro _ _ ⟨_, ⟨rfl, rfl⟩, rfl⟩
  refine jA (jx (v := .bool (meetAny w w')) (cB h_3) rfl) <| jA (jF (v := .bool (meetAny w w')) rfl) ?_
  rcases Bool.eq_false_or_eq_true (meetAny w w') with h_4 | h_4
  · refine jV (b := true) rfl rfl rfl (cB h_4) <| jV (b := true) rfl rfl rfl (cB h_4) <| jV (b := true) rfl rfl rfl (cB h_4) <| jV (b := true) rfl rfl rfl (cB h_4) <| jV (b := true) rfl rfl rfl (cB h_4) <| jA (jy (v := .bool true) (cB h_4) rfl) <| jA (jG (v := .bool true) rfl) <| jD <| jB <| jJ ?_
    refine jL (.inl rfl) rfl (jM (v := .bool true) rfl) (List.nil_sublist _) ?_
    exact ⟨by rw [clashT]; simp_all, rfl⟩
  refine jW rfl rfl rfl (cB h_4) (jY (jh (jI fo59_1 rfl))) ?_
  rintro _ _ ⟨rfl, rfl⟩
  refine jW rfl rfl rfl (cB h_4) (jY (jR 0 (v := .slice b2 w'.length d2) rfl rfl ka rfl)) ?_
  rintro _ _ ⟨rfl, rfl⟩
  refine jW rfl rfl rfl (cB h_4) (jY (jh (jI fo59_0 rfl))) ?_
  rintro _ _ ⟨rfl, rfl⟩
  refine jW rfl rfl rfl (cB h_4) (jY (jR 1 (v := .slice a1 r.length c1) rfl rfl ka rfl)) ?_
  rintro _ _ ⟨rfl, rfl⟩
  refine jW rfl rfl rfl (cB h_4) (jU [] Tryz.call156 rfl (Y_iMeetAny b2 a1 d2 c1 w' r hw' hr) rfl (fun w_ hw_ => ⟨hw_.seeOut_ hpre.2.2.2 nM, hw_.seeOut_ hpre.1 nM⟩)) ?_
  rintro _ _ ⟨_, ⟨rfl, rfl⟩, rfl⟩
  refine jA (jx (v := .bool (meetAny w' r)) (cB h_4) rfl) <| jA (jG (v := .bool (meetAny w' r)) rfl) <| jD <| jB <| jJ <| jL (.inl rfl) rfl (jM (v := .bool (meetAny w' r)) rfl) (List.nil_sublist _) ?_
  exact ⟨by rw [clashT]; simp_all, rfl⟩

theorem Y_specClash (a1 a2 b1 b2 : Option Addr) (c1 c2 d1 d2 : Nat) (r w r' w' : List Str) (hr : okS r) (hw : okS w) (hr' : okS r') (hw' : okS w') :
    Ct Tryz.prog 148 [.agg #[.slice a1 r.length c1, .slice a2 w.length c2], .agg #[.slice b1 r'.length d1, .slice b2 w'.length d2]] [] (fun w_ => Sees w_ (.slice a1 r.length c1) 1 r.length (r.map str) ∧ Sees w_ (.slice a2 w.length c2) 1 w.length (w.map str) ∧ Sees w_ (.slice b1 r'.length d1) 1 r'.length (r'.map str) ∧ Sees w_ (.slice b2 w'.length d2) 1 w'.length (w'.map str)) (fun v A' => v = .bool (clashT r w r' w') ∧ A' = []) := by
  refine Ct.intro Tryz.func148 rfl Tryz.ntmps148 (lb rfl) fun w0 hpre => ?_
  refine jC <| jE ?_
  refine jH rfl (jm (cs := [.slice a1 r.length c1, .slice a2 w.length c2]) rfl rfl) ?_
  rintro _ _ ⟨b_1, rfl, rfl⟩
  refine jH rfl (jm (cs := [.slice b1 r'.length d1, .slice b2 w'.length d2]) rfl rfl) ?_
  rintro _ _ ⟨b_2, rfl, rfl⟩
  refine jA (jG (v := .bool false) rfl) <| jD <| jB <| jC <| jE <| jA (jI fo59_1 rfl) <| jK (jR 1 (v := .slice a2 w.length c2) rfl rfl ka rfl) <| jA (jI fo59_0 rfl) <| jK (jR 0 (v := .slice b1 r'.length d1) rfl rfl ka rfl) ?_
  refine jH rfl (jU [] Tryz.call155 rfl (Y_sMeetAny a2 b1 c2 d1 w r' hw hr') rfl (fun w_ hw_ => ⟨hw_.seeOut_ hpre.2.1 nM, hw_.seeOut_ hpre.2.2.1 nM⟩)) ?_
  rintro _ _ ⟨_, ⟨rfl, rfl⟩, rfl⟩
  refine jA (jF (v := .bool (meetAny w r')) rfl) ?_
  rcases Bool.eq_false_or_eq_true (meetAny w r') with h_3 | h_3
  · refine jV (b := true) rfl rfl rfl (cB h_3) <| jV (b := true) rfl rfl rfl (cB h_3) <| jV (b := true) rfl rfl rfl (cB h_3) <| jV (b := true) rfl rfl rfl (cB h_3) <| jV (b := true) rfl rfl rfl (cB h_3) <| jA (jy (v := .bool true) (cB h_3) rfl) <| jA (jF (v := .bool true) rfl) <| jV (b := true) rfl rfl rfl (cB rfl) <| jV (b := true) rfl rfl rfl (cB rfl) <| jV (b := true) rfl rfl rfl (cB rfl) ?_
    refine jV (b := true) rfl rfl rfl (cB rfl) <| jV (b := true) rfl rfl rfl (cB rfl) <| jA (jy (v := .bool true) (cB rfl) rfl) <| jA (jG (v := .bool true) rfl) <| jD <| jB <| jJ <| jL (.inl rfl) rfl (jM (v := .bool true) rfl) (List.nil_sublist _) ?_
    exact ⟨by rw [clashT, meetAny_comm w' r]; simp_all, rfl⟩
  refine jW rfl rfl rfl (cB h_3) (jY (jh (jI fo59_1 rfl))) ?_
  rintro _ _ ⟨rfl, rfl⟩
  refine jW rfl rfl rfl (cB h_3) (jY (jR 1 (v := .slice a2 w.length c2) rfl rfl ka rfl)) ?_
  rintro _ _ ⟨rfl, rfl⟩
  refine jW rfl rfl rfl (cB h_3) (jY (jh (jI fo59_1 rfl))) ?_
  rintro _ _ ⟨rfl, rfl⟩
  refine jW rfl rfl rfl (cB h_3) (jY (jR 0 (v := .slice b2 w'.length d2) rfl rfl ka rfl)) ?_
  rintro _ _ ⟨rfl, rfl⟩
  refine jW rfl rfl rfl (cB h_3) (jU [] Tryz.call155 rfl (Y_sMeetAny a2 b2 c2 d2 w w' hw hw') rfl (fun w_ hw_ => ⟨hw_.seeOut_ hpre.2.1 nM, hw_.seeOut_ hpre.2.2.2 nM⟩)) ?_
  rintro _ _ ⟨_, ⟨rfl, rfl⟩, rfl⟩
  refine jA (jx (v := .bool (meetAny w w')) (cB h_3) rfl) <| jA (jF (v := .bool (meetAny w w')) rfl) ?_
  rcases Bool.eq_false_or_eq_true (meetAny w w') with h_4 | h_4
  · refine jV (b := true) rfl rfl rfl (cB h_4) <| jV (b := true) rfl rfl rfl (cB h_4) <| jV (b := true) rfl rfl rfl (cB h_4) <| jV (b := true) rfl rfl rfl (cB h_4) <| jV (b := true) rfl rfl rfl (cB h_4) <| jA (jy (v := .bool true) (cB h_4) rfl) <| jA (jG (v := .bool true) rfl) <| jD <| jB <| jJ ?_
    refine jL (.inl rfl) rfl (jM (v := .bool true) rfl) (List.nil_sublist _) ?_
    exact ⟨by rw [clashT, meetAny_comm w' r]; simp_all, rfl⟩
  refine jW rfl rfl rfl (cB h_4) (jY (jh (jI fo59_0 rfl))) ?_
  rintro _ _ ⟨rfl, rfl⟩
  refine jW rfl rfl rfl (cB h_4) (jY (jR 1 (v := .slice a1 r.length c1) rfl rfl ka rfl)) ?_
  rintro _ _ ⟨rfl, rfl⟩
  refine jW rfl rfl rfl (cB h_4) (jY (jh (jI fo59_1 rfl))) ?_
  rintro _ _ ⟨rfl, rfl⟩
  refine jW rfl rfl rfl (cB h_4) (jY (jR 0 (v := .slice b2 w'.length d2) rfl rfl ka rfl)) ?_
  rintro _ _ ⟨rfl, rfl⟩
  refine jW rfl rfl rfl (cB h_4) (jU [] Tryz.call155 rfl (Y_sMeetAny a1 b2 c1 d2 r w' hr hw') rfl (fun w_ hw_ => ⟨hw_.seeOut_ hpre.1 nM, hw_.seeOut_ hpre.2.2.2 nM⟩)) ?_
  rintro _ _ ⟨_, ⟨rfl, rfl⟩, rfl⟩
  refine jA (jx (v := .bool (meetAny r w')) (cB h_4) rfl) <| jA (jG (v := .bool (meetAny r w')) rfl) <| jD <| jB <| jJ <| jL (.inl rfl) rfl (jM (v := .bool (meetAny r w')) rfl) (List.nil_sublist _) ?_
  exact ⟨by rw [clashT, meetAny_comm w' r]; simp_all, rfl⟩

set_option maxRecDepth 4000 in
set_option maxHeartbeats 1000000 in
theorem Y_implApart (a : Option Addr) (c : Nat) (l : List TX) (hn : l.length ≤ 1000000000) (hz : ∀ j, j < l.length → (l.getD j x0).t.okz) :
    Ct Tryz.prog 130 [.slice a l.length c] [] (fun w => SeesA w (rdsXS a c l)) (fun v A' => v = .bool (apartAll (l.map TX.t)) ∧ A' = []) := by
  refine Ct.intro Tryz.func130 rfl Tryz.ntmps130 (lb rfl) fun w0 hpre => ?_
  have hs_1 : Sees w0 (.slice a l.length c) 10 l.length (l.flatMap encX) := (hpre).head
  have hi_2 : SeesA w0 (l.flatMap rdsX) := (hpre).tail
  refine jC <| jE <| jA (jG (v := .bool false) rfl) <| jD <| jB <| jC <| jC <| jE <| jA (jF (v := .slice a l.length c) rfl) <| jA (jf kU rfl) ?_
  refine jA (jF (v := iv 0) rfl) <| jD <| jB <| jZ ?_
  refine jp (fun k_ e_ L_ => ∃ j : Nat, (j ≤ l.length) ∧ (∀ i, i < j → (rall i fun k => !bothLive (l.getD i x0).t (l.getD k x0).t) = true) ∧ e_ 0 = .slice a l.length c ∧ e_ 7 = .slice a l.length c ∧ e_ 8 = nv l.length ∧ e_ 9 = nv j ∧ L_ = [] ∧ k_ = l.length - j) _ ⟨0, by omega, (fun i hi => absurd hi (Nat.not_lt_zero i)), rfl, rfl, rfl, rfl, rfl, rfl⟩ ?_
  rintro _ e_3 _ ⟨j, hj, hN, he_4, he_5, he_6, he_7, rfl, rfl⟩
  refine jC <| jE <| jA (jc he_7 he_6) <| jD <| jB <| jC ?_
  by_cases h_8 : ((j : Nat) : Int) < ((l.length : Nat) : Int)
  · have hlt : j < l.length := by omega
    refine jS (cB (dT h_8)) <| jQ <| jB <| jC <| jZ <| jC <| jE <| jA (jF (v := nv j) he_7) ?_
    obtain ⟨hr_9, hr_9b, -⟩ := sees_some hs_1 (by omega)
    refine jA (jX (i := j) kU kS hr_9 hr_9b he_5 he_7 (by omega)) ?_
    have hi_10 := SeesA.elem hi_2 x0 (show j < l.length by omega)
    obtain ⟨hs_11, hs_12, hs_13, hs_14, hs_15⟩ := seesX hi_10
    refine jK (kF (vs := [iv ((l.getD j x0).t.id), iv ((l.getD j x0).t.age), iv ((l.getD j x0).t.proc), iv ((l.getD j x0).t.began), .slice ((l.getD j x0).x.a0) ((l.getD j x0).t.calls.length) ((l.getD j x0).x.c0), .slice ((l.getD j x0).x.a1) ((l.getD j x0).t.ans.length) ((l.getD j x0).x.c1), .slice ((l.getD j x0).x.a2) ((l.getD j x0).t.rd.length) ((l.getD j x0).x.c2), .slice ((l.getD j x0).x.a3) ((l.getD j x0).t.wr.length) ((l.getD j x0).x.c3), .slice ((l.getD j x0).x.a4) ((l.getD j x0).t.marks.length) ((l.getD j x0).x.c4), iv ((l.getD j x0).t.state)]) hs_1 nM rfl kg kS (flat_take encX_len x0 l j (by omega)) rfl (by decide)) ?_
    refine jH rfl (kB (z := .agg #[iv 0, iv 0, iv 0, iv 0, .slice none 0 0, .slice none 0 0, .slice none 0 0, .slice none 0 0, .slice none 0 0, iv 0]) (cs := [iv 0, iv 0, iv 0, iv 0, .slice none 0 0, .slice none 0 0, .slice none 0 0, .slice none 0 0, .slice none 0 0, iv 0]) gC rfl) ?_
    rintro _ _ ⟨b_16, rfl, rfl⟩
    refine jA (jG (v := nv j) rfl) ?_
    refine jH rfl (jd 0 (vs := [iv ((l.getD j x0).t.id), iv ((l.getD j x0).t.age), iv ((l.getD j x0).t.proc), iv ((l.getD j x0).t.began), .slice ((l.getD j x0).x.a0) ((l.getD j x0).t.calls.length) ((l.getD j x0).x.c0), .slice ((l.getD j x0).x.a1) ((l.getD j x0).t.ans.length) ((l.getD j x0).x.c1), .slice ((l.getD j x0).x.a2) ((l.getD j x0).t.rd.length) ((l.getD j x0).x.c2), .slice ((l.getD j x0).x.a3) ((l.getD j x0).t.wr.length) ((l.getD j x0).x.c3), .slice ((l.getD j x0).x.a4) ((l.getD j x0).t.marks.length) ((l.getD j x0).x.c4), iv ((l.getD j x0).t.state)]) (cs' := [iv ((l.getD j x0).t.id), iv ((l.getD j x0).t.age), iv ((l.getD j x0).t.proc), iv ((l.getD j x0).t.began), .slice ((l.getD j x0).x.a0) ((l.getD j x0).t.calls.length) ((l.getD j x0).x.c0), .slice ((l.getD j x0).x.a1) ((l.getD j x0).t.ans.length) ((l.getD j x0).x.c1), .slice ((l.getD j x0).x.a2) ((l.getD j x0).t.rd.length) ((l.getD j x0).x.c2), .slice ((l.getD j x0).x.a3) ((l.getD j x0).t.wr.length) ((l.getD j x0).x.c3), .slice ((l.getD j x0).x.a4) ((l.getD j x0).t.marks.length) ((l.getD j x0).x.c4), iv ((l.getD j x0).t.state)]) rfl rfl rfl rfl kS rfl rfl (lb rfl) rfl) ?_
    rintro _ _ rfl
    refine jD <| jB <| jC <| jE <| jA (jF (v := .slice a l.length c) he_4) <| jA (jF (v := nv j) rfl) ?_
    obtain ⟨hf_17m, hf_17x, hf_17s, hf_17l⟩ := sees_fits hs_1
    refine jA (PO.sliceVh (j := j) kU kS hf_17s rfl rfl (by omega)) <| jA (jf kU rfl) <| jA (jF (v := iv 0) rfl) <| jD <| jB <| jZ <| jp (fun k_ e_ L_ => ∃ k2 : Nat, (k2 ≤ j) ∧ (∀ i, i < k2 → (!bothLive (l.getD j x0).t (l.getD i x0).t) = true) ∧ e_ 0 = .slice a l.length c ∧ e_ 4 = .pointer (some ⟨b_16, 0, none⟩) ∧ e_ 7 = .slice a l.length c ∧ e_ 8 = nv l.length ∧ e_ 9 = nv j ∧ e_ 16 = .slice a j c ∧ e_ 17 = nv j ∧ e_ 18 = nv k2 ∧ L_ = [bk b_16 61 [iv ((l.getD j x0).t.id), iv ((l.getD j x0).t.age), iv ((l.getD j x0).t.proc), iv ((l.getD j x0).t.began), .slice ((l.getD j x0).x.a0) ((l.getD j x0).t.calls.length) ((l.getD j x0).x.c0), .slice ((l.getD j x0).x.a1) ((l.getD j x0).t.ans.length) ((l.getD j x0).x.c1), .slice ((l.getD j x0).x.a2) ((l.getD j x0).t.rd.length) ((l.getD j x0).x.c2), .slice ((l.getD j x0).x.a3) ((l.getD j x0).t.wr.length) ((l.getD j x0).x.c3), .slice ((l.getD j x0).x.a4) ((l.getD j x0).t.marks.length) ((l.getD j x0).x.c4), iv ((l.getD j x0).t.state)]] ∧ k_ = j - k2) _ ⟨0, by omega, (fun i hi => absurd hi (Nat.not_lt_zero i)), he_4, rfl, he_5, he_6, he_7, rfl, rfl, rfl, rfl, rfl⟩ ?_
    rintro _ e_18 _ ⟨k2, hk2, hM, he_19, he_20, he_21, he_22, he_23, he_24, he_25, he_26, rfl, rfl⟩
    refine jC <| jE <| jA (jc he_26 he_25) <| jD <| jB <| jC ?_
    by_cases h_27 : ((k2 : Nat) : Int) < ((j : Nat) : Int)
    · have hlt2 : k2 < j := by omega
      refine jS (cB (dT h_27)) <| jQ <| jB <| jC <| jZ <| jC <| jE <| jA (jX (i := k2) kU kS hr_9 hr_9b he_24 he_26 (by omega)) ?_
      have hi_28 := SeesA.elem hi_2 x0 (show k2 < l.length by omega)
      obtain ⟨hs_29, hs_30, hs_31, hs_32, hs_33⟩ := seesX hi_28
      refine jK (kF (vs := [iv ((l.getD k2 x0).t.id), iv ((l.getD k2 x0).t.age), iv ((l.getD k2 x0).t.proc), iv ((l.getD k2 x0).t.began), .slice ((l.getD k2 x0).x.a0) ((l.getD k2 x0).t.calls.length) ((l.getD k2 x0).x.c0), .slice ((l.getD k2 x0).x.a1) ((l.getD k2 x0).t.ans.length) ((l.getD k2 x0).x.c1), .slice ((l.getD k2 x0).x.a2) ((l.getD k2 x0).t.rd.length) ((l.getD k2 x0).x.c2), .slice ((l.getD k2 x0).x.a3) ((l.getD k2 x0).t.wr.length) ((l.getD k2 x0).x.c3), .slice ((l.getD k2 x0).x.a4) ((l.getD k2 x0).t.marks.length) ((l.getD k2 x0).x.c4), iv ((l.getD k2 x0).t.state)]) hs_1 nM rfl kg kS (flat_take encX_len x0 l k2 (by omega)) rfl (by decide)) ?_
      refine jH rfl (kB (z := .agg #[iv 0, iv 0, iv 0, iv 0, .slice none 0 0, .slice none 0 0, .slice none 0 0, .slice none 0 0, .slice none 0 0, iv 0]) (cs := [iv 0, iv 0, iv 0, iv 0, .slice none 0 0, .slice none 0 0, .slice none 0 0, .slice none 0 0, .slice none 0 0, iv 0]) gC rfl) ?_
      rintro _ _ ⟨b_34, rfl, rfl⟩
      refine jH rfl (jd 0 (vs := [iv ((l.getD k2 x0).t.id), iv ((l.getD k2 x0).t.age), iv ((l.getD k2 x0).t.proc), iv ((l.getD k2 x0).t.began), .slice ((l.getD k2 x0).x.a0) ((l.getD k2 x0).t.calls.length) ((l.getD k2 x0).x.c0), .slice ((l.getD k2 x0).x.a1) ((l.getD k2 x0).t.ans.length) ((l.getD k2 x0).x.c1), .slice ((l.getD k2 x0).x.a2) ((l.getD k2 x0).t.rd.length) ((l.getD k2 x0).x.c2), .slice ((l.getD k2 x0).x.a3) ((l.getD k2 x0).t.wr.length) ((l.getD k2 x0).x.c3), .slice ((l.getD k2 x0).x.a4) ((l.getD k2 x0).t.marks.length) ((l.getD k2 x0).x.c4), iv ((l.getD k2 x0).t.state)]) (cs' := [iv ((l.getD k2 x0).t.id), iv ((l.getD k2 x0).t.age), iv ((l.getD k2 x0).t.proc), iv ((l.getD k2 x0).t.began), .slice ((l.getD k2 x0).x.a0) ((l.getD k2 x0).t.calls.length) ((l.getD k2 x0).x.c0), .slice ((l.getD k2 x0).x.a1) ((l.getD k2 x0).t.ans.length) ((l.getD k2 x0).x.c1), .slice ((l.getD k2 x0).x.a2) ((l.getD k2 x0).t.rd.length) ((l.getD k2 x0).x.c2), .slice ((l.getD k2 x0).x.a3) ((l.getD k2 x0).t.wr.length) ((l.getD k2 x0).x.c3), .slice ((l.getD k2 x0).x.a4) ((l.getD k2 x0).t.marks.length) ((l.getD k2 x0).x.c4), iv ((l.getD k2 x0).t.state)]) rfl rfl rfl rfl kS rfl rfl (lb rfl) rfl) ?_
      rintro _ _ rfl
      refine jD <| jB <| jC <| jE <| jA (jI fo61_8 he_20) <| jK (jR 1 (v := iv ((l.getD j x0).t.state)) rfl rfl kR rfl) <| jA (PO.eqlI rfl rfl) <| jA (jF (v := .bool (decide (((l.getD j x0).t.state) = 1))) rfl) ?_
      by_cases h_35 : ((l.getD j x0).t.state) = 1
      · refine jW rfl rfl rfl (cB (dT h_35)) (jY (jh (jI fo61_8 rfl))) ?_
        rintro _ _ ⟨rfl, rfl⟩
        refine jW rfl rfl rfl (cB (dT h_35)) (jY (jR 0 (v := iv ((l.getD k2 x0).t.state)) rfl rfl kR rfl)) ?_
        rintro _ _ ⟨rfl, rfl⟩
        refine jW rfl rfl rfl (cB (dT h_35)) (jY (jh (PO.eqlI rfl rfl))) ?_
        rintro _ _ ⟨rfl, rfl⟩
        refine jA (jy (v := .bool (decide (((l.getD k2 x0).t.state) = 1))) (cB (dT h_35)) rfl) <| jA (jF (v := .bool (decide (((l.getD k2 x0).t.state) = 1))) rfl) ?_
        by_cases h_36 : ((l.getD k2 x0).t.state) = 1
        · refine jW rfl rfl rfl (cB (dT h_36)) (jY (jh (jI fo61_6 he_20))) ?_
          rintro _ _ ⟨rfl, rfl⟩
          refine jW rfl rfl rfl (cB (dT h_36)) (jY (jg 1 (vs := [.slice ((l.getD j x0).x.a2) ((l.getD j x0).t.rd.length) ((l.getD j x0).x.c2), .slice ((l.getD j x0).x.a3) ((l.getD j x0).t.wr.length) ((l.getD j x0).x.c3)]) rfl rfl gE kv rfl rfl)) ?_
          rintro _ _ ⟨rfl, rfl⟩
          refine jW rfl rfl rfl (cB (dT h_36)) (jY (jh (jI fo61_6 rfl))) ?_
          rintro _ _ ⟨rfl, rfl⟩
          refine jW rfl rfl rfl (cB (dT h_36)) (jY (jg 0 (vs := [.slice ((l.getD k2 x0).x.a2) ((l.getD k2 x0).t.rd.length) ((l.getD k2 x0).x.c2), .slice ((l.getD k2 x0).x.a3) ((l.getD k2 x0).t.wr.length) ((l.getD k2 x0).x.c3)]) rfl rfl gE kv rfl rfl)) ?_
          rintro _ _ ⟨rfl, rfl⟩
          refine jW rfl rfl rfl (cB (dT h_36)) (jU [] Tryz.call151 rfl (Y_implClash (l.getD j x0).x.a2 (l.getD j x0).x.a3 (l.getD k2 x0).x.a2 (l.getD k2 x0).x.a3 ((l.getD j x0).x.c2) ((l.getD j x0).x.c3) ((l.getD k2 x0).x.c2) ((l.getD k2 x0).x.c3) ((l.getD j x0).t.rd) ((l.getD j x0).t.wr) ((l.getD k2 x0).t.rd) ((l.getD k2 x0).t.wr) (hz j (by omega)).k2 (hz j (by omega)).k3 (hz k2 (by omega)).k2 (hz k2 (by omega)).k3) rfl (fun w hw => ⟨hw.seeOut_ hs_13 nM, hw.seeOut_ hs_14 nM, hw.seeOut_ hs_31 nM, hw.seeOut_ hs_32 nM⟩)) ?_
          rintro _ _ ⟨_, ⟨rfl, rfl⟩, rfl⟩
          refine jA (jy (v := .bool (clashT ((l.getD j x0).t.rd) ((l.getD j x0).t.wr) ((l.getD k2 x0).t.rd) ((l.getD k2 x0).t.wr))) (cB (dT h_36)) rfl) <| jD <| jB ?_
          rcases Bool.eq_false_or_eq_true (clashT ((l.getD j x0).t.rd) ((l.getD j x0).t.wr) ((l.getD k2 x0).t.rd) ((l.getD k2 x0).t.wr)) with h_37 | h_37
          · refine jS (cB h_37) <| jC <| jE <| jA (jG (v := .bool false) rfl) <| jD <| jB <| jJ <| je <| jO <| jO ?_
            refine je <| je <| jO <| jO <| je <| jO <| jL (.inl rfl) rfl (jM (v := .bool false) rfl) (List.nil_sublist _) ?_
            exact ⟨cB ((apart_map l).trans (rall_false hlt (rall_false hlt2 (by simp [-List.getD_eq_getElem?_getD, bothLive, (dT h_35), h_35, (dT h_36), h_36, h_37])))).symm, rfl⟩
          refine jP (cB h_37) <| jQ <| jk <| jB <| jE <| jA (ja (c := ((k2 + 1 : Nat) : Int)) he_26 rfl (wr (by omega))) <| jA (jF (v := iv ((k2 + 1 : Nat) : Int)) rfl) <| jD <| kL [1] (A := [bk b_16 61 [iv ((l.getD j x0).t.id), iv ((l.getD j x0).t.age), iv ((l.getD j x0).t.proc), iv ((l.getD j x0).t.began), .slice ((l.getD j x0).x.a0) ((l.getD j x0).t.calls.length) ((l.getD j x0).x.c0), .slice ((l.getD j x0).x.a1) ((l.getD j x0).t.ans.length) ((l.getD j x0).x.c1), .slice ((l.getD j x0).x.a2) ((l.getD j x0).t.rd.length) ((l.getD j x0).x.c2), .slice ((l.getD j x0).x.a3) ((l.getD j x0).t.wr.length) ((l.getD j x0).x.c3), .slice ((l.getD j x0).x.a4) ((l.getD j x0).t.marks.length) ((l.getD j x0).x.c4), iv ((l.getD j x0).t.state)]]) rfl ?_
          refine jl (j - (k2 + 1)) (by omega) ⟨k2 + 1, by omega, (fun i hi => if h : i = k2 then h ▸ (by simp [-List.getD_eq_getElem?_getD, bothLive, (dT h_35), h_35, (dT h_36), h_36, h_37]) else hM i (by omega)), he_19, he_20, he_21, he_22, he_23, he_24, he_25, rfl, rfl, rfl⟩
        refine jV (b := false) rfl rfl rfl (cB (dF h_36)) <| jV (b := false) rfl rfl rfl (cB (dF h_36)) <| jV (b := false) rfl rfl rfl (cB (dF h_36)) <| jV (b := false) rfl rfl rfl (cB (dF h_36)) <| jV (b := false) rfl rfl rfl (cB (dF h_36)) <| jA (jx (v := .bool false) (cB (dF h_36)) rfl) <| jD <| jB <| jP (cB rfl) <| jQ ?_
        refine jk <| jB <| jE <| jA (ja (c := ((k2 + 1 : Nat) : Int)) he_26 rfl (wr (by omega))) <| jA (jF (v := iv ((k2 + 1 : Nat) : Int)) rfl) <| jD <| kL [1] (A := [bk b_16 61 [iv ((l.getD j x0).t.id), iv ((l.getD j x0).t.age), iv ((l.getD j x0).t.proc), iv ((l.getD j x0).t.began), .slice ((l.getD j x0).x.a0) ((l.getD j x0).t.calls.length) ((l.getD j x0).x.c0), .slice ((l.getD j x0).x.a1) ((l.getD j x0).t.ans.length) ((l.getD j x0).x.c1), .slice ((l.getD j x0).x.a2) ((l.getD j x0).t.rd.length) ((l.getD j x0).x.c2), .slice ((l.getD j x0).x.a3) ((l.getD j x0).t.wr.length) ((l.getD j x0).x.c3), .slice ((l.getD j x0).x.a4) ((l.getD j x0).t.marks.length) ((l.getD j x0).x.c4), iv ((l.getD j x0).t.state)]]) rfl ?_
        refine jl (j - (k2 + 1)) (by omega) ⟨k2 + 1, by omega, (fun i hi => if h : i = k2 then h ▸ (by simp [-List.getD_eq_getElem?_getD, bothLive, (dT h_35), h_35, (dF h_36), h_36]) else hM i (by omega)), he_19, he_20, he_21, he_22, he_23, he_24, he_25, rfl, rfl, rfl⟩
      refine jV (b := false) rfl rfl rfl (cB (dF h_35)) <| jV (b := false) rfl rfl rfl (cB (dF h_35)) <| jV (b := false) rfl rfl rfl (cB (dF h_35)) <| jA (jx (v := .bool false) (cB (dF h_35)) rfl) <| jA (jF (v := .bool false) rfl) <| jV (b := false) rfl rfl rfl (cB rfl) <| jV (b := false) rfl rfl rfl (cB rfl) <| jV (b := false) rfl rfl rfl (cB rfl) <| jV (b := false) rfl rfl rfl (cB rfl) <| jV (b := false) rfl rfl rfl (cB rfl) ?_
      refine jA (jx (v := .bool false) (cB rfl) rfl) <| jD <| jB <| jP (cB rfl) <| jQ <| jk <| jB <| jE <| jA (ja (c := ((k2 + 1 : Nat) : Int)) he_26 rfl (wr (by omega))) <| jA (jF (v := iv ((k2 + 1 : Nat) : Int)) rfl) ?_
      refine jD <| kL [1] (A := [bk b_16 61 [iv ((l.getD j x0).t.id), iv ((l.getD j x0).t.age), iv ((l.getD j x0).t.proc), iv ((l.getD j x0).t.began), .slice ((l.getD j x0).x.a0) ((l.getD j x0).t.calls.length) ((l.getD j x0).x.c0), .slice ((l.getD j x0).x.a1) ((l.getD j x0).t.ans.length) ((l.getD j x0).x.c1), .slice ((l.getD j x0).x.a2) ((l.getD j x0).t.rd.length) ((l.getD j x0).x.c2), .slice ((l.getD j x0).x.a3) ((l.getD j x0).t.wr.length) ((l.getD j x0).x.c3), .slice ((l.getD j x0).x.a4) ((l.getD j x0).t.marks.length) ((l.getD j x0).x.c4), iv ((l.getD j x0).t.state)]]) rfl ?_
      refine jl (j - (k2 + 1)) (by omega) ⟨k2 + 1, by omega, (fun i hi => if h : i = k2 then h ▸ (by simp [-List.getD_eq_getElem?_getD, bothLive, (dF h_35), h_35]) else hM i (by omega)), he_19, he_20, he_21, he_22, he_23, he_24, he_25, rfl, rfl, rfl⟩
    refine jP (cB (dF h_27)) <| jn <| jb <| jb <| jo <| jk <| jB <| jE <| jA (ja (c := ((j + 1 : Nat) : Int)) he_23 rfl (wr (by omega))) <| jA (jF (v := iv ((j + 1 : Nat) : Int)) rfl) ?_
    refine jD <| kL [] (A := []) rfl ?_
    refine jl (l.length - (j + 1)) (by omega) ⟨j + 1, by omega, (fun i hi => if h : i = j then h ▸ (rall_true fun i hi => hM i (by omega)) else hN i (by omega)), he_19, he_21, he_22, rfl, rfl, rfl⟩
  refine jP (cB (dF h_8)) <| jn <| jb <| jb <| jo <| jB <| jC <| jE <| jA (jG (v := .bool true) rfl) <| jD ?_
  refine jB <| jJ <| jL (.inl rfl) rfl (jM (v := .bool true) rfl) (List.nil_sublist _) ?_
  exact ⟨cB ((apart_map l).trans (rall_true fun i hi => hN i (by omega))).symm, rfl⟩

set_option maxRecDepth 4000 in
set_option maxHeartbeats 1000000 in
theorem Y_specApart (a : Option Addr) (c : Nat) (l : List TX) (hn : l.length ≤ 1000000000) (hz : ∀ j, j < l.length → (l.getD j x0).t.okz) :
    Ct Tryz.prog 125 [.slice a l.length c] [] (fun w => SeesA w (rdsXS a c l)) (fun v A' => v = .bool (apartAll (l.map TX.t)) ∧ A' = []) := by
  refine Ct.intro Tryz.func125 rfl Tryz.ntmps125 (lb rfl) fun w0 hpre => ?_
  have hs_1 : Sees w0 (.slice a l.length c) 10 l.length (l.flatMap encX) := (hpre).head
  have hi_2 : SeesA w0 (l.flatMap rdsX) := (hpre).tail
  refine jC <| jE <| jA (jG (v := .bool false) rfl) <| jD <| jB <| jC <| jC <| jE <| jA (jG (v := iv 0) rfl) <| jD ?_
  refine jB <| jZ ?_
  refine jp (fun k_ e_ L_ => ∃ j : Nat, (j ≤ l.length) ∧ (∀ i, i < j → (rall i fun k => !bothLive (l.getD i x0).t (l.getD k x0).t) = true) ∧ e_ 0 = .slice a l.length c ∧ e_ 3 = nv j ∧ L_ = [] ∧ k_ = l.length - j) _ ⟨0, by omega, (fun i hi => absurd hi (Nat.not_lt_zero i)), rfl, rfl, rfl, rfl⟩ ?_
  rintro _ e_3 _ ⟨j, hj, hN, he_4, he_5, rfl, rfl⟩
  refine jC <| jC <| jE <| jA (jF (v := nv j) he_5) <| jA (jF (v := .slice a l.length c) he_4) <| jA (jf kU rfl) <| jA (jc rfl rfl) <| jD <| jB ?_
  by_cases h_6 : ((j : Nat) : Int) < ((l.length : Nat) : Int)
  · have hlt : j < l.length := by omega
    refine jS (cB (dT h_6)) <| jQ <| jB <| jC <| jZ <| jC <| jE <| jA (jG (v := iv 0) rfl) <| jD <| jB ?_
    refine jZ <| jp (fun k_ e_ L_ => ∃ k2 : Nat, (k2 ≤ j) ∧ (∀ i, i < k2 → (!bothLive (l.getD j x0).t (l.getD i x0).t) = true) ∧ e_ 0 = .slice a l.length c ∧ e_ 3 = nv j ∧ e_ 4 = nv k2 ∧ L_ = [] ∧ k_ = j - k2) _ ⟨0, by omega, (fun i hi => absurd hi (Nat.not_lt_zero i)), he_4, he_5, rfl, rfl, rfl⟩ ?_
    rintro _ e_7 _ ⟨k2, hk2, hM, he_8, he_9, he_10, rfl, rfl⟩
    refine jC <| jC <| jE <| jA (jF (v := nv k2) he_10) <| jA (jF (v := nv j) he_9) <| jA (jc rfl rfl) <| jD <| jB ?_
    by_cases h_11 : ((k2 : Nat) : Int) < ((j : Nat) : Int)
    · have hlt2 : k2 < j := by omega
      refine jS (cB (dT h_11)) <| jQ <| jB <| jC <| jZ <| jC <| kG [] 1000 mixed (by simp) <| jT 0 rfl (jF (v := .slice a l.length c) he_8) <| jT 1 rfl (jF (v := nv j) he_9) ?_
      obtain ⟨hr_12, hr_12b, -⟩ := sees_some hs_1 (by omega)
      refine jT 2 rfl (jX (i := j) kU kS hr_12 hr_12b rfl rfl (by omega)) <| jT 3 rfl (ji fo61_8 hr_12 rfl) ?_
      have hi_13 := SeesA.elem hi_2 x0 (show j < l.length by omega)
      obtain ⟨hs_14, hs_15, hs_16, hs_17, hs_18⟩ := seesX hi_13
      refine jw 4 rfl (ju (v := iv ((l.getD j x0).t.state)) hs_1 nM rfl kR (flat_at encX_len x0 l j 9 (by omega) (by decide))) <| jT 5 rfl (PO.eqlI rfl rfl) <| jT 6 rfl (jF (v := .bool (decide (((l.getD j x0).t.state) = 1))) rfl) ?_
      by_cases h_19 : ((l.getD j x0).t.state) = 1
      · refine jr 7 rfl (by kernel_rfl) (NP.th (NP.bl (NP.th (NP.th (NP.bl (NP.bl (NP.th (NP.th (NP.bl (NP.th NP.body)))))))))) (by kernel_rfl) (by kernel_rfl) rfl rfl rfl (cB (dT h_19)) (jF (v := .slice a l.length c) he_8) <| jr 8 rfl (by kernel_rfl) (NP.th (NP.bl (NP.th (NP.th (NP.bl (NP.bl (NP.th (NP.th (NP.bl (NP.th NP.body)))))))))) (by kernel_rfl) (by kernel_rfl) rfl rfl rfl (cB (dT h_19)) (jF (v := nv k2) he_10) <| jr 9 rfl (by kernel_rfl) (NP.th (NP.bl (NP.th (NP.th (NP.bl (NP.bl (NP.th (NP.th (NP.bl (NP.th NP.body)))))))))) (by kernel_rfl) (by kernel_rfl) rfl rfl rfl (cB (dT h_19)) (jX (i := k2) kU kS hr_12 hr_12b rfl rfl (by omega)) <| jr 10 rfl (by kernel_rfl) (NP.th (NP.bl (NP.th (NP.th (NP.bl (NP.bl (NP.th (NP.th (NP.bl (NP.th NP.body)))))))))) (by kernel_rfl) (by kernel_rfl) rfl rfl rfl (cB (dT h_19)) (ji fo61_8 hr_12 rfl) ?_
        have hi_20 := SeesA.elem hi_2 x0 (show k2 < l.length by omega)
        obtain ⟨hs_21, hs_22, hs_23, hs_24, hs_25⟩ := seesX hi_20
        refine JA.takeOn 11 rfl (by kernel_rfl) (NP.th (NP.bl (NP.th (NP.th (NP.bl (NP.bl (NP.th (NP.th (NP.bl (NP.th NP.body)))))))))) (by kernel_rfl) (by kernel_rfl) (by kernel_rfl) rfl rfl rfl (cB (dT h_19)) (ju (v := iv ((l.getD k2 x0).t.state)) hs_1 nM rfl kR (flat_at encX_len x0 l k2 9 (by omega) (by decide))) <| jr 12 rfl (by kernel_rfl) (NP.th (NP.bl (NP.th (NP.th (NP.bl (NP.bl (NP.th (NP.th (NP.bl (NP.th NP.body)))))))))) (by kernel_rfl) (by kernel_rfl) rfl rfl rfl (cB (dT h_19)) (PO.eqlI rfl rfl) <| jT 13 rfl (jy (v := .bool (decide (((l.getD k2 x0).t.state) = 1))) (cB (dT h_19)) rfl) <| jT 14 rfl (jF (v := .bool (decide (((l.getD k2 x0).t.state) = 1))) rfl) ?_
        by_cases h_26 : ((l.getD k2 x0).t.state) = 1
        · refine jr 15 rfl (by kernel_rfl) (NP.th (NP.bl (NP.th (NP.th (NP.bl (NP.bl (NP.th (NP.th (NP.bl (NP.th NP.body)))))))))) (by kernel_rfl) (by kernel_rfl) rfl rfl rfl (cB (dT h_26)) (jF (v := .slice a l.length c) he_8) <| jr 16 rfl (by kernel_rfl) (NP.th (NP.bl (NP.th (NP.th (NP.bl (NP.bl (NP.th (NP.th (NP.bl (NP.th NP.body)))))))))) (by kernel_rfl) (by kernel_rfl) rfl rfl rfl (cB (dT h_26)) (jF (v := nv j) he_9) <| jr 17 rfl (by kernel_rfl) (NP.th (NP.bl (NP.th (NP.th (NP.bl (NP.bl (NP.th (NP.th (NP.bl (NP.th NP.body)))))))))) (by kernel_rfl) (by kernel_rfl) rfl rfl rfl (cB (dT h_26)) (jX (i := j) kU kS hr_12 hr_12b rfl rfl (by omega)) <| jr 18 rfl (by kernel_rfl) (NP.th (NP.bl (NP.th (NP.th (NP.bl (NP.bl (NP.th (NP.th (NP.bl (NP.th NP.body)))))))))) (by kernel_rfl) (by kernel_rfl) rfl rfl rfl (cB (dT h_26)) (ji fo61_6 hr_12 rfl) <| JA.takeOn 19 rfl (by kernel_rfl) (NP.th (NP.bl (NP.th (NP.th (NP.bl (NP.bl (NP.th (NP.th (NP.bl (NP.th NP.body)))))))))) (by kernel_rfl) (by kernel_rfl) (by kernel_rfl) rfl rfl rfl (cB (dT h_26)) (kF (vs := [.slice ((l.getD j x0).x.a2) ((l.getD j x0).t.rd.length) ((l.getD j x0).x.c2), .slice ((l.getD j x0).x.a3) ((l.getD j x0).t.wr.length) ((l.getD j x0).x.c3)]) hs_1 nM rfl gE kv (flat_part encX_len x0 l j 6 2 (by omega) (by decide)) rfl (by decide)) <| jr 20 rfl (by kernel_rfl) (NP.th (NP.bl (NP.th (NP.th (NP.bl (NP.bl (NP.th (NP.th (NP.bl (NP.th NP.body)))))))))) (by kernel_rfl) (by kernel_rfl) rfl rfl rfl (cB (dT h_26)) (jF (v := .slice a l.length c) he_8) <| jr 21 rfl (by kernel_rfl) (NP.th (NP.bl (NP.th (NP.th (NP.bl (NP.bl (NP.th (NP.th (NP.bl (NP.th NP.body)))))))))) (by kernel_rfl) (by kernel_rfl) rfl rfl rfl (cB (dT h_26)) (jF (v := nv k2) he_10) <| jr 22 rfl (by kernel_rfl) (NP.th (NP.bl (NP.th (NP.th (NP.bl (NP.bl (NP.th (NP.th (NP.bl (NP.th NP.body)))))))))) (by kernel_rfl) (by kernel_rfl) rfl rfl rfl (cB (dT h_26)) (jX (i := k2) kU kS hr_12 hr_12b rfl rfl (by omega)) <| jr 23 rfl (by kernel_rfl) (NP.th (NP.bl (NP.th (NP.th (NP.bl (NP.bl (NP.th (NP.th (NP.bl (NP.th NP.body)))))))))) (by kernel_rfl) (by kernel_rfl) rfl rfl rfl (cB (dT h_26)) (ji fo61_6 hr_12 rfl) <| JA.takeOn 24 rfl (by kernel_rfl) (NP.th (NP.bl (NP.th (NP.th (NP.bl (NP.bl (NP.th (NP.th (NP.bl (NP.th NP.body)))))))))) (by kernel_rfl) (by kernel_rfl) (by kernel_rfl) rfl rfl rfl (cB (dT h_26)) (kF (vs := [.slice ((l.getD k2 x0).x.a2) ((l.getD k2 x0).t.rd.length) ((l.getD k2 x0).x.c2), .slice ((l.getD k2 x0).x.a3) ((l.getD k2 x0).t.wr.length) ((l.getD k2 x0).x.c3)]) hs_1 nM rfl gE kv (flat_part encX_len x0 l k2 6 2 (by omega) (by decide)) rfl (by decide)) ?_
          refine jq (i := 25) ?_
          refine JX.opOnD rfl rfl rfl rfl (cB (dT h_26)) (jU [] Tryz.call148 rfl (Y_specClash (l.getD j x0).x.a2 (l.getD j x0).x.a3 (l.getD k2 x0).x.a2 (l.getD k2 x0).x.a3 ((l.getD j x0).x.c2) ((l.getD j x0).x.c3) ((l.getD k2 x0).x.c2) ((l.getD k2 x0).x.c3) ((l.getD j x0).t.rd) ((l.getD j x0).t.wr) ((l.getD k2 x0).t.rd) ((l.getD k2 x0).t.wr) (hz j (by omega)).k2 (hz j (by omega)).k3 (hz k2 (by omega)).k2 (hz k2 (by omega)).k3) rfl (fun w hw => ⟨hw.seeOut_ hs_16 nM, hw.seeOut_ hs_17 nM, hw.seeOut_ hs_23 nM, hw.seeOut_ hs_24 nM⟩)) ?_
          rintro _ _ ⟨_, ⟨rfl, rfl⟩, rfl⟩
          refine ⟨(fun _ h => by cases h), ?_⟩
          refine jT 26 rfl (jy (v := .bool (clashT ((l.getD j x0).t.rd) ((l.getD j x0).t.wr) ((l.getD k2 x0).t.rd) ((l.getD k2 x0).t.wr))) (cB (dT h_26)) rfl) <| kH (by kernel_rfl) <| jB ?_
          rcases Bool.eq_false_or_eq_true (clashT ((l.getD j x0).t.rd) ((l.getD j x0).t.wr) ((l.getD k2 x0).t.rd) ((l.getD k2 x0).t.wr)) with h_27 | h_27
          · refine jS (cB h_27) <| jC <| jE <| jA (jG (v := .bool false) rfl) <| jD <| jB <| jJ <| je <| jO <| jO ?_
            refine je <| je <| jO <| jO <| je <| jO <| jL (.inl rfl) rfl (jM (v := .bool false) rfl) (List.nil_sublist _) ?_
            exact ⟨cB ((apart_map l).trans (rall_false hlt (rall_false hlt2 (by simp [-List.getD_eq_getElem?_getD, bothLive, (dT h_19), h_19, (dT h_26), h_26, h_27])))).symm, rfl⟩
          refine jP (cB h_27) <| jQ <| jk <| jB <| jE <| jA (jF (v := nv k2) he_10) <| jA (ja (c := ((k2 + 1 : Nat) : Int)) rfl rfl (wr (by omega))) <| jA (jG (v := iv ((k2 + 1 : Nat) : Int)) rfl) <| jD ?_
          refine jl (j - (k2 + 1)) (by omega) ⟨k2 + 1, by omega, (fun i hi => if h : i = k2 then h ▸ (by simp [-List.getD_eq_getElem?_getD, bothLive, (dT h_19), h_19, (dT h_26), h_26, h_27]) else hM i (by omega)), he_8, he_9, rfl, rfl, rfl⟩
        refine jj 15 (b := false) rfl (by kernel_rfl) (NP.th (NP.bl (NP.th (NP.th (NP.bl (NP.bl (NP.th (NP.th (NP.bl (NP.th NP.body)))))))))) (by kernel_rfl) (by kernel_rfl) rfl rfl rfl (cB (dF h_26)) <| jj 16 (b := false) rfl (by kernel_rfl) (NP.th (NP.bl (NP.th (NP.th (NP.bl (NP.bl (NP.th (NP.th (NP.bl (NP.th NP.body)))))))))) (by kernel_rfl) (by kernel_rfl) rfl rfl rfl (cB (dF h_26)) <| jj 17 (b := false) rfl (by kernel_rfl) (NP.th (NP.bl (NP.th (NP.th (NP.bl (NP.bl (NP.th (NP.th (NP.bl (NP.th NP.body)))))))))) (by kernel_rfl) (by kernel_rfl) rfl rfl rfl (cB (dF h_26)) <| jj 18 (b := false) rfl (by kernel_rfl) (NP.th (NP.bl (NP.th (NP.th (NP.bl (NP.bl (NP.th (NP.th (NP.bl (NP.th NP.body)))))))))) (by kernel_rfl) (by kernel_rfl) rfl rfl rfl (cB (dF h_26)) <| jj 19 (b := false) rfl (by kernel_rfl) (NP.th (NP.bl (NP.th (NP.th (NP.bl (NP.bl (NP.th (NP.th (NP.bl (NP.th NP.body)))))))))) (by kernel_rfl) (by kernel_rfl) rfl rfl rfl (cB (dF h_26)) <| jj 20 (b := false) rfl (by kernel_rfl) (NP.th (NP.bl (NP.th (NP.th (NP.bl (NP.bl (NP.th (NP.th (NP.bl (NP.th NP.body)))))))))) (by kernel_rfl) (by kernel_rfl) rfl rfl rfl (cB (dF h_26)) <| jj 21 (b := false) rfl (by kernel_rfl) (NP.th (NP.bl (NP.th (NP.th (NP.bl (NP.bl (NP.th (NP.th (NP.bl (NP.th NP.body)))))))))) (by kernel_rfl) (by kernel_rfl) rfl rfl rfl (cB (dF h_26)) <| jj 22 (b := false) rfl (by kernel_rfl) (NP.th (NP.bl (NP.th (NP.th (NP.bl (NP.bl (NP.th (NP.th (NP.bl (NP.th NP.body)))))))))) (by kernel_rfl) (by kernel_rfl) rfl rfl rfl (cB (dF h_26)) <| jj 23 (b := false) rfl (by kernel_rfl) (NP.th (NP.bl (NP.th (NP.th (NP.bl (NP.bl (NP.th (NP.th (NP.bl (NP.th NP.body)))))))))) (by kernel_rfl) (by kernel_rfl) rfl rfl rfl (cB (dF h_26)) <| jj 24 (b := false) rfl (by kernel_rfl) (NP.th (NP.bl (NP.th (NP.th (NP.bl (NP.bl (NP.th (NP.th (NP.bl (NP.th NP.body)))))))))) (by kernel_rfl) (by kernel_rfl) rfl rfl rfl (cB (dF h_26)) ?_
        refine jj 25 (b := false) rfl (by kernel_rfl) (NP.th (NP.bl (NP.th (NP.th (NP.bl (NP.bl (NP.th (NP.th (NP.bl (NP.th NP.body)))))))))) (by kernel_rfl) (by kernel_rfl) rfl rfl rfl (cB (dF h_26)) <| jT 26 rfl (jx (v := .bool false) (cB (dF h_26)) rfl) <| kH (by kernel_rfl) <| jB <| jP (cB rfl) <| jQ <| jk <| jB <| jE <| jA (jF (v := nv k2) he_10) ?_
        refine jA (ja (c := ((k2 + 1 : Nat) : Int)) rfl rfl (wr (by omega))) <| jA (jG (v := iv ((k2 + 1 : Nat) : Int)) rfl) <| jD ?_
        refine jl (j - (k2 + 1)) (by omega) ⟨k2 + 1, by omega, (fun i hi => if h : i = k2 then h ▸ (by simp [-List.getD_eq_getElem?_getD, bothLive, (dT h_19), h_19, (dF h_26), h_26]) else hM i (by omega)), he_8, he_9, rfl, rfl, rfl⟩
      refine jj 7 (b := false) rfl (by kernel_rfl) (NP.th (NP.bl (NP.th (NP.th (NP.bl (NP.bl (NP.th (NP.th (NP.bl (NP.th NP.body)))))))))) (by kernel_rfl) (by kernel_rfl) rfl rfl rfl (cB (dF h_19)) <| jj 8 (b := false) rfl (by kernel_rfl) (NP.th (NP.bl (NP.th (NP.th (NP.bl (NP.bl (NP.th (NP.th (NP.bl (NP.th NP.body)))))))))) (by kernel_rfl) (by kernel_rfl) rfl rfl rfl (cB (dF h_19)) <| jj 9 (b := false) rfl (by kernel_rfl) (NP.th (NP.bl (NP.th (NP.th (NP.bl (NP.bl (NP.th (NP.th (NP.bl (NP.th NP.body)))))))))) (by kernel_rfl) (by kernel_rfl) rfl rfl rfl (cB (dF h_19)) <| jj 10 (b := false) rfl (by kernel_rfl) (NP.th (NP.bl (NP.th (NP.th (NP.bl (NP.bl (NP.th (NP.th (NP.bl (NP.th NP.body)))))))))) (by kernel_rfl) (by kernel_rfl) rfl rfl rfl (cB (dF h_19)) <| jj 11 (b := false) rfl (by kernel_rfl) (NP.th (NP.bl (NP.th (NP.th (NP.bl (NP.bl (NP.th (NP.th (NP.bl (NP.th NP.body)))))))))) (by kernel_rfl) (by kernel_rfl) rfl rfl rfl (cB (dF h_19)) <| jj 12 (b := false) rfl (by kernel_rfl) (NP.th (NP.bl (NP.th (NP.th (NP.bl (NP.bl (NP.th (NP.th (NP.bl (NP.th NP.body)))))))))) (by kernel_rfl) (by kernel_rfl) rfl rfl rfl (cB (dF h_19)) <| jT 13 rfl (jx (v := .bool false) (cB (dF h_19)) rfl) <| jT 14 rfl (jF (v := .bool false) rfl) <| jj 15 (b := false) rfl (by kernel_rfl) (NP.th (NP.bl (NP.th (NP.th (NP.bl (NP.bl (NP.th (NP.th (NP.bl (NP.th NP.body)))))))))) (by kernel_rfl) (by kernel_rfl) rfl rfl rfl (cB rfl) <| jj 16 (b := false) rfl (by kernel_rfl) (NP.th (NP.bl (NP.th (NP.th (NP.bl (NP.bl (NP.th (NP.th (NP.bl (NP.th NP.body)))))))))) (by kernel_rfl) (by kernel_rfl) rfl rfl rfl (cB rfl) ?_
      refine jj 17 (b := false) rfl (by kernel_rfl) (NP.th (NP.bl (NP.th (NP.th (NP.bl (NP.bl (NP.th (NP.th (NP.bl (NP.th NP.body)))))))))) (by kernel_rfl) (by kernel_rfl) rfl rfl rfl (cB rfl) <| jj 18 (b := false) rfl (by kernel_rfl) (NP.th (NP.bl (NP.th (NP.th (NP.bl (NP.bl (NP.th (NP.th (NP.bl (NP.th NP.body)))))))))) (by kernel_rfl) (by kernel_rfl) rfl rfl rfl (cB rfl) <| jj 19 (b := false) rfl (by kernel_rfl) (NP.th (NP.bl (NP.th (NP.th (NP.bl (NP.bl (NP.th (NP.th (NP.bl (NP.th NP.body)))))))))) (by kernel_rfl) (by kernel_rfl) rfl rfl rfl (cB rfl) <| jj 20 (b := false) rfl (by kernel_rfl) (NP.th (NP.bl (NP.th (NP.th (NP.bl (NP.bl (NP.th (NP.th (NP.bl (NP.th NP.body)))))))))) (by kernel_rfl) (by kernel_rfl) rfl rfl rfl (cB rfl) <| jj 21 (b := false) rfl (by kernel_rfl) (NP.th (NP.bl (NP.th (NP.th (NP.bl (NP.bl (NP.th (NP.th (NP.bl (NP.th NP.body)))))))))) (by kernel_rfl) (by kernel_rfl) rfl rfl rfl (cB rfl) <| jj 22 (b := false) rfl (by kernel_rfl) (NP.th (NP.bl (NP.th (NP.th (NP.bl (NP.bl (NP.th (NP.th (NP.bl (NP.th NP.body)))))))))) (by kernel_rfl) (by kernel_rfl) rfl rfl rfl (cB rfl) <| jj 23 (b := false) rfl (by kernel_rfl) (NP.th (NP.bl (NP.th (NP.th (NP.bl (NP.bl (NP.th (NP.th (NP.bl (NP.th NP.body)))))))))) (by kernel_rfl) (by kernel_rfl) rfl rfl rfl (cB rfl) <| jj 24 (b := false) rfl (by kernel_rfl) (NP.th (NP.bl (NP.th (NP.th (NP.bl (NP.bl (NP.th (NP.th (NP.bl (NP.th NP.body)))))))))) (by kernel_rfl) (by kernel_rfl) rfl rfl rfl (cB rfl) <| jj 25 (b := false) rfl (by kernel_rfl) (NP.th (NP.bl (NP.th (NP.th (NP.bl (NP.bl (NP.th (NP.th (NP.bl (NP.th NP.body)))))))))) (by kernel_rfl) (by kernel_rfl) rfl rfl rfl (cB rfl) <| jT 26 rfl (jx (v := .bool false) (cB rfl) rfl) ?_
      refine kH (by kernel_rfl) <| jB <| jP (cB rfl) <| jQ <| jk <| jB <| jE <| jA (jF (v := nv k2) he_10) <| jA (ja (c := ((k2 + 1 : Nat) : Int)) rfl rfl (wr (by omega))) <| jA (jG (v := iv ((k2 + 1 : Nat) : Int)) rfl) ?_
      refine jD ?_
      refine jl (j - (k2 + 1)) (by omega) ⟨k2 + 1, by omega, (fun i hi => if h : i = k2 then h ▸ (by simp [-List.getD_eq_getElem?_getD, bothLive, (dF h_19), h_19]) else hM i (by omega)), he_8, he_9, rfl, rfl, rfl⟩
    refine jP (cB (dF h_11)) <| jn <| jb <| jb <| jo <| jk <| jB <| jE <| jA (jF (v := nv j) he_9) <| jA (ja (c := ((j + 1 : Nat) : Int)) rfl rfl (wr (by omega))) ?_
    refine jA (jG (v := iv ((j + 1 : Nat) : Int)) rfl) <| jD ?_
    refine jl (l.length - (j + 1)) (by omega) ⟨j + 1, by omega, (fun i hi => if h : i = j then h ▸ (rall_true fun i hi => hM i (by omega)) else hN i (by omega)), he_8, rfl, rfl, rfl⟩
  refine jP (cB (dF h_6)) <| jn <| jb <| jb <| jo <| jB <| jC <| jE <| jA (jG (v := .bool true) rfl) <| jD ?_
  refine jB <| jJ <| jL (.inl rfl) rfl (jM (v := .bool true) rfl) (List.nil_sublist _) ?_
  exact ⟨cB ((apart_map l).trans (rall_true fun i hi => hN i (by omega))).symm, rfl⟩

end Go.Proofs.YtkmpmjficoohkaaGreat

set_option linter.unusedSimpArgs false
set_option linter.unusedVariables false
set_option linter.unnecessarySimpa false
namespace Go.Proofs.YtkmpmjficoohkaaGreat
open Go Go.RowKit
theorem hiX {w : World} {a : Option Addr} {c : Nat} {s : List TX} (h : Sees w (.slice a s.length c) 10 s.length (s.flatMap encX)) (hi : Nat) (h2 : hi ≤ s.length) : Sees w (.slice a hi c) 10 hi ((s.take hi).flatMap encX) := flat_hi encX_len h hi h2
/- texts: one of three -/
theorem bl_self : ∀ a : Str, Op.bytesLess a a = false
  | [] => rfl
  | x :: a => by simp [Op.bytesLess, bl_self a]
theorem bl_flip : ∀ a b : Str, (Op.bytesLess a b || decide (a = b)) = !Op.bytesLess b a
  | [], [] => rfl
  | [], _ :: _ => rfl
  | _ :: _, [] => rfl
  | x :: a, y :: b => by
    have ih := bl_flip a b
    by_cases h : x = y
    · subst h
      simp [Op.bytesLess, ← ih]
    · by_cases hl : x < y
      · have h2 : ¬ y < x := by rw [UInt8.lt_iff_toNat_lt] at *; omega
        have h3 : ¬ y = x := fun e => h e.symm
        simp [Op.bytesLess, hl, h2, h3]
      · have h2 : y < x := by
          rw [UInt8.lt_iff_toNat_lt] at *
          have : ¬ x.toNat = y.toNat := fun e => h (UInt8.toNat_inj.1 e)
          omega
        simp [Op.bytesLess, hl, h2, h]
section
variable {P : Program} {n : Nat} {e : Env} {d : Option Tmp} {ty : TypeId} {pos : String} {aft : Array Edge} {gd : Option (Nat × Bool)}
theorem PO.leqS {x y : Operand} {a b : Str} {t u : TypeId} (hx : rd n e x = str a) (hy : rd n e y = str b) : PO P n e ⟨d, .binOp .leq t x y u, ty, pos, aft, gd⟩ (.bool (!Op.bytesLess b a)) := fun w => by
  simp only [str] at hx hy
  rw [← bl_flip]
  simp [execOp, hx, hy, eqGuard, binOp, Op.stringOp, str_toList, beq_dec]
end
def within (lo n hi : Int) : Bool := decide (lo ≤ n) && decide (n ≤ hi)
/- a store -/
def storeG (s : List Cell) (i : Nat) : Bool := keyOk (s.getD i c0).1 && (within 1 (((s.getD i c0).2.length : Nat) : Int) 60 && (!decide ((0 : Int) < ((i : Nat) : Int)) || Op.bytesLess (s.getD (i - 1) c0).1 (s.getD i c0).1))
def storeOk (s : List Cell) : Bool := rall s.length (storeG s) && decide (((s.length : Nat) : Int) ≤ 900)
theorem storeOk_bad {s : List Cell} {j : Nat} (h : j < s.length) (hg : storeG s j = false) : storeOk s = false := by rw [storeOk, rall_false h hg, Bool.false_and]
theorem storeOk_end {s : List Cell} {j : Nat} (h : s.length ≤ j) (hN : ∀ i, i < j → storeG s i = true) : storeOk s = decide (((s.length : Nat) : Int) ≤ 900) := by rw [storeOk, rall_true fun i hi => hN i (by omega), Bool.true_and]
/- a disk -/
def slotG (x : SD) : Bool := !x.whole || (within 0 x.seq 99999 && storeOk x.cells)
def jourOk (t : Str) (js : Int) : Bool := decide (((t.length : Nat) : Int) ≤ 20000) && within 0 js ((t.length : Nat) : Int)
/-- The best slot among the first so many. -/
def bestF (f : Nat → SD) : Nat → Int
  | 0 => -1
  | j + 1 => if (f j).whole = true ∧ (bestF f j < 0 ∨ (f (bestF f j).toNat).seq < (f j).seq) then ((j : Nat) : Int) else bestF f j
theorem bestF_lo (f : Nat → SD) : ∀ j, -1 ≤ bestF f j ∧ bestF f j < ((j : Nat) : Int)
  | 0 => by simp [bestF]
  | j + 1 => by
    have := bestF_lo f j
    unfold bestF
    split <;> omega
theorem bestF_any (f : Nat → SD) : ∀ j, decide (0 ≤ bestF f j) = !rall j fun i => !(f i).whole
  | 0 => rfl
  | j + 1 => by
    have ih := bestF_any f j
    unfold bestF
    by_cases hw : (f j).whole = true
    · rw [rall_false (i := j) (by omega) (by rw [hw]; rfl)]
      split
      · exact decide_eq_true (by omega)
      · rename_i h
        have : ¬ bestF f j < 0 := fun hh => h ⟨hw, .inl hh⟩
        exact decide_eq_true (by omega)
    · rw [if_neg (fun h => hw h.1), ih]
      have hw' : (f j).whole = false := by simpa using hw
      congr 1
      cases hr : rall j fun i => !(f i).whole with
      | false =>
        symm
        cases hr2 : rall (j + 1) fun i => !(f i).whole with
        | false => rfl
        | true => rw [rall_true (n := j) fun i hi => rall_get hr2 (by omega)] at hr; cases hr
      | true =>
        symm
        refine rall_true fun i hi => ?_
        by_cases h : i = j
        · subst h; rw [hw']; rfl
        · exact rall_get hr (by omega)
def diskOkF (n : Nat) (f : Nat → SD) (t : Str) (js : Int) : Bool := decide (((n : Nat) : Int) = 2) && ((!rall n fun i => !(f i).whole) && (rall n (fun i => slotG (f i)) && jourOk t js))
def diskOk (d : DD) : Bool := diskOkF d.slots.length (fun i => d.slots.getD i o0.t) d.jt d.js
def bestD (d : DD) : Int := bestF (fun i => d.slots.getD i o0.t) d.slots.length
theorem diskOk_dat (d : DX) : diskOk d.dat = diskOkF d.l.length (fun i => (d.l.getD i o0).t) d.jt d.js := by
  simp only [diskOk, DX.dat, List.length_map, getD_map']
theorem bestD_dat (d : DX) : bestD d.dat = bestF (fun i => (d.l.getD i o0).t) d.l.length := by
  simp only [bestD, DX.dat, List.length_map, getD_map']
theorem diskOkF_len {n : Nat} {f : Nat → SD} {t : Str} {js : Int} (h : ¬ ((n : Nat) : Int) = 2) : diskOkF n f t js = false := by rw [diskOkF, decide_eq_false h, Bool.false_and]
theorem diskOkF_none {n : Nat} {f : Nat → SD} {t : Str} {js : Int} (hn : ((n : Nat) : Int) = 2) (h0 : (f 0).whole = false) (h1 : (f 1).whole = false) : diskOkF n f t js = false := by
  rw [diskOkF, rall_true (p := fun i => !(f i).whole), Bool.not_true, Bool.false_and, Bool.and_false]
  intro i hi
  have : i = 0 ∨ i = 1 := by omega
  rcases this with rfl | rfl
  · rw [h0]; rfl
  · rw [h1]; rfl
theorem diskOkF_slot {n i : Nat} {f : Nat → SD} {t : Str} {js : Int} (hi : i < n) (h : slotG (f i) = false) : diskOkF n f t js = false := by
  rw [diskOkF, rall_false (p := fun i => slotG (f i)) hi h, Bool.false_and, Bool.and_false, Bool.and_false]
theorem diskOkF_end {n i j : Nat} {f : Nat → SD} {t : Str} {js : Int} (hn : ((n : Nat) : Int) = 2) (hi : i < 2) (hw : (f i).whole = true) (hj : n ≤ j) (hN : ∀ i, i < j → slotG (f i) = true) : diskOkF n f t js = jourOk t js := by
  rw [diskOkF, decide_eq_true hn, rall_false (p := fun i => !(f i).whole) (i := i) (by omega) (by rw [hw]; rfl), rall_true (p := fun i => slotG (f i)) fun i hi => hN i (by omega)]
  simp only [Bool.true_and, Bool.not_false]
theorem diskOkF_spec {n j : Nat} {f : Nat → SD} {t : Str} {js : Int} (hj : n ≤ j) (hN : ∀ i, i < j → slotG (f i) = true) : diskOkF n f t js = (decide (((n : Nat) : Int) = 2) && (decide (0 ≤ bestF f n) && jourOk t js)) := by
  rw [diskOkF, bestF_any, rall_true (p := fun i => slotG (f i)) fun i hi => hN i (by omega), Bool.true_and]
/- a kernel -/
def txG (l : List TD) (next : Int) (i : Nat) : Bool := decide ((l.getD i x0.t).id < next) && decide (findT l (l.getD i x0.t).id = ((i : Nat) : Int))
def kernelOk (k : KD) : Bool := storeOk k.store && (diskOk k.dk && (within 0 k.seq 99000 && (rall k.txs.length (txG k.txs k.next) && apartAll k.txs)))
def txGX (l : List TX) (next : Int) (i : Nat) : Bool := decide ((l.getD i x0).t.id < next) && decide (findT (l.map TX.t) (l.getD i x0).t.id = ((i : Nat) : Int))
theorem txG_map (l : List TX) (next : Int) : txG (l.map TX.t) next = txGX l next := by
  funext i
  simp only [txG, txGX, getD_map']
theorem kernelOk_dat (k : KX) : kernelOk k.dat = (storeOk k.store && (diskOk k.dk.dat && (within 0 k.seq 99000 && (rall k.txs.length (txGX k.txs k.next) && apartAll (k.txs.map TX.t))))) := by
  simp only [kernelOk, KX.dat, List.length_map, txG_map]
theorem first_of {p : Nat → Prop} [DecidablePred p] : (∃ i, p i) → ∃ m, (p m) ∧ ∀ i, i < m → ¬ p i := by
  rintro ⟨i, hi⟩
  induction i using Nat.strongRecOn with
  | ind i ih =>
    by_cases h : ∃ k, k < i ∧ p k
    · obtain ⟨k, hk, hpk⟩ := h
      exact ih k hk hpk
    · exact ⟨i, hi, fun k hk hpk => h ⟨k, hk, hpk⟩⟩
theorem idxT_sat {P : TD → Prop} [DecidablePred P] {l : List TX} {n : Nat} (h : idxT P (l.map TX.t) = ((n : Nat) : Int)) : P (l.getD n x0).t := by
  have hn := idxT_lt h
  apply Decidable.byContradiction
  intro hp
  by_cases hq : ∃ i, i < l.length ∧ P (l.getD i x0).t
  · obtain ⟨i, hi, hpi⟩ := hq
    obtain ⟨m, ⟨hm, hpm⟩, hmin⟩ := first_of (p := fun i => i < l.length ∧ P (l.getD i x0).t) ⟨i, hi, hpi⟩
    have := idxT_found hm (fun i hi hpi => hmin i hi ⟨by omega, hpi⟩) hpm
    rw [this] at h
    have : m = n := by omega
    exact hp (this ▸ hpm)
  · have := idxT_none (l := l) (P := P) (j := l.length) (by omega) (fun i hi hpi => hq ⟨i, hi, hpi⟩)
    omega
theorem idxT_pos {P : TD → Prop} [DecidablePred P] {l : List TX} {i : Nat} (hi : i < l.length) (hp : P (l.getD i x0).t) : 0 ≤ idxT P (l.map TX.t) := by
  obtain ⟨m, ⟨hm, hpm⟩, hmin⟩ := first_of (p := fun i => i < l.length ∧ P (l.getD i x0).t) ⟨i, hi, hp⟩
  rw [idxT_found hm (fun i hi hpi => hmin i hi ⟨by omega, hpi⟩) hpm]
  omega
theorem idxT_ne {P : TD → Prop} [DecidablePred P] {l : List TX} {i j : Nat} (hi : i < l.length) (hij : i < j) (hp : P (l.getD i x0).t) : ¬ idxT P (l.map TX.t) = ((j : Nat) : Int) := by
  obtain ⟨m, ⟨hm, hpm⟩, hmin⟩ := first_of (p := fun i => i < l.length ∧ P (l.getD i x0).t) ⟨i, hi, hp⟩
  rw [idxT_found hm (fun i hi hpi => hmin i hi ⟨by omega, hpi⟩) hpm]
  have : ¬ i < m := fun h => hmin i h ⟨hi, hp⟩
  omega
/-- Found at its own place just if it is not found ahead of it. -/
theorem find_ahead {l : List TX} {j : Nat} {id : Int} (hj : j < l.length) (h : (l.getD j x0).t.id = id) : decide (findT (l.map TX.t) id = ((j : Nat) : Int)) = decide (findT ((l.take j).map TX.t) id < 0) := by
  rw [Bool.eq_iff_iff, decide_eq_true_eq, decide_eq_true_eq]
  have hg : ∀ i, i < j → ((l.take j).getD i x0) = l.getD i x0 := fun i hi => by
    rw [List.getD_eq_getElem?_getD, List.getD_eq_getElem?_getD, List.getElem?_take_of_lt hi]
  constructor
  · intro hf
    apply Int.not_le.1
    intro h0
    have hlo := idxT_lo (fun t => t.id = id) ((l.take j).map TX.t)
    rw [List.length_map, List.length_take] at hlo
    obtain ⟨n, hn⟩ : ∃ n : Nat, findT ((l.take j).map TX.t) id = ((n : Nat) : Int) := ⟨_, (Int.toNat_of_nonneg h0).symm⟩
    have hnj : n < j := by
      have hn' : idxT (fun t => t.id = id) ((l.take j).map TX.t) = ((n : Nat) : Int) := hn
      omega
    have hid : (l.getD n x0).t.id = id := by
      have := idxT_sat hn
      rwa [hg n hnj] at this
    exact absurd hf (idxT_ne (by omega) hnj hid)
  · intro h0
    refine idxT_found hj (fun i hi hid => ?_) h
    have : (0 : Int) ≤ findT ((l.take j).map TX.t) id := idxT_pos (i := i) (by rw [List.length_take]; omega) (by rw [hg i hi]; exact hid)
    omega
theorem kernelOk_bad {k : KX} {j : Nat} (hj : j < k.txs.length) (h : txGX k.txs k.next j = false) : kernelOk k.dat = false := by
  rw [kernelOk_dat, rall_false hj h, Bool.false_and, Bool.and_false, Bool.and_false, Bool.and_false]
theorem kernelOk_end {k : KX} {j : Nat} (hj : k.txs.length ≤ j) (hN : ∀ i, i < j → txGX k.txs k.next i = true) : kernelOk k.dat = (storeOk k.store && (diskOk k.dk.dat && (within 0 k.seq 99000 && apartAll (k.txs.map TX.t)))) := by
  rw [kernelOk_dat, rall_true fun i hi => hN i (by omega), Bool.true_and]
theorem DX.okz_get {d : DX} (h : d.dat.okz) : ∀ j, j < d.l.length → (d.l.getD j o0).t.okz := fun j hj => h.k1 _ (List.mem_map.2 ⟨_, getD_mem hj, rfl⟩)
theorem KX.okz_get {k : KX} (h : k.dat.okz) : ∀ j, j < k.txs.length → (k.txs.getD j x0).t.okz := fun j hj => h.k2 _ (List.mem_map.2 ⟨_, getD_mem hj, rfl⟩)
end Go.Proofs.YtkmpmjficoohkaaGreat
