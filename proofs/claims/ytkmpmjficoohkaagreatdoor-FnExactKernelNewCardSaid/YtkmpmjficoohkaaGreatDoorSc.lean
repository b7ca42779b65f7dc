/-
  Texts of the walk, joined: what each one proves stands at its theorems.
-/
import Derived.Test.YtkmpmjficoohkaaGreatDoorDatX
import Derived.Test.YtkmpmjficoohkaaGreatDoorFlat
import Derived.Lib.SmallJoins
import Derived.Shelf.LaysM
import Derived.Shelf.LaysC
import Derived.Shelf.Strconv.Itoa3
import Derived.Shelf.Strconv.AtoiAll
import Derived.Shelf.Strconv.ErrVarAll
import Derived.Test.YtkmpmjficoohkaaGreatDoorProg
import Derived.Lib.Strings
set_option linter.unusedSimpArgs false
set_option linter.unusedVariables false
set_option linter.unnecessarySimpa false
namespace Go.Proofs.YtkmpmjficoohkaaGreatDoor
open Go Go.RowKit
attribute [local irreducible] JL JC JQ JO LO PO JA JX Ct
theorem setI' {l : List Int} {i : Nat} {c : Int} (h : i < l.length) : (l.map (Value.int .i64)).take (i * 1) ++ [.int .i64 c] ++ (l.map (Value.int .i64)).drop (i * 1 + 1) = (l.set i c).map (Value.int .i64) := by
  rw [List.map_set, List.set_eq_take_append_cons_drop, if_pos (by simpa using h)]
  simp
theorem Y_eqTouch (a1 a2 b1 b2 : Option Addr) (c1 c2 d1 d2 : Nat) (r w r' w' : List Str) (h1 : r.length ≤ 9223372036854775807) (h2 : w.length ≤ 9223372036854775807) : Ct Tryz.prog 58 [.agg #[.slice a1 r.length c1, .slice a2 w.length c2], .agg #[.slice b1 r'.length d1, .slice b2 w'.length d2]] [] (fun w_ => Sees w_ (.slice a1 r.length c1) 1 r.length (r.map str) ∧ Sees w_ (.slice a2 w.length c2) 1 w.length (w.map str) ∧ Sees w_ (.slice b1 r'.length d1) 1 r'.length (r'.map str) ∧ Sees w_ (.slice b2 w'.length d2) 1 w'.length (w'.map str)) (fun v A' => v = .bool (decide (r = r' ∧ w = w')) ∧ A' = []) :=
  (C_eqTouch a1 a2 b1 b2 c1 c2 d1 d2 r w r' w' h1 h2).weak (fun _ h => h) fun v A' ⟨hv, hA⟩ => ⟨by rw [hv, Bool.decide_and], hA⟩

theorem Y_eqIntS (a b : Option Addr) (c c' : Nat) (s t : List Int) (hn : s.length ≤ 9223372036854775807) :
    Ct Tryz.prog 59 [.slice a s.length c, .slice b t.length c'] [] (fun w => Sees w (.slice a s.length c) 1 s.length (s.map (Value.int .i64)) ∧ Sees w (.slice b t.length c') 1 t.length (t.map (Value.int .i64))) (fun r A' => r = .bool (decide (s = t)) ∧ A' = []) := by
  refine Ct.intro Tryz.func59 rfl Tryz.ntmps59 (lb rfl) fun w0 hpre => ?_
  have hs_a : Sees w0 _ _ _ _ := hpre.1
  have hs_b : Sees w0 _ _ _ _ := hpre.2
  refine jC <| jF <| jA (jG (v := .bool false) rfl) <| jE <| jB <| jC <| jC <| jF <| jA (jD (v := .slice a s.length c) rfl) <| jA (jh Tryz.underlying67 rfl) ?_
  refine jA (jD (v := .slice b t.length c') rfl) <| jA (jh Tryz.underlying67 rfl) <| jA (jf rfl rfl) <| jE <| jB ?_
  by_cases h_1 : ((s.length : Nat) : Int) = ((t.length : Nat) : Int)
  · have hlen := h_1
    refine jL (cB (cN (dT h_1))) <| jM <| jB <| jC <| jC <| jF <| jA (jG (v := iv 0) rfl) <| jE <| jB <| jZ ?_
    refine jo (fun k_ e_ L_ => ∃ j : Nat, (j ≤ s.length) ∧ (s.take j = t.take j) ∧ (s.length = t.length) ∧ e_ 0 = .slice a s.length c ∧ e_ 1 = .slice b t.length c' ∧ e_ 5 = nv j ∧ L_ = [] ∧ k_ = s.length - j) _ ⟨0, by omega, rfl, by omega, rfl, rfl, rfl, rfl, rfl⟩ ?_
    rintro _ e_2 _ ⟨j, hj, hE, hln, he_3, he_4, he_5, rfl, rfl⟩
    refine jC <| jC <| jF <| jA (jD (v := nv j) he_5) <| jA (jD (v := .slice a s.length c) he_3) <| jA (jh Tryz.underlying67 rfl) <| jA (jb rfl rfl) <| jE <| jB ?_
    by_cases h_6 : ((j : Nat) : Int) < ((s.length : Nat) : Int)
    · have hlt : j < s.length := by omega
      refine jQ (cB (dT h_6)) <| jM <| jB <| jC <| jZ <| jC <| jv [] 8 mixed (by simp) <| jW 0 rfl (jD (v := .slice a s.length c) he_3) <| jW 1 rfl (jD (v := nv j) he_5) ?_
      obtain ⟨hr_7, hr_7b, -⟩ := sees_some hs_a (by omega)
      refine jW 2 rfl (jV (i := j) Tryz.underlying67 kK hr_7 hr_7b rfl rfl (by omega)) <| jw 3 rfl (ji (v := iv (s.getD j 0)) hs_a nM rfl kE (atI (by omega))) <| jW 4 rfl (jD (v := .slice b t.length c') he_4) <| jW 5 rfl (jD (v := nv j) he_5) ?_
      obtain ⟨hr_8, hr_8b, -⟩ := sees_some hs_b (by omega)
      refine jW 6 rfl (jV (i := j) Tryz.underlying67 kK hr_8 hr_8b rfl rfl (by omega)) <| jw 7 rfl (ji (v := iv (t.getD j 0)) hs_b nM rfl kE (atI (by omega))) <| jW 8 rfl (jf rfl rfl) <| kB (by kernel_rfl) <| jB ?_
      by_cases h_9 : (s.getD j 0) = (t.getD j 0)
      · have heq := h_9
        refine jL (cB (cN (dT h_9))) <| jM <| jk <| jB <| jF <| jA (jD (v := nv j) he_5) <| jA (jT (c := ((j + 1 : Nat) : Int)) rfl rfl (wr (by omega))) <| jA (jG (v := iv ((j + 1 : Nat) : Int)) rfl) <| jE ?_
        refine jl (s.length - (j + 1)) (by omega) ⟨j + 1, by omega, take_succ_eq 0 hE hlt hln heq, hln, he_3, he_4, rfl, rfl, rfl⟩
      have hne := h_9
      refine jQ (cB (cN (dF h_9))) <| jC <| jF <| jA (jG (v := .bool false) rfl) <| jE <| jB <| jK <| je <| jO <| jO ?_
      refine je <| jO <| jN (.inl rfl) rfl (jJ (v := .bool false) rfl) (List.nil_sublist _) ?_
      refine ⟨?_, rfl⟩
      rw [dF (fun h => hne (by rw [h]))]
    refine jL (cB (dF h_6)) <| jm <| jY <| jY <| jn <| jB <| jC <| jF <| jA (jG (v := .bool true) rfl) <| jE ?_
    refine jB <| jK <| jN (.inl rfl) rfl (jJ (v := .bool true) rfl) (List.nil_sublist _) ?_
    refine ⟨?_, rfl⟩
    rw [dT (take_all_eq hE (by omega) (by omega))]
  have hlen := h_1
  refine jQ (cB (cN (dF h_1))) <| jC <| jF <| jA (jG (v := .bool false) rfl) <| jE <| jB <| jK <| jO <| jN (.inl rfl) rfl (jJ (v := .bool false) rfl) (List.nil_sublist _) ?_
  refine ⟨?_, rfl⟩
  rw [dF (fun h => by rw [h] at hlen; omega)]

theorem Y_markIntS (a : Option Addr) (c : Nat) (l : List Int) (k : Nat) (h0 : 0 < k) (h1 : k + 1 * l.length ≤ 100000000) :
    Ct Tryz.prog 40 [.slice a l.length c, .int .i64 ((k : Nat) : Int)] [rI a c l] (fun _ => True) (fun v A' => v = .int .i64 ((k + 1 * l.length : Nat) : Int) ∧ A' = [.row (.slice a l.length c) 3 1 l.length ((markG mkI 1 l k).map (Value.int .i64))]) := by
  refine Ct.intro Tryz.func40 rfl Tryz.ntmps40 (lb rfl) fun w0 hpre => ?_
  refine jC <| jF <| jA (jG (v := iv 0) rfl) <| jE <| jB <| jC <| jC <| jF <| jA (jG (v := iv 0) rfl) <| jE ?_
  refine jB <| jZ <| jo (fun k_ e_ L_ => ∃ j : Nat, (j ≤ l.length) ∧ e_ 0 = .slice a l.length c ∧ e_ 1 = iv ((k + 1 * j : Nat) : Int) ∧ e_ 4 = iv 0 ∧ e_ 5 = nv j ∧ L_ = [Res.row (.slice a l.length c) 3 1 l.length (((markG mkI 1 l k).take j ++ l.drop j).map (Value.int .i64))] ∧ k_ = l.length - j) _ ⟨0, by omega, rfl, rfl, rfl, rfl, rfl, rfl⟩ ?_
  rintro _ e_1 _ ⟨j, hj, he_2, he_3, he_4, he_5, rfl, rfl⟩
  refine jC <| jC <| jF <| jA (jD (v := nv j) he_5) <| jA (jD (v := .slice a l.length c) he_2) <| jA (jh Tryz.underlying67 rfl) <| jA (jb rfl rfl) <| jE <| jB ?_
  by_cases h_6 : ((j : Nat) : Int) < ((l.length : Nat) : Int)
  · have hlt : j < l.length := by omega
    refine jQ (cB (dT h_6)) <| jM <| jB <| jC <| jZ <| jC <| jF <| jA (jD (v := .slice a l.length c) he_2) <| jA (jD (v := nv j) he_5) <| jA (jD (v := iv ((k + 1 * j : Nat) : Int)) he_3) ?_
    refine JL.facts fun hst => ?_
    obtain ⟨hr_7, hr_7b, -⟩ := row_some 0 rfl (by omega) hst
    refine jA (jV (i := j) Tryz.underlying67 kK hr_7 hr_7b rfl rfl (by omega)) ?_
    refine jI rfl (ju 0 (vs := [iv ((k + 1 * j : Nat) : Int)]) (cs' := (((markG mkI 1 l k).take j ++ l.drop j).set j ((k + 1 * j : Nat) : Int)).map (Value.int .i64)) rfl rfl rfl rfl kK rfl rfl (by decide) (by rw [List.length_map]; rw [markG_lenj mkI 1 hj]; omega) (setI' (by rw [markG_lenj mkI 1 hj]; omega))) ?_
    rintro _ _ rfl
    refine jE <| jB <| jF <| jA (jD (v := iv ((k + 1 * j : Nat) : Int)) he_3) <| jA (jT (c := (((k + 1 * j) + 1 : Nat) : Int)) rfl rfl (wr (by omega))) <| jA (jG (v := iv (((k + 1 * j) + 1 : Nat) : Int)) rfl) <| jE <| jk <| jB <| jF ?_
    refine jA (jD (v := nv j) he_5) <| jA (jT (c := ((j + 1 : Nat) : Int)) rfl rfl (wr (by omega))) <| jA (jG (v := iv ((j + 1 : Nat) : Int)) rfl) <| jE ?_
    refine jl (l.length - (j + 1)) (by omega) ⟨j + 1, by omega, he_2, rfl, he_4, rfl, (by rw [← markG_step mkI 1 hlt]; rfl), rfl⟩
  refine jL (cB (dF h_6)) <| jm <| jY <| jY <| jn <| jB <| jC <| jF <| jA (jD (v := iv ((k + 1 * j : Nat) : Int)) he_3) <| jA (jG (v := iv ((k + 1 * j : Nat) : Int)) rfl) ?_
  refine jE <| jB <| jK <| jN (.inl rfl) rfl (jJ (v := iv ((k + 1 * j : Nat) : Int)) rfl) (List.Sublist.refl _) ?_
  exact ⟨by rw [show j = l.length by omega], by rw [show j = l.length by omega, List.drop_of_length_le (Nat.le_refl _), List.append_nil, List.take_of_length_le (by rw [markG_len]; exact Nat.le_refl _)]⟩

theorem Y_heldIntS (a : Option Addr) (c : Nat) (l : List Int) (k : Nat) (h0 : 0 < k) (h1 : k + 1 * l.length ≤ 100000000) :
    Ct Tryz.prog 45 [.slice a l.length c, .int .i64 ((k : Nat) : Int)] [] (fun w => Sees w (.slice a l.length c) 1 l.length ((markG mkI 1 l k).map (Value.int .i64))) (fun v A' => v = .int .i64 ((k + 1 * l.length : Nat) : Int) ∧ A' = []) := by
  refine Ct.intro Tryz.func45 rfl Tryz.ntmps45 (lb rfl) fun w0 hpre => ?_
  have hs_a : Sees w0 _ _ _ _ := hpre
  refine jC <| jF <| jA (jG (v := iv 0) rfl) <| jE <| jB <| jC <| jC <| jF <| jA (jG (v := iv 0) rfl) <| jE ?_
  refine jB <| jZ <| jo (fun k_ e_ L_ => ∃ j : Nat, (j ≤ l.length) ∧ e_ 0 = .slice a l.length c ∧ e_ 1 = iv ((k + 1 * j : Nat) : Int) ∧ e_ 5 = nv j ∧ L_ = [] ∧ k_ = l.length - j) _ ⟨0, by omega, rfl, rfl, rfl, rfl, rfl⟩ ?_
  rintro _ e_1 _ ⟨j, hj, he_2, he_3, he_4, rfl, rfl⟩
  refine jC <| jC <| jF <| jA (jD (v := nv j) he_4) <| jA (jD (v := .slice a l.length c) he_2) <| jA (jh Tryz.underlying67 rfl) <| jA (jb rfl rfl) <| jE <| jB ?_
  by_cases h_5 : ((j : Nat) : Int) < ((l.length : Nat) : Int)
  · have hlt : j < l.length := by omega
    refine jQ (cB (dT h_5)) <| jM <| jB <| jC <| jZ <| jC <| jC <| jF <| jA (jD (v := .slice a l.length c) he_2) <| jA (jD (v := nv j) he_4) ?_
    obtain ⟨hr_6, hr_6b, -⟩ := sees_some hs_a (by omega)
    refine jA (jV (i := j) Tryz.underlying67 kK hr_6 hr_6b rfl rfl (by omega)) <| jP (ji (v := iv ((markG mkI 1 l k).getD j 0)) hs_a nM rfl kE (atI (by rw [markG_len]; omega))) <| jA (jD (v := iv ((k + 1 * j : Nat) : Int)) he_3) <| jA (jf rfl rfl) <| jE <| jB ?_
    by_cases h_7 : ((markG mkI 1 l k).getD j 0) = ((k + 1 * j : Nat) : Int)
    · refine jL (cB (cN (dT h_7))) <| jM <| jB <| jF <| jA (jD (v := iv ((k + 1 * j : Nat) : Int)) he_3) <| jA (jT (c := (((k + 1 * j) + 1 : Nat) : Int)) rfl rfl (wr (by omega))) <| jA (jG (v := iv (((k + 1 * j) + 1 : Nat) : Int)) rfl) <| jE <| jk <| jB ?_
      refine jF <| jA (jD (v := nv j) he_4) <| jA (jT (c := ((j + 1 : Nat) : Int)) rfl rfl (wr (by omega))) <| jA (jG (v := iv ((j + 1 : Nat) : Int)) rfl) <| jE ?_
      refine jl (l.length - (j + 1)) (by omega) ⟨j + 1, by omega, he_2, rfl, rfl, rfl, rfl⟩
    exfalso; rw [markG_get mkI 1 0 l k j hlt] at h_7; first | omega | exact h_7 rfl
  refine jL (cB (dF h_5)) <| jm <| jY <| jY <| jn <| jB <| jC <| jF <| jA (jD (v := iv ((k + 1 * j : Nat) : Int)) he_3) <| jA (jG (v := iv ((k + 1 * j : Nat) : Int)) rfl) ?_
  refine jE <| jB <| jK <| jN (.inl rfl) rfl (jJ (v := iv ((k + 1 * j : Nat) : Int)) rfl) (List.nil_sublist _) ?_
  exact ⟨by rw [show j = l.length by omega], rfl⟩

theorem Y_heldStringS (a : Option Addr) (c : Nat) (l : List Str) (k : Nat) (h0 : 0 < k) (h1 : k + l.length ≤ 100000000) : Ct Tryz.prog 27 [.slice a l.length c, .int .i64 ((k : Nat) : Int)] [] (fun w => Sees w (.slice a l.length c) 1 l.length ((markS l k).map str)) (fun v A' => v = .int .i64 ((k + l.length : Nat) : Int) ∧ A' = []) :=
  (C_heldStringS a l.length c (markS l k) k (markS_len l k) h0 (by rw [markS_len]; omega)).weak (fun w h => by rw [markS_len]; exact h) fun v A' ⟨hv, hA⟩ => ⟨by rw [hv, heldS_mark], hA⟩

theorem Y_heldCellS (a : Option Addr) (c : Nat) (l : List Cell) (k : Nat) (h0 : 0 < k) (h1 : k + 2 * l.length ≤ 100000000) : Ct Tryz.prog 23 [.slice a l.length c, .int .i64 ((k : Nat) : Int)] [] (fun w => Sees w (.slice a l.length c) 2 l.length ((markC l k).flatMap encC)) (fun v A' => v = .int .i64 ((k + 2 * l.length : Nat) : Int) ∧ A' = []) :=
  (C_heldCellS a l.length c (markC l k) k (markC_len l k) h0 (by rw [markC_len]; omega)).weak (fun w h => by rw [markC_len]; exact h) fun v A' ⟨hv, hA⟩ => ⟨by rw [hv, heldC_mark], hA⟩

theorem C_eqSlot (p q : OX) (hl : p.t.lim 1000000000) :
    Ct Tryz.prog 60 [.agg #[.int .i64 p.t.seq, .slice p.x.a0 p.t.cells.length p.x.c0, .bool p.t.whole], .agg #[.int .i64 q.t.seq, .slice q.x.a0 q.t.cells.length q.x.c0, .bool q.t.whole]] [] (fun w => SeesA w (rdsO p) ∧ SeesA w (rdsO q)) (fun v A' => v = .bool (decide (p.t = q.t)) ∧ A' = []) := by
  obtain ⟨hb0⟩ := hl
  refine Ct.intro Tryz.func60 rfl Tryz.ntmps60 (lb rfl) fun w0 hpre => ?_
  have hs_1 := seesO hpre.1
  have hs_2 := seesO hpre.2
  refine jC <| jF ?_
  refine jI rfl (jp (cs := [iv p.t.seq, .slice p.x.a0 p.t.cells.length p.x.c0, .bool p.t.whole]) rfl rfl) ?_
  rintro _ _ ⟨b_3, rfl, rfl⟩
  refine jI rfl (jp (cs := [iv q.t.seq, .slice q.x.a0 q.t.cells.length q.x.c0, .bool q.t.whole]) rfl rfl) ?_
  rintro _ _ ⟨b_4, rfl, rfl⟩
  refine jA (jG (v := .bool false) rfl) <| jE <| jB <| jC <| jC <| jF <| jA (jS fo57_0 rfl) <| jP (jU 1 (v := iv p.t.seq) rfl rfl kE rfl) <| jA (jS fo57_0 rfl) <| jP (jU 0 (v := iv q.t.seq) rfl rfl kE rfl) ?_
  refine jA (jf rfl rfl) <| jE <| jB ?_
  by_cases h_5 : p.t.seq = q.t.seq
  · refine jL (cB (cN (dT h_5))) <| jM <| jB <| jC <| jC <| jF <| jA (jS fo57_1 rfl) <| jP (jU 1 (v := .slice p.x.a0 p.t.cells.length p.x.c0) rfl rfl kX rfl) <| jA (jS fo57_1 rfl) <| jP (jU 0 (v := .slice q.x.a0 q.t.cells.length q.x.c0) rfl rfl kX rfl) ?_
    refine jI rfl (jR [] Tryz.call13 rfl (C_eqCellS p.x.a0 q.x.a0 p.x.c0 q.x.c0 p.t.cells q.t.cells (by omega)) rfl (fun w hw => ⟨hw.seeOut_ hs_1 nM, hw.seeOut_ hs_2 nM⟩)) ?_
    rintro _ _ ⟨_, ⟨rfl, rfl⟩, rfl⟩
    refine jA (jq rfl) <| jE <| jB ?_
    by_cases h_6 : p.t.cells = q.t.cells
    · refine jL (cB (cN (dT h_6))) <| jM <| jB <| jC <| jC <| jF <| jA (jS fo57_2 rfl) <| jP (jU 1 (v := .bool p.t.whole) rfl rfl Tryz.isAgg4 rfl) <| jA (jS fo57_2 rfl) <| jP (jU 0 (v := .bool q.t.whole) rfl rfl Tryz.isAgg4 rfl) ?_
      refine jA (PO.neqB Tryz.underlying4 rfl rfl) <| jE <| jB ?_
      by_cases h_7 : p.t.whole = q.t.whole
      · refine jL (cB (cN (dT h_7))) <| jM <| jB <| jC <| jF <| jA (jG (v := .bool true) rfl) <| jE <| jB <| jK <| jN (.inl rfl) rfl (jJ (v := .bool true) rfl) (List.nil_sublist _) ?_
        exact ⟨cB (dT (SD.same.2 ⟨by assumption, by assumption, by assumption⟩)).symm, rfl⟩
      refine jQ (cB (cN (dF h_7))) <| jC <| jF <| jA (jG (v := .bool false) rfl) <| jE <| jB <| jK <| jO <| jN (.inl rfl) rfl (jJ (v := .bool false) rfl) (List.nil_sublist _) ?_
      exact ⟨cB (dF (fun h_ => by obtain ⟨h_0, h_1, h_2⟩ := SD.same.1 h_; first | contradiction | (exact absurd ⟨h_6, h_7⟩ ‹¬(_ ∧ _)›))).symm, rfl⟩
    refine jQ (cB (cN (dF h_6))) <| jC <| jF <| jA (jG (v := .bool false) rfl) <| jE <| jB <| jK <| jO <| jN (.inl rfl) rfl (jJ (v := .bool false) rfl) (List.nil_sublist _) ?_
    exact ⟨cB (dF (fun h_ => by obtain ⟨h_0, h_1, h_2⟩ := SD.same.1 h_; first | contradiction | (exact absurd ⟨h_6, h_7⟩ ‹¬(_ ∧ _)›))).symm, rfl⟩
  refine jQ (cB (cN (dF h_5))) <| jC <| jF <| jA (jG (v := .bool false) rfl) <| jE <| jB <| jK <| jO <| jN (.inl rfl) rfl (jJ (v := .bool false) rfl) (List.nil_sublist _) ?_
  exact ⟨cB (dF (fun h_ => by obtain ⟨h_0, h_1, h_2⟩ := SD.same.1 h_; first | contradiction | (exact absurd ⟨h_6, h_7⟩ ‹¬(_ ∧ _)›))).symm, rfl⟩

theorem C_eqSlotS (a b : Option Addr) (c c' : Nat) (s t : List OX) (hn : s.length ≤ 9223372036854775807) (hl : ∀ q ∈ s, q.t.lim 1000000000) :
    Ct Tryz.prog 34 [.slice a s.length c, .slice b t.length c'] [] (fun w => SeesA w (rdsOS a c s) ∧ SeesA w (rdsOS b c' t)) (fun r A' => r = .bool (decide (s.map OX.t = t.map OX.t)) ∧ A' = []) := by
  refine Ct.intro Tryz.func34 rfl Tryz.ntmps34 (lb rfl) fun w0 hpre => ?_
  have hs_1 : Sees w0 (.slice a s.length c) 3 s.length (s.flatMap encO) := (hpre.1).head
  have hi_2 : SeesA w0 (s.flatMap rdsO) := (hpre.1).tail
  have hs_3 : Sees w0 (.slice b t.length c') 3 t.length (t.flatMap encO) := (hpre.2).head
  have hi_4 : SeesA w0 (t.flatMap rdsO) := (hpre.2).tail
  refine jC <| jF <| jA (jG (v := .bool false) rfl) <| jE <| jB <| jC <| jC <| jF <| jA (jD (v := .slice a s.length c) rfl) <| jA (jh kV rfl) ?_
  refine jA (jD (v := .slice b t.length c') rfl) <| jA (jh kV rfl) <| jA (jf rfl rfl) <| jE <| jB ?_
  by_cases h_5 : ((s.length : Nat) : Int) = ((t.length : Nat) : Int)
  · have hlen := h_5
    refine jL (cB (cN (dT h_5))) <| jM <| jB <| jC <| jC <| jF <| jA (jG (v := iv 0) rfl) <| jE <| jB <| jZ ?_
    refine jo (fun k_ e_ L_ => ∃ j : Nat, (j ≤ s.length) ∧ ((s.take j).map OX.t = (t.take j).map OX.t) ∧ (s.length = t.length) ∧ e_ 0 = .slice a s.length c ∧ e_ 1 = .slice b t.length c' ∧ e_ 5 = nv j ∧ L_ = [] ∧ k_ = s.length - j) _ ⟨0, by omega, rfl, by omega, rfl, rfl, rfl, rfl, rfl⟩ ?_
    rintro _ e_6 _ ⟨j, hj, hE, hln, he_7, he_8, he_9, rfl, rfl⟩
    refine jC <| jC <| jF <| jA (jD (v := nv j) he_9) <| jA (jD (v := .slice a s.length c) he_7) <| jA (jh kV rfl) <| jA (jb rfl rfl) <| jE <| jB ?_
    by_cases h_10 : ((j : Nat) : Int) < ((s.length : Nat) : Int)
    · have hlt : j < s.length := by omega
      refine jQ (cB (dT h_10)) <| jM <| jB <| jC <| jZ <| jC <| jv [] 1000 mixed (by simp) <| jW 0 rfl (jD (v := .slice a s.length c) he_7) <| jW 1 rfl (jD (v := nv j) he_9) ?_
      obtain ⟨hr_11, hr_11b, -⟩ := sees_some hs_1 (by omega)
      refine jW 2 rfl (jV (i := j) kV kc hr_11 hr_11b rfl rfl (by omega)) ?_
      have hi_12 := SeesA.elem hi_2 o0 (show j < s.length by omega)
      have hs_13 := seesO hi_12
      refine jw 3 rfl (LO.loadSK (vs := [iv ((s.getD j o0).t.seq), .slice ((s.getD j o0).x.a0) ((s.getD j o0).t.cells.length) ((s.getD j o0).x.c0), .bool ((s.getD j o0).t.whole)]) hs_1 nM rfl Tryz.isAgg57 kc (flat_take encO_len o0 s j (by omega)) rfl (by decide)) <| jW 4 rfl (jD (v := .slice b t.length c') he_8) <| jW 5 rfl (jD (v := nv j) he_9) ?_
      obtain ⟨hr_14, hr_14b, -⟩ := sees_some hs_3 (by omega)
      refine jW 6 rfl (jV (i := j) kV kc hr_14 hr_14b rfl rfl (by omega)) ?_
      have hi_15 := SeesA.elem hi_4 o0 (show j < t.length by omega)
      have hs_16 := seesO hi_15
      refine jw 7 rfl (LO.loadSK (vs := [iv ((t.getD j o0).t.seq), .slice ((t.getD j o0).x.a0) ((t.getD j o0).t.cells.length) ((t.getD j o0).x.c0), .bool ((t.getD j o0).t.whole)]) hs_3 nM rfl Tryz.isAgg57 kc (flat_take encO_len o0 t j (by omega)) rfl (by decide)) <| jx (i := 8) ?_
      refine jz rfl rfl (jR [] Tryz.call60 rfl (C_eqSlot (s.getD j o0) (t.getD j o0) (hl _ (getD_mem hlt))) rfl (fun w hw => ⟨hw.seeOutA hi_12 nMA, hw.seeOutA hi_15 nMA⟩)) ?_
      rintro _ _ ⟨_, ⟨rfl, rfl⟩, rfl⟩
      refine ⟨(fun _ h => by cases h), ?_⟩
      refine jW 9 rfl (jq rfl) <| kB (by kernel_rfl) <| jB ?_
      by_cases h_17 : (s.getD j o0).t = (t.getD j o0).t
      · have heq := h_17
        refine jL (cB (cN (dT h_17))) <| jM <| jk <| jB <| jF <| jA (jD (v := nv j) he_9) <| jA (jT (c := ((j + 1 : Nat) : Int)) rfl rfl (wr (by omega))) <| jA (jG (v := iv ((j + 1 : Nat) : Int)) rfl) <| jE ?_
        refine jl (s.length - (j + 1)) (by omega) ⟨j + 1, by omega, take_succM_eq o0 hE hlt hln heq, hln, he_7, he_8, rfl, rfl, rfl⟩
      have hne := h_17
      refine jQ (cB (cN (dF h_17))) <| jC <| jF <| jA (jG (v := .bool false) rfl) <| jE <| jB <| jK <| je <| jO <| jO ?_
      refine je <| jO <| jN (.inl rfl) rfl (jJ (v := .bool false) rfl) (List.nil_sublist _) ?_
      refine ⟨?_, rfl⟩
      rw [dF (fun h => hne (getM_eq o0 h hlt hln))]
    refine jL (cB (dF h_10)) <| jm <| jY <| jY <| jn <| jB <| jC <| jF <| jA (jG (v := .bool true) rfl) <| jE ?_
    refine jB <| jK <| jN (.inl rfl) rfl (jJ (v := .bool true) rfl) (List.nil_sublist _) ?_
    refine ⟨?_, rfl⟩
    rw [dT (take_allM_eq hE (by omega) (by omega))]
  have hlen := h_5
  refine jQ (cB (cN (dF h_5))) <| jC <| jF <| jA (jG (v := .bool false) rfl) <| jE <| jB <| jK <| jO <| jN (.inl rfl) rfl (jJ (v := .bool false) rfl) (List.nil_sublist _) ?_
  refine ⟨?_, rfl⟩
  rw [dF (fun h => by have h2 := congrArg List.length h; rw [List.length_map, List.length_map] at h2; omega)]

set_option maxRecDepth 4000 in
set_option maxHeartbeats 1000000 in
theorem C_markSlotS (a : Option Addr) (c : Nat) (l : List OX) (k : Nat) (h0 : 0 < k) (h1 : k + cntV cntO l ≤ 100000000) (hn : l.length ≤ 1000000000) :
    Ct Tryz.prog 41 [.slice a l.length c, .int .i64 ((k : Nat) : Int)] [Res.rows (rdsOS a c l)] (fun _ => True) (fun v A' => v = .int .i64 ((k + cntV cntO l : Nat) : Int) ∧ A' = [.rows (rdsOS a c (markV mkO cntO l k))]) := by
  refine Ct.intro Tryz.func41 rfl Tryz.ntmps41 (lb rfl) fun w0 hpre => ?_
  refine JC.ghost (L' := [Res.row (.slice a l.length c) 57 3 l.length (l.flatMap encO), Res.rows (l.flatMap rdsO)]) (fun w hw => hw.headR (r := ⟨.slice a l.length c, 57, 3, l.length, l.flatMap encO⟩) (A := l.flatMap rdsO) 0 rfl) <| jC <| jF <| jA (jG (v := iv 0) rfl) <| jE <| jB <| jC <| jC <| jF <| jA (jG (v := iv 0) rfl) ?_
  refine jE <| jB <| jZ <| jo (fun k_ e_ L_ => ∃ j : Nat, ∃ kk : Nat, ∃ Q : List OX, (j ≤ l.length) ∧ (kk = k + cntV cntO (l.take j)) ∧ (Q = (markV mkO cntO l k).take j) ∧ (Q.length = j) ∧ e_ 0 = .slice a l.length c ∧ e_ 1 = nv kk ∧ e_ 4 = iv 0 ∧ e_ 5 = nv j ∧ L_ = [Res.row (.slice a l.length c) 57 3 l.length ((Q ++ l.drop j).flatMap encO), Res.rows ((Q ++ l.drop j).flatMap rdsO)] ∧ k_ = l.length - j) _ ⟨0, k, [], by omega, rfl, rfl, rfl, rfl, rfl, rfl, rfl, rfl, rfl⟩ ?_
  rintro _ e_1 _ ⟨j, kk, Q, hj, hkk, hQ, hQl, he_2, he_3, he_4, he_5, rfl, rfl⟩
  refine jC <| jC <| jF <| jA (jD (v := nv j) he_5) <| jA (jD (v := .slice a l.length c) he_2) <| jA (jh kV rfl) <| jA (jb rfl rfl) <| jE <| jB ?_
  by_cases h_6 : ((j : Nat) : Int) < ((l.length : Nat) : Int)
  · have hlt : j < l.length := by omega
    have hb : cntV cntO (l.take j) + cntO (l.getD j o0) ≤ cntV cntO l := cntV_le o0 hlt
    simp only [cntO] at hb
    refine JC.ghost (L' := [Res.row (.slice ((l.getD j o0).x.a0) ((l.getD j o0).t.cells.length) ((l.getD j o0).x.c0)) 62 2 (((l.getD j o0).t.cells).length) (((l.getD j o0).t.cells).flatMap encC), Res.rows (Q.flatMap rdsO), Res.rows ((l.drop (j + 1)).flatMap rdsO), Res.row (.slice a l.length c) 57 3 l.length (mid encO Q [iv ((l.getD j o0).t.seq), .slice ((l.getD j o0).x.a0) ((l.getD j o0).t.cells.length) ((l.getD j o0).x.c0), .bool ((l.getD j o0).t.whole)] (l.drop (j + 1)))]) (fun w hw => St.openR 1 rfl (St.splitR 1 rfl (flatMap_mid o0 hlt) (hw.midR 0 rfl o0 hlt))) <| jQ (cB (dT h_6)) <| jM <| jB <| jC <| jZ <| jC <| jF <| jA (jD (v := .slice a l.length c) he_2) <| jA (jD (v := nv j) he_5) ?_
    refine jA (jD (v := nv kk) he_3) ?_
    refine JL.facts fun hst => ?_
    obtain ⟨hr_7, hr_7b, -⟩ := row_some 3 rfl (by omega) hst
    refine jA (jV (i := j) kV kc hr_7 hr_7b rfl rfl (by omega)) <| jA (jX fo57_0 hr_7 rfl) ?_
    refine jI rfl (ju 3 (vs := [nv kk]) (cs' := mid encO Q [nv kk, .slice ((l.getD j o0).x.a0) ((l.getD j o0).t.cells.length) ((l.getD j o0).x.c0), .bool ((l.getD j o0).t.whole)] (l.drop (j + 1))) rfl rfl rfl rfl kK rfl rfl (by decide) (mid_fit encO_len rfl hQl (f := 0) (lb rfl)) (mid_set encO_len rfl hQl 0 [nv kk] (lb rfl))) ?_
    rintro _ _ rfl
    refine jE <| jB <| jC <| jF <| jA (jD (v := nv kk) he_3) <| jA (jT (c := ((kk + 1 : Nat) : Int)) rfl rfl (wr (by omega))) <| jA (jG (v := iv ((kk + 1 : Nat) : Int)) rfl) <| jE <| jB <| jC ?_
    refine jF <| jA (jD (v := .slice a l.length c) he_2) <| jA (jD (v := nv j) he_5) <| jA (jV (i := j) kV kc hr_7 hr_7b rfl rfl (by omega)) <| jA (jX fo57_1 hr_7 rfl) <| jP (LO.loadR1 3 (v := .slice ((l.getD j o0).x.a0) ((l.getD j o0).t.cells.length) ((l.getD j o0).x.c0)) rfl rfl kX (mid_at encO_len rfl hQl 1 (by decide))) <| jA (jD (v := iv ((kk + 1 : Nat) : Int)) rfl) ?_
    refine jI rfl (jR [0] Tryz.call18 rfl (C_markCellS (l.getD j o0).x.a0 ((l.getD j o0).x.c0) ((l.getD j o0).t.cells) (kk + 1) (by omega) (by omega)) rfl (fun _ _ => trivial)) ?_
    rintro _ _ ⟨_, ⟨rfl, rfl⟩, rfl⟩
    refine jA (jG (v := iv ((kk + 1 + 2 * ((l.getD j o0).t.cells).length : Nat) : Int)) rfl) <| jE <| jB <| jC <| jF <| jA (jD (v := .slice a l.length c) he_2) <| jA (jD (v := nv j) he_5) <| jA (jD (v := iv ((kk + 1 + 2 * ((l.getD j o0).t.cells).length : Nat) : Int)) rfl) <| jA (PO.remN (c := (((kk + 1 + 2 * ((l.getD j o0).t.cells).length) % 3 : Nat) : Int)) rfl rfl (by omega) (by omega) (by omega)) <| jA (PO.eqlI rfl rfl) ?_
    refine jA (jV (i := j) kV kc hr_7 hr_7b rfl rfl (by omega)) <| jA (jX fo57_2 hr_7 rfl) ?_
    refine jI rfl (ju 3 (vs := [.bool (decide ((((kk + 1 + 2 * ((l.getD j o0).t.cells).length) % 3 : Nat) : Int) = 0))]) (cs' := mid encO Q [nv kk, .slice ((l.getD j o0).x.a0) ((l.getD j o0).t.cells.length) ((l.getD j o0).x.c0), .bool (decide ((((kk + 1 + 2 * ((l.getD j o0).t.cells).length) % 3 : Nat) : Int) = 0))] (l.drop (j + 1))) rfl rfl rfl rfl Tryz.sizeOf4 rfl rfl (by decide) (mid_fit encO_len rfl hQl (f := 2) (lb rfl)) (mid_set encO_len rfl hQl 2 [.bool (decide ((((kk + 1 + 2 * ((l.getD j o0).t.cells).length) % 3 : Nat) : Int) = 0))] (lb rfl))) ?_
    rintro _ _ rfl
    refine jE <| jB <| jF <| jA (jD (v := iv ((kk + 1 + 2 * ((l.getD j o0).t.cells).length : Nat) : Int)) rfl) <| jA (jT (c := (((kk + 1 + 2 * ((l.getD j o0).t.cells).length) + 1 : Nat) : Int)) rfl rfl (wr (by omega))) <| jA (jG (v := iv (((kk + 1 + 2 * ((l.getD j o0).t.cells).length) + 1 : Nat) : Int)) rfl) <| jE <| jk <| jB <| jF ?_
    refine jA (jD (v := nv j) he_5) <| jA (jT (c := ((j + 1 : Nat) : Int)) rfl rfl (wr (by omega))) <| jA (jG (v := iv ((j + 1 : Nat) : Int)) rfl) <| jE <| kC (L' := [Res.rows (((Q ++ [mkO (l.getD j o0) kk]) ++ l.drop (j + 1)).flatMap rdsO), Res.row (.slice a l.length c) 57 3 l.length (((Q ++ [mkO (l.getD j o0) kk]) ++ l.drop (j + 1)).flatMap encO)]) (fun w hw => St.joinR [2, 0, 1] rfl (by rw [flatMap_mid2, rdsO_mk]) (St.closeR (A := ([⟨.slice ((l.getD j o0).x.a0) ((l.getD j o0).t.cells.length) ((l.getD j o0).x.c0), 62, 2, ((l.getD j o0).t.cells).length, (markC ((l.getD j o0).t.cells) (kk + 1)).flatMap encC⟩] : List RD)) [1] rfl (hw.unmid 3 rfl (q := mkO (l.getD j o0) kk) (encO_mk _ _)))) <| JQ.pick [1, 0] (A := [Res.row (.slice a l.length c) 57 3 l.length (((Q ++ [mkO (l.getD j o0) kk]) ++ l.drop (j + 1)).flatMap encO), Res.rows (((Q ++ [mkO (l.getD j o0) kk]) ++ l.drop (j + 1)).flatMap rdsO)]) rfl ?_
    refine jl (l.length - (j + 1)) (by omega) ⟨j + 1, (kk + 1 + 2 * ((l.getD j o0).t.cells).length) + 1, (Q ++ [mkO (l.getD j o0) kk]), by omega, (by rw [cntV_step o0 hlt]; simp only [cntO]; omega), (by rw [markV_step o0 hlt, ← hQ, ← hkk]), (by rw [List.length_append, hQl]; rfl), he_2, rfl, he_4, rfl, rfl, rfl⟩
  refine jL (cB (dF h_6)) <| jm <| jY <| jY <| jn <| jB <| jC <| jF <| jA (jD (v := nv kk) he_3) <| jA (jG (v := nv kk) rfl) ?_
  refine jE <| jB <| jK ?_
  have hz : Q ++ l.drop j = markV mkO cntO l k := by rw [hQ, List.drop_of_length_le (by omega), List.append_nil, markV_all (by omega)]
  refine kC (L' := [Res.row (.slice a ((markV mkO cntO l k).length) c) 57 3 ((markV mkO cntO l k).length) ((markV mkO cntO l k).flatMap encO), Res.rows ((markV mkO cntO l k).flatMap rdsO)]) (fun w hw => hw.eqL (by rw [hz, markV_len])) <| kC (L' := [Res.rows (rdsOS a c (markV mkO cntO l k))]) (fun w hw => hw.consR (r := ⟨.slice a ((markV mkO cntO l k).length) c, 57, 3, (markV mkO cntO l k).length, (markV mkO cntO l k).flatMap encO⟩) (A := (markV mkO cntO l k).flatMap rdsO) [0, 0] rfl) <| jN (.inl rfl) rfl (jJ (v := nv kk) rfl) (List.Sublist.refl _) ?_
  exact ⟨by rw [hkk, cntV_all (by omega)], rfl⟩

set_option maxRecDepth 4000 in
set_option maxHeartbeats 1000000 in
theorem C_heldSlotS (a : Option Addr) (c : Nat) (l : List OX) (k : Nat) (h0 : 0 < k) (h1 : k + cntV cntO l ≤ 100000000) (hn : l.length ≤ 1000000000) :
    Ct Tryz.prog 46 [.slice a l.length c, .int .i64 ((k : Nat) : Int)] [] (fun w => SeesA w (rdsOS a c (markV mkO cntO l k))) (fun v A' => v = .int .i64 ((k + cntV cntO l : Nat) : Int) ∧ A' = []) := by
  refine Ct.intro Tryz.func46 rfl Tryz.ntmps46 (lb rfl) fun w0 hpre => ?_
  have hs : Sees w0 (.slice a l.length c) 3 l.length ((markV mkO cntO l k).flatMap encO) := by have h := hpre.head; simpa only [RD.sees, markV_len] using h
  have hi : SeesA w0 ((markV mkO cntO l k).flatMap rdsO) := hpre.tail
  refine jC <| jF <| jA (jG (v := iv 0) rfl) <| jE <| jB <| jC <| jC <| jF <| jA (jG (v := iv 0) rfl) <| jE ?_
  refine jB <| jZ <| jo (fun k_ e_ L_ => ∃ j : Nat, ∃ kk : Nat, (j ≤ l.length) ∧ (kk = k + cntV cntO (l.take j)) ∧ e_ 0 = .slice a l.length c ∧ e_ 1 = nv kk ∧ e_ 5 = nv j ∧ L_ = [] ∧ k_ = l.length - j) _ ⟨0, k, by omega, rfl, rfl, rfl, rfl, rfl, rfl⟩ ?_
  rintro _ e_1 _ ⟨j, kk, hj, hkk, he_2, he_3, he_4, rfl, rfl⟩
  refine jC <| jC <| jF <| jA (jD (v := nv j) he_4) <| jA (jD (v := .slice a l.length c) he_2) <| jA (jh kV rfl) <| jA (jb rfl rfl) <| jE <| jB ?_
  by_cases h_5 : ((j : Nat) : Int) < ((l.length : Nat) : Int)
  · have hlt : j < l.length := by omega
    have hb : cntV cntO (l.take j) + cntO (l.getD j o0) ≤ cntV cntO l := cntV_le o0 hlt
    simp only [cntO] at hb
    have hget : (markV mkO cntO l k).getD j o0 = mkO (l.getD j o0) kk := by rw [markV_get o0 l k j hlt, ← hkk]
    have hin := SeesA.elem hi o0 (show j < (markV mkO cntO l k).length by rw [markV_len]; exact hlt)
    rw [hget] at hin
    have hs_6 := seesO_mk' hin
    refine jQ (cB (dT h_5)) <| jM <| jB <| jC <| jZ <| jC <| jC <| jF <| jA (jD (v := .slice a l.length c) he_2) <| jA (jD (v := nv j) he_4) ?_
    obtain ⟨hr_7, hr_7b, -⟩ := sees_some hs (by omega)
    refine jA (jV (i := j) kV kc hr_7 hr_7b rfl rfl (by omega)) <| jA (jX fo57_0 hr_7 rfl) <| jP (ji (v := nv kk) hs nM rfl kE (flat_atE encO_len o0 (markV mkO cntO l k) j 0 (by rw [markV_len]; exact hlt) (by decide) hget (encO_mk _ _))) <| jA (jD (v := nv kk) he_3) <| jA (jf rfl rfl) <| jE <| jB <| jL (cB (cN (dT rfl))) <| jM <| jB ?_
    refine jC <| jF <| jA (jD (v := nv kk) he_3) <| jA (jT (c := ((kk + 1 : Nat) : Int)) rfl rfl (wr (by omega))) <| jA (jG (v := iv ((kk + 1 : Nat) : Int)) rfl) <| jE <| jB <| jC <| jF <| jA (jD (v := .slice a l.length c) he_2) ?_
    refine jA (jD (v := nv j) he_4) <| jA (jV (i := j) kV kc hr_7 hr_7b rfl rfl (by omega)) <| jA (jX fo57_1 hr_7 rfl) <| jP (ji (v := .slice ((l.getD j o0).x.a0) ((l.getD j o0).t.cells.length) ((l.getD j o0).x.c0)) hs nM rfl kX (flat_atE encO_len o0 (markV mkO cntO l k) j 1 (by rw [markV_len]; exact hlt) (by decide) hget (encO_mk _ _))) <| jA (jD (v := iv ((kk + 1 : Nat) : Int)) rfl) ?_
    refine jI rfl (jR [] Tryz.call23 rfl (Y_heldCellS (l.getD j o0).x.a0 ((l.getD j o0).x.c0) ((l.getD j o0).t.cells) (kk + 1) (by omega) (by omega)) rfl (fun w hw => hw.seeOut_ hs_6 nM)) ?_
    rintro _ _ ⟨_, ⟨rfl, rfl⟩, rfl⟩
    refine jA (jG (v := iv ((kk + 1 + 2 * ((l.getD j o0).t.cells).length : Nat) : Int)) rfl) <| jE <| jB <| jC <| jC <| jF <| jA (jD (v := iv ((kk + 1 + 2 * ((l.getD j o0).t.cells).length : Nat) : Int)) rfl) <| jA (jb rfl rfl) <| jE <| jB ?_
    by_cases h_8 : ((kk + 1 + 2 * ((l.getD j o0).t.cells).length : Nat) : Int) < 0
    · refine jQ (cB (dT h_8)) <| jC <| jF <| jA (jG (v := iv (-1)) rfl) <| jE <| jB <| jK <| jO <| je <| jO ?_
      refine jO <| je <| jO <| jN (.inl rfl) rfl (jJ (v := iv (-1)) rfl) (List.nil_sublist _) ?_
      exfalso
      omega
    refine jL (cB (dF h_8)) <| jM <| jB <| jC <| jC <| jF <| jA (jD (v := .slice a l.length c) he_2) <| jA (jD (v := nv j) he_4) <| jA (jV (i := j) kV kc hr_7 hr_7b rfl rfl (by omega)) <| jA (jX fo57_2 hr_7 rfl) ?_
    refine jP (ji (v := .bool (decide ((((kk + 1 + 2 * ((l.getD j o0).t.cells).length) % 3 : Nat) : Int) = 0))) hs nM rfl Tryz.isAgg4 (flat_atE encO_len o0 (markV mkO cntO l k) j 2 (by rw [markV_len]; exact hlt) (by decide) hget (encO_mk _ _))) <| jA (jD (v := iv ((kk + 1 + 2 * ((l.getD j o0).t.cells).length : Nat) : Int)) rfl) <| jA (PO.remN (c := (((kk + 1 + 2 * ((l.getD j o0).t.cells).length) % 3 : Nat) : Int)) rfl rfl (by omega) (by omega) (by omega)) <| jA (PO.eqlI rfl rfl) <| jA (PO.neqB Tryz.underlying4 rfl rfl) <| jE <| jB <| jL (cB (cN (dT rfl))) <| jM <| jB ?_
    refine jF <| jA (jD (v := iv ((kk + 1 + 2 * ((l.getD j o0).t.cells).length : Nat) : Int)) rfl) <| jA (jT (c := (((kk + 1 + 2 * ((l.getD j o0).t.cells).length) + 1 : Nat) : Int)) rfl rfl (wr (by omega))) <| jA (jG (v := iv (((kk + 1 + 2 * ((l.getD j o0).t.cells).length) + 1 : Nat) : Int)) rfl) <| jE <| jk <| jB <| jF <| jA (jD (v := nv j) he_4) <| jA (jT (c := ((j + 1 : Nat) : Int)) rfl rfl (wr (by omega))) ?_
    refine jA (jG (v := iv ((j + 1 : Nat) : Int)) rfl) <| jE ?_
    refine jl (l.length - (j + 1)) (by omega) ⟨j + 1, (kk + 1 + 2 * ((l.getD j o0).t.cells).length) + 1, by omega, (by rw [cntV_step o0 hlt]; simp only [cntO]; omega), he_2, rfl, rfl, rfl, rfl⟩
  refine jL (cB (dF h_5)) <| jm <| jY <| jY <| jn <| jB <| jC <| jF <| jA (jD (v := nv kk) he_3) <| jA (jG (v := nv kk) rfl) ?_
  refine jE <| jB <| jK <| jN (.inl rfl) rfl (jJ (v := nv kk) rfl) (List.nil_sublist _) ?_
  exact ⟨by rw [hkk, cntV_all (by omega)], rfl⟩

theorem C_eqTx (p q : TX) (hl : p.t.lim 1000000000) :
    Ct Tryz.prog 33 [.agg #[.int .i64 p.t.id, .int .i64 p.t.age, .int .i64 p.t.proc, .int .i64 p.t.began, .slice p.x.a0 p.t.calls.length p.x.c0, .slice p.x.a1 p.t.ans.length p.x.c1, .slice p.x.a2 p.t.rd.length p.x.c2, .slice p.x.a3 p.t.wr.length p.x.c3, .slice p.x.a4 p.t.marks.length p.x.c4, .int .i64 p.t.state], .agg #[.int .i64 q.t.id, .int .i64 q.t.age, .int .i64 q.t.proc, .int .i64 q.t.began, .slice q.x.a0 q.t.calls.length q.x.c0, .slice q.x.a1 q.t.ans.length q.x.c1, .slice q.x.a2 q.t.rd.length q.x.c2, .slice q.x.a3 q.t.wr.length q.x.c3, .slice q.x.a4 q.t.marks.length q.x.c4, .int .i64 q.t.state]] [] (fun w => SeesA w (rdsX p) ∧ SeesA w (rdsX q)) (fun v A' => v = .bool (decide (p.t = q.t)) ∧ A' = []) := by
  obtain ⟨hb0, hb1, hb2, hb3, hb4⟩ := hl
  refine Ct.intro Tryz.func33 rfl Tryz.ntmps33 (lb rfl) fun w0 hpre => ?_
  obtain ⟨hs_1, hs_2, hs_3, hs_4, hs_5⟩ := seesX hpre.1
  obtain ⟨hs_6, hs_7, hs_8, hs_9, hs_10⟩ := seesX hpre.2
  refine jC <| jF ?_
  refine jI rfl (jp (cs := [iv p.t.id, iv p.t.age, iv p.t.proc, iv p.t.began, .slice p.x.a0 p.t.calls.length p.x.c0, .slice p.x.a1 p.t.ans.length p.x.c1, .slice p.x.a2 p.t.rd.length p.x.c2, .slice p.x.a3 p.t.wr.length p.x.c3, .slice p.x.a4 p.t.marks.length p.x.c4, iv p.t.state]) rfl rfl) ?_
  rintro _ _ ⟨b_11, rfl, rfl⟩
  refine jI rfl (jp (cs := [iv q.t.id, iv q.t.age, iv q.t.proc, iv q.t.began, .slice q.x.a0 q.t.calls.length q.x.c0, .slice q.x.a1 q.t.ans.length q.x.c1, .slice q.x.a2 q.t.rd.length q.x.c2, .slice q.x.a3 q.t.wr.length q.x.c3, .slice q.x.a4 q.t.marks.length q.x.c4, iv q.t.state]) rfl rfl) ?_
  rintro _ _ ⟨b_12, rfl, rfl⟩
  refine jA (jG (v := .bool false) rfl) <| jE <| jB <| jC <| jC <| jF <| jA (jS fo69_0 rfl) <| jP (jU 1 (v := iv p.t.id) rfl rfl kE rfl) <| jA (jS fo69_0 rfl) <| jP (jU 0 (v := iv q.t.id) rfl rfl kE rfl) ?_
  refine jA (jf rfl rfl) <| jE <| jB ?_
  by_cases h_13 : p.t.id = q.t.id
  · refine jL (cB (cN (dT h_13))) <| jM <| jB <| jC <| jC <| jF <| jA (jS fo69_1 rfl) <| jP (jU 1 (v := iv p.t.age) rfl rfl kE rfl) <| jA (jS fo69_1 rfl) <| jP (jU 0 (v := iv q.t.age) rfl rfl kE rfl) ?_
    refine jA (jf rfl rfl) <| jE <| jB ?_
    by_cases h_14 : p.t.age = q.t.age
    · refine jL (cB (cN (dT h_14))) <| jM <| jB <| jC <| jC <| jF <| jA (jS fo69_2 rfl) <| jP (jU 1 (v := iv p.t.proc) rfl rfl kE rfl) <| jA (jS fo69_2 rfl) <| jP (jU 0 (v := iv q.t.proc) rfl rfl kE rfl) ?_
      refine jA (jf rfl rfl) <| jE <| jB ?_
      by_cases h_15 : p.t.proc = q.t.proc
      · refine jL (cB (cN (dT h_15))) <| jM <| jB <| jC <| jC <| jF <| jA (jS fo69_3 rfl) <| jP (jU 1 (v := iv p.t.began) rfl rfl kE rfl) <| jA (jS fo69_3 rfl) <| jP (jU 0 (v := iv q.t.began) rfl rfl kE rfl) ?_
        refine jA (jf rfl rfl) <| jE <| jB ?_
        by_cases h_16 : p.t.began = q.t.began
        · refine jL (cB (cN (dT h_16))) <| jM <| jB <| jC <| jC <| jF <| jA (jS fo69_4 rfl) <| jP (jU 1 (v := .slice p.x.a0 p.t.calls.length p.x.c0) rfl rfl Tryz.isAgg65 rfl) <| jA (jS fo69_4 rfl) <| jP (jU 0 (v := .slice q.x.a0 q.t.calls.length q.x.c0) rfl rfl Tryz.isAgg65 rfl) ?_
          refine jI rfl (jR [] Tryz.call56 rfl (C_eqCallS p.x.a0 q.x.a0 p.x.c0 q.x.c0 p.t.calls q.t.calls (by omega)) rfl (fun w hw => ⟨hw.seeOut_ hs_1 nM, hw.seeOut_ hs_6 nM⟩)) ?_
          rintro _ _ ⟨_, ⟨rfl, rfl⟩, rfl⟩
          refine jA (jq rfl) <| jE <| jB ?_
          by_cases h_17 : p.t.calls = q.t.calls
          · refine jL (cB (cN (dT h_17))) <| jM <| jB <| jC <| jC <| jF <| jA (jS fo69_5 rfl) <| jP (jU 1 (v := .slice p.x.a1 p.t.ans.length p.x.c1) rfl rfl Tryz.isAgg66 rfl) <| jA (jS fo69_5 rfl) <| jP (jU 0 (v := .slice q.x.a1 q.t.ans.length q.x.c1) rfl rfl Tryz.isAgg66 rfl) ?_
            refine jI rfl (jR [] Tryz.call57 rfl (C_eqAnswerS p.x.a1 q.x.a1 p.x.c1 q.x.c1 p.t.ans q.t.ans (by omega)) rfl (fun w hw => ⟨hw.seeOut_ hs_2 nM, hw.seeOut_ hs_7 nM⟩)) ?_
            rintro _ _ ⟨_, ⟨rfl, rfl⟩, rfl⟩
            refine jA (jq rfl) <| jE <| jB ?_
            by_cases h_18 : p.t.ans = q.t.ans
            · refine jL (cB (cN (dT h_18))) <| jM <| jB <| jC <| jC <| jF <| jA (jS fo69_6 rfl) <| jP (jr 1 (vs := [.slice p.x.a2 p.t.rd.length p.x.c2, .slice p.x.a3 p.t.wr.length p.x.c3]) rfl rfl Tryz.isAgg50 Tryz.sizeOf50 rfl rfl) <| jA (jS fo69_6 rfl) <| jP (jr 0 (vs := [.slice q.x.a2 q.t.rd.length q.x.c2, .slice q.x.a3 q.t.wr.length q.x.c3]) rfl rfl Tryz.isAgg50 Tryz.sizeOf50 rfl rfl) ?_
              refine jI rfl (jR [] Tryz.call58 rfl (Y_eqTouch p.x.a2 p.x.a3 q.x.a2 q.x.a3 p.x.c2 p.x.c3 q.x.c2 q.x.c3 p.t.rd p.t.wr q.t.rd q.t.wr (by omega) (by omega)) rfl (fun w hw => ⟨hw.seeOut_ hs_3 nM, hw.seeOut_ hs_4 nM, hw.seeOut_ hs_8 nM, hw.seeOut_ hs_9 nM⟩)) ?_
              rintro _ _ ⟨_, ⟨rfl, rfl⟩, rfl⟩
              refine jA (jq rfl) <| jE <| jB ?_
              by_cases h_19 : p.t.rd = q.t.rd ∧ p.t.wr = q.t.wr
              · obtain ⟨ht_20, ht_21⟩ := id h_19
                refine jL (cB (cN (dT h_19))) <| jM <| jB <| jC <| jC <| jF <| jA (jS fo69_7 rfl) <| jP (jU 1 (v := .slice p.x.a4 p.t.marks.length p.x.c4) rfl rfl Tryz.isAgg67 rfl) <| jA (jS fo69_7 rfl) <| jP (jU 0 (v := .slice q.x.a4 q.t.marks.length q.x.c4) rfl rfl Tryz.isAgg67 rfl) ?_
                refine jI rfl (jR [] Tryz.call59 rfl (Y_eqIntS p.x.a4 q.x.a4 p.x.c4 q.x.c4 p.t.marks q.t.marks (by omega)) rfl (fun w hw => ⟨hw.seeOut_ hs_5 nM, hw.seeOut_ hs_10 nM⟩)) ?_
                rintro _ _ ⟨_, ⟨rfl, rfl⟩, rfl⟩
                refine jA (jq rfl) <| jE <| jB ?_
                by_cases h_22 : p.t.marks = q.t.marks
                · refine jL (cB (cN (dT h_22))) <| jM <| jB <| jC <| jC <| jF <| jA (jS fo69_8 rfl) <| jP (jU 1 (v := iv p.t.state) rfl rfl kE rfl) <| jA (jS fo69_8 rfl) <| jP (jU 0 (v := iv q.t.state) rfl rfl kE rfl) ?_
                  refine jA (jf rfl rfl) <| jE <| jB ?_
                  by_cases h_23 : p.t.state = q.t.state
                  · refine jL (cB (cN (dT h_23))) <| jM <| jB <| jC <| jF <| jA (jG (v := .bool true) rfl) <| jE <| jB <| jK <| jN (.inl rfl) rfl (jJ (v := .bool true) rfl) (List.nil_sublist _) ?_
                    exact ⟨cB (dT (TD.same.2 ⟨by assumption, by assumption, by assumption, by assumption, by assumption, by assumption, by assumption, by assumption, by assumption, by assumption⟩)).symm, rfl⟩
                  refine jQ (cB (cN (dF h_23))) <| jC <| jF <| jA (jG (v := .bool false) rfl) <| jE <| jB <| jK <| jO <| jN (.inl rfl) rfl (jJ (v := .bool false) rfl) (List.nil_sublist _) ?_
                  exact ⟨cB (dF (fun h_ => by obtain ⟨h_0, h_1, h_2, h_3, h_4, h_5, h_6, h_7, h_8, h_9⟩ := TD.same.1 h_; first | contradiction | (exact absurd ⟨h_6, h_7⟩ ‹¬(_ ∧ _)›))).symm, rfl⟩
                refine jQ (cB (cN (dF h_22))) <| jC <| jF <| jA (jG (v := .bool false) rfl) <| jE <| jB <| jK <| jO <| jN (.inl rfl) rfl (jJ (v := .bool false) rfl) (List.nil_sublist _) ?_
                exact ⟨cB (dF (fun h_ => by obtain ⟨h_0, h_1, h_2, h_3, h_4, h_5, h_6, h_7, h_8, h_9⟩ := TD.same.1 h_; first | contradiction | (exact absurd ⟨h_6, h_7⟩ ‹¬(_ ∧ _)›))).symm, rfl⟩
              refine jQ (cB (cN (dF h_19))) <| jC <| jF <| jA (jG (v := .bool false) rfl) <| jE <| jB <| jK <| jO <| jN (.inl rfl) rfl (jJ (v := .bool false) rfl) (List.nil_sublist _) ?_
              exact ⟨cB (dF (fun h_ => by obtain ⟨h_0, h_1, h_2, h_3, h_4, h_5, h_6, h_7, h_8, h_9⟩ := TD.same.1 h_; first | contradiction | (exact absurd ⟨h_6, h_7⟩ ‹¬(_ ∧ _)›))).symm, rfl⟩
            refine jQ (cB (cN (dF h_18))) <| jC <| jF <| jA (jG (v := .bool false) rfl) <| jE <| jB <| jK <| jO <| jN (.inl rfl) rfl (jJ (v := .bool false) rfl) (List.nil_sublist _) ?_
            exact ⟨cB (dF (fun h_ => by obtain ⟨h_0, h_1, h_2, h_3, h_4, h_5, h_6, h_7, h_8, h_9⟩ := TD.same.1 h_; first | contradiction | (exact absurd ⟨h_6, h_7⟩ ‹¬(_ ∧ _)›))).symm, rfl⟩
          refine jQ (cB (cN (dF h_17))) <| jC <| jF <| jA (jG (v := .bool false) rfl) <| jE <| jB <| jK <| jO <| jN (.inl rfl) rfl (jJ (v := .bool false) rfl) (List.nil_sublist _) ?_
          exact ⟨cB (dF (fun h_ => by obtain ⟨h_0, h_1, h_2, h_3, h_4, h_5, h_6, h_7, h_8, h_9⟩ := TD.same.1 h_; first | contradiction | (exact absurd ⟨h_6, h_7⟩ ‹¬(_ ∧ _)›))).symm, rfl⟩
        refine jQ (cB (cN (dF h_16))) <| jC <| jF <| jA (jG (v := .bool false) rfl) <| jE <| jB <| jK <| jO <| jN (.inl rfl) rfl (jJ (v := .bool false) rfl) (List.nil_sublist _) ?_
        exact ⟨cB (dF (fun h_ => by obtain ⟨h_0, h_1, h_2, h_3, h_4, h_5, h_6, h_7, h_8, h_9⟩ := TD.same.1 h_; first | contradiction | (exact absurd ⟨h_6, h_7⟩ ‹¬(_ ∧ _)›))).symm, rfl⟩
      refine jQ (cB (cN (dF h_15))) <| jC <| jF <| jA (jG (v := .bool false) rfl) <| jE <| jB <| jK <| jO <| jN (.inl rfl) rfl (jJ (v := .bool false) rfl) (List.nil_sublist _) ?_
      exact ⟨cB (dF (fun h_ => by obtain ⟨h_0, h_1, h_2, h_3, h_4, h_5, h_6, h_7, h_8, h_9⟩ := TD.same.1 h_; first | contradiction | (exact absurd ⟨h_6, h_7⟩ ‹¬(_ ∧ _)›))).symm, rfl⟩
    refine jQ (cB (cN (dF h_14))) <| jC <| jF <| jA (jG (v := .bool false) rfl) <| jE <| jB <| jK <| jO <| jN (.inl rfl) rfl (jJ (v := .bool false) rfl) (List.nil_sublist _) ?_
    exact ⟨cB (dF (fun h_ => by obtain ⟨h_0, h_1, h_2, h_3, h_4, h_5, h_6, h_7, h_8, h_9⟩ := TD.same.1 h_; first | contradiction | (exact absurd ⟨h_6, h_7⟩ ‹¬(_ ∧ _)›))).symm, rfl⟩
  refine jQ (cB (cN (dF h_13))) <| jC <| jF <| jA (jG (v := .bool false) rfl) <| jE <| jB <| jK <| jO <| jN (.inl rfl) rfl (jJ (v := .bool false) rfl) (List.nil_sublist _) ?_
  exact ⟨cB (dF (fun h_ => by obtain ⟨h_0, h_1, h_2, h_3, h_4, h_5, h_6, h_7, h_8, h_9⟩ := TD.same.1 h_; first | contradiction | (exact absurd ⟨h_6, h_7⟩ ‹¬(_ ∧ _)›))).symm, rfl⟩

theorem C_eqTxS (a b : Option Addr) (c c' : Nat) (s t : List TX) (hn : s.length ≤ 9223372036854775807) (hl : ∀ q ∈ s, q.t.lim 1000000000) :
    Ct Tryz.prog 14 [.slice a s.length c, .slice b t.length c'] [] (fun w => SeesA w (rdsXS a c s) ∧ SeesA w (rdsXS b c' t)) (fun r A' => r = .bool (decide (s.map TX.t = t.map TX.t)) ∧ A' = []) := by
  refine Ct.intro Tryz.func14 rfl Tryz.ntmps14 (lb rfl) fun w0 hpre => ?_
  have hs_1 : Sees w0 (.slice a s.length c) 10 s.length (s.flatMap encX) := (hpre.1).head
  have hi_2 : SeesA w0 (s.flatMap rdsX) := (hpre.1).tail
  have hs_3 : Sees w0 (.slice b t.length c') 10 t.length (t.flatMap encX) := (hpre.2).head
  have hi_4 : SeesA w0 (t.flatMap rdsX) := (hpre.2).tail
  refine jC <| jF <| jA (jG (v := .bool false) rfl) <| jE <| jB <| jC <| jC <| jF <| jA (jD (v := .slice a s.length c) rfl) <| jA (jh kJ rfl) ?_
  refine jA (jD (v := .slice b t.length c') rfl) <| jA (jh kJ rfl) <| jA (jf rfl rfl) <| jE <| jB ?_
  by_cases h_5 : ((s.length : Nat) : Int) = ((t.length : Nat) : Int)
  · have hlen := h_5
    refine jL (cB (cN (dT h_5))) <| jM <| jB <| jC <| jC <| jF <| jA (jG (v := iv 0) rfl) <| jE <| jB <| jZ ?_
    refine jo (fun k_ e_ L_ => ∃ j : Nat, (j ≤ s.length) ∧ ((s.take j).map TX.t = (t.take j).map TX.t) ∧ (s.length = t.length) ∧ e_ 0 = .slice a s.length c ∧ e_ 1 = .slice b t.length c' ∧ e_ 5 = nv j ∧ L_ = [] ∧ k_ = s.length - j) _ ⟨0, by omega, rfl, by omega, rfl, rfl, rfl, rfl, rfl⟩ ?_
    rintro _ e_6 _ ⟨j, hj, hE, hln, he_7, he_8, he_9, rfl, rfl⟩
    refine jC <| jC <| jF <| jA (jD (v := nv j) he_9) <| jA (jD (v := .slice a s.length c) he_7) <| jA (jh kJ rfl) <| jA (jb rfl rfl) <| jE <| jB ?_
    by_cases h_10 : ((j : Nat) : Int) < ((s.length : Nat) : Int)
    · have hlt : j < s.length := by omega
      refine jQ (cB (dT h_10)) <| jM <| jB <| jC <| jZ <| jC <| jv [] 1000 mixed (by simp) <| jW 0 rfl (jD (v := .slice a s.length c) he_7) <| jW 1 rfl (jD (v := nv j) he_9) ?_
      obtain ⟨hr_11, hr_11b, -⟩ := sees_some hs_1 (by omega)
      refine jW 2 rfl (jV (i := j) kJ kL hr_11 hr_11b rfl rfl (by omega)) ?_
      have hi_12 := SeesA.elem hi_2 x0 (show j < s.length by omega)
      obtain ⟨hs_13, hs_14, hs_15, hs_16, hs_17⟩ := seesX hi_12
      refine jw 3 rfl (LO.loadSK (vs := [iv ((s.getD j x0).t.id), iv ((s.getD j x0).t.age), iv ((s.getD j x0).t.proc), iv ((s.getD j x0).t.began), .slice ((s.getD j x0).x.a0) ((s.getD j x0).t.calls.length) ((s.getD j x0).x.c0), .slice ((s.getD j x0).x.a1) ((s.getD j x0).t.ans.length) ((s.getD j x0).x.c1), .slice ((s.getD j x0).x.a2) ((s.getD j x0).t.rd.length) ((s.getD j x0).x.c2), .slice ((s.getD j x0).x.a3) ((s.getD j x0).t.wr.length) ((s.getD j x0).x.c3), .slice ((s.getD j x0).x.a4) ((s.getD j x0).t.marks.length) ((s.getD j x0).x.c4), iv ((s.getD j x0).t.state)]) hs_1 nM rfl Tryz.isAgg69 kL (flat_take encX_len x0 s j (by omega)) rfl (by decide)) <| jW 4 rfl (jD (v := .slice b t.length c') he_8) <| jW 5 rfl (jD (v := nv j) he_9) ?_
      obtain ⟨hr_18, hr_18b, -⟩ := sees_some hs_3 (by omega)
      refine jW 6 rfl (jV (i := j) kJ kL hr_18 hr_18b rfl rfl (by omega)) ?_
      have hi_19 := SeesA.elem hi_4 x0 (show j < t.length by omega)
      obtain ⟨hs_20, hs_21, hs_22, hs_23, hs_24⟩ := seesX hi_19
      refine jw 7 rfl (LO.loadSK (vs := [iv ((t.getD j x0).t.id), iv ((t.getD j x0).t.age), iv ((t.getD j x0).t.proc), iv ((t.getD j x0).t.began), .slice ((t.getD j x0).x.a0) ((t.getD j x0).t.calls.length) ((t.getD j x0).x.c0), .slice ((t.getD j x0).x.a1) ((t.getD j x0).t.ans.length) ((t.getD j x0).x.c1), .slice ((t.getD j x0).x.a2) ((t.getD j x0).t.rd.length) ((t.getD j x0).x.c2), .slice ((t.getD j x0).x.a3) ((t.getD j x0).t.wr.length) ((t.getD j x0).x.c3), .slice ((t.getD j x0).x.a4) ((t.getD j x0).t.marks.length) ((t.getD j x0).x.c4), iv ((t.getD j x0).t.state)]) hs_3 nM rfl Tryz.isAgg69 kL (flat_take encX_len x0 t j (by omega)) rfl (by decide)) <| jx (i := 8) ?_
      refine jz rfl rfl (jR [] Tryz.call33 rfl (C_eqTx (s.getD j x0) (t.getD j x0) (hl _ (getD_mem hlt))) rfl (fun w hw => ⟨hw.seeOutA hi_12 nMA, hw.seeOutA hi_19 nMA⟩)) ?_
      rintro _ _ ⟨_, ⟨rfl, rfl⟩, rfl⟩
      refine ⟨(fun _ h => by cases h), ?_⟩
      refine jW 9 rfl (jq rfl) <| kB (by kernel_rfl) <| jB ?_
      by_cases h_25 : (s.getD j x0).t = (t.getD j x0).t
      · have heq := h_25
        refine jL (cB (cN (dT h_25))) <| jM <| jk <| jB <| jF <| jA (jD (v := nv j) he_9) <| jA (jT (c := ((j + 1 : Nat) : Int)) rfl rfl (wr (by omega))) <| jA (jG (v := iv ((j + 1 : Nat) : Int)) rfl) <| jE ?_
        refine jl (s.length - (j + 1)) (by omega) ⟨j + 1, by omega, take_succM_eq x0 hE hlt hln heq, hln, he_7, he_8, rfl, rfl, rfl⟩
      have hne := h_25
      refine jQ (cB (cN (dF h_25))) <| jC <| jF <| jA (jG (v := .bool false) rfl) <| jE <| jB <| jK <| je <| jO <| jO ?_
      refine je <| jO <| jN (.inl rfl) rfl (jJ (v := .bool false) rfl) (List.nil_sublist _) ?_
      refine ⟨?_, rfl⟩
      rw [dF (fun h => hne (getM_eq x0 h hlt hln))]
    refine jL (cB (dF h_10)) <| jm <| jY <| jY <| jn <| jB <| jC <| jF <| jA (jG (v := .bool true) rfl) <| jE ?_
    refine jB <| jK <| jN (.inl rfl) rfl (jJ (v := .bool true) rfl) (List.nil_sublist _) ?_
    refine ⟨?_, rfl⟩
    rw [dT (take_allM_eq hE (by omega) (by omega))]
  have hlen := h_5
  refine jQ (cB (cN (dF h_5))) <| jC <| jF <| jA (jG (v := .bool false) rfl) <| jE <| jB <| jK <| jO <| jN (.inl rfl) rfl (jJ (v := .bool false) rfl) (List.nil_sublist _) ?_
  refine ⟨?_, rfl⟩
  rw [dF (fun h => by have h2 := congrArg List.length h; rw [List.length_map, List.length_map] at h2; omega)]

set_option maxRecDepth 4000 in
set_option maxHeartbeats 1000000 in
theorem C_markTxS (a : Option Addr) (c : Nat) (l : List TX) (k : Nat) (h0 : 0 < k) (h1 : k + cntV cntX l ≤ 100000000) (hn : l.length ≤ 1000000000) :
    Ct Tryz.prog 19 [.slice a l.length c, .int .i64 ((k : Nat) : Int)] [Res.rows (rdsXS a c l)] (fun _ => True) (fun v A' => v = .int .i64 ((k + cntV cntX l : Nat) : Int) ∧ A' = [.rows (rdsXS a c (markV mkX cntX l k))]) := by
  refine Ct.intro Tryz.func19 rfl Tryz.ntmps19 (lb rfl) fun w0 hpre => ?_
  refine JC.ghost (L' := [Res.row (.slice a l.length c) 69 10 l.length (l.flatMap encX), Res.rows (l.flatMap rdsX)]) (fun w hw => hw.headR (r := ⟨.slice a l.length c, 69, 10, l.length, l.flatMap encX⟩) (A := l.flatMap rdsX) 0 rfl) <| jC <| jF <| jA (jG (v := iv 0) rfl) <| jE <| jB <| jC <| jC <| jF <| jA (jG (v := iv 0) rfl) ?_
  refine jE <| jB <| jZ <| jo (fun k_ e_ L_ => ∃ j : Nat, ∃ kk : Nat, ∃ Q : List TX, (j ≤ l.length) ∧ (kk = k + cntV cntX (l.take j)) ∧ (Q = (markV mkX cntX l k).take j) ∧ (Q.length = j) ∧ e_ 0 = .slice a l.length c ∧ e_ 1 = nv kk ∧ e_ 4 = iv 0 ∧ e_ 5 = nv j ∧ L_ = [Res.row (.slice a l.length c) 69 10 l.length ((Q ++ l.drop j).flatMap encX), Res.rows ((Q ++ l.drop j).flatMap rdsX)] ∧ k_ = l.length - j) _ ⟨0, k, [], by omega, rfl, rfl, rfl, rfl, rfl, rfl, rfl, rfl, rfl⟩ ?_
  rintro _ e_1 _ ⟨j, kk, Q, hj, hkk, hQ, hQl, he_2, he_3, he_4, he_5, rfl, rfl⟩
  refine jC <| jC <| jF <| jA (jD (v := nv j) he_5) <| jA (jD (v := .slice a l.length c) he_2) <| jA (jh kJ rfl) <| jA (jb rfl rfl) <| jE <| jB ?_
  by_cases h_6 : ((j : Nat) : Int) < ((l.length : Nat) : Int)
  · have hlt : j < l.length := by omega
    have hb : cntV cntX (l.take j) + cntX (l.getD j x0) ≤ cntV cntX l := cntV_le x0 hlt
    simp only [cntX] at hb
    refine JC.ghost (L' := [Res.row (.slice ((l.getD j x0).x.a0) ((l.getD j x0).t.calls.length) ((l.getD j x0).x.c0)) 97 6 (((l.getD j x0).t.calls).length) (((l.getD j x0).t.calls).flatMap encK), Res.row (.slice ((l.getD j x0).x.a1) ((l.getD j x0).t.ans.length) ((l.getD j x0).x.c1)) 99 3 (((l.getD j x0).t.ans).length) (((l.getD j x0).t.ans).flatMap encA), Res.row (.slice ((l.getD j x0).x.a2) ((l.getD j x0).t.rd.length) ((l.getD j x0).x.c2)) 9 1 (((l.getD j x0).t.rd).length) (((l.getD j x0).t.rd).map str), Res.row (.slice ((l.getD j x0).x.a3) ((l.getD j x0).t.wr.length) ((l.getD j x0).x.c3)) 9 1 (((l.getD j x0).t.wr).length) (((l.getD j x0).t.wr).map str), Res.row (.slice ((l.getD j x0).x.a4) ((l.getD j x0).t.marks.length) ((l.getD j x0).x.c4)) 3 1 (((l.getD j x0).t.marks).length) (((l.getD j x0).t.marks).map (Value.int .i64)), Res.rows (Q.flatMap rdsX), Res.rows ((l.drop (j + 1)).flatMap rdsX), Res.row (.slice a l.length c) 69 10 l.length (mid encX Q [iv ((l.getD j x0).t.id), iv ((l.getD j x0).t.age), iv ((l.getD j x0).t.proc), iv ((l.getD j x0).t.began), .slice ((l.getD j x0).x.a0) ((l.getD j x0).t.calls.length) ((l.getD j x0).x.c0), .slice ((l.getD j x0).x.a1) ((l.getD j x0).t.ans.length) ((l.getD j x0).x.c1), .slice ((l.getD j x0).x.a2) ((l.getD j x0).t.rd.length) ((l.getD j x0).x.c2), .slice ((l.getD j x0).x.a3) ((l.getD j x0).t.wr.length) ((l.getD j x0).x.c3), .slice ((l.getD j x0).x.a4) ((l.getD j x0).t.marks.length) ((l.getD j x0).x.c4), iv ((l.getD j x0).t.state)] (l.drop (j + 1)))]) (fun w hw => St.openR 1 rfl (St.splitR 1 rfl (flatMap_mid x0 hlt) (hw.midR 0 rfl x0 hlt))) <| jQ (cB (dT h_6)) <| jM <| jB <| jC <| jZ <| jC <| jF <| jA (jD (v := .slice a l.length c) he_2) <| jA (jD (v := nv j) he_5) ?_
    refine jA (jD (v := nv kk) he_3) ?_
    refine JL.facts fun hst => ?_
    obtain ⟨hr_7, hr_7b, -⟩ := row_some 7 rfl (by omega) hst
    refine jA (jV (i := j) kJ kL hr_7 hr_7b rfl rfl (by omega)) <| jA (jX fo69_0 hr_7 rfl) ?_
    refine jI rfl (ju 7 (vs := [nv kk]) (cs' := mid encX Q [nv kk, iv ((l.getD j x0).t.age), iv ((l.getD j x0).t.proc), iv ((l.getD j x0).t.began), .slice ((l.getD j x0).x.a0) ((l.getD j x0).t.calls.length) ((l.getD j x0).x.c0), .slice ((l.getD j x0).x.a1) ((l.getD j x0).t.ans.length) ((l.getD j x0).x.c1), .slice ((l.getD j x0).x.a2) ((l.getD j x0).t.rd.length) ((l.getD j x0).x.c2), .slice ((l.getD j x0).x.a3) ((l.getD j x0).t.wr.length) ((l.getD j x0).x.c3), .slice ((l.getD j x0).x.a4) ((l.getD j x0).t.marks.length) ((l.getD j x0).x.c4), iv ((l.getD j x0).t.state)] (l.drop (j + 1))) rfl rfl rfl rfl kK rfl rfl (by decide) (mid_fit encX_len rfl hQl (f := 0) (lb rfl)) (mid_set encX_len rfl hQl 0 [nv kk] (lb rfl))) ?_
    rintro _ _ rfl
    refine jE <| jB <| jC <| jF <| jA (jD (v := nv kk) he_3) <| jA (jT (c := ((kk + 1 : Nat) : Int)) rfl rfl (wr (by omega))) <| jA (jG (v := iv ((kk + 1 : Nat) : Int)) rfl) <| jE <| jB <| jC ?_
    refine jF <| jA (jD (v := .slice a l.length c) he_2) <| jA (jD (v := nv j) he_5) <| jA (jD (v := iv ((kk + 1 : Nat) : Int)) rfl) <| jA (jV (i := j) kJ kL hr_7 hr_7b rfl rfl (by omega)) <| jA (jX fo69_1 hr_7 rfl) ?_
    refine jI rfl (ju 7 (vs := [iv ((kk + 1 : Nat) : Int)]) (cs' := mid encX Q [nv kk, iv ((kk + 1 : Nat) : Int), iv ((l.getD j x0).t.proc), iv ((l.getD j x0).t.began), .slice ((l.getD j x0).x.a0) ((l.getD j x0).t.calls.length) ((l.getD j x0).x.c0), .slice ((l.getD j x0).x.a1) ((l.getD j x0).t.ans.length) ((l.getD j x0).x.c1), .slice ((l.getD j x0).x.a2) ((l.getD j x0).t.rd.length) ((l.getD j x0).x.c2), .slice ((l.getD j x0).x.a3) ((l.getD j x0).t.wr.length) ((l.getD j x0).x.c3), .slice ((l.getD j x0).x.a4) ((l.getD j x0).t.marks.length) ((l.getD j x0).x.c4), iv ((l.getD j x0).t.state)] (l.drop (j + 1))) rfl rfl rfl rfl kK rfl rfl (by decide) (mid_fit encX_len rfl hQl (f := 1) (lb rfl)) (mid_set encX_len rfl hQl 1 [iv ((kk + 1 : Nat) : Int)] (lb rfl))) ?_
    rintro _ _ rfl
    refine jE <| jB <| jC <| jF <| jA (jD (v := iv ((kk + 1 : Nat) : Int)) rfl) <| jA (jT (c := (((kk + 1) + 1 : Nat) : Int)) rfl rfl (wr (by omega))) <| jA (jG (v := iv (((kk + 1) + 1 : Nat) : Int)) rfl) <| jE <| jB <| jC ?_
    refine jF <| jA (jD (v := .slice a l.length c) he_2) <| jA (jD (v := nv j) he_5) <| jA (jD (v := iv (((kk + 1) + 1 : Nat) : Int)) rfl) <| jA (jV (i := j) kJ kL hr_7 hr_7b rfl rfl (by omega)) <| jA (jX fo69_2 hr_7 rfl) ?_
    refine jI rfl (ju 7 (vs := [iv (((kk + 1) + 1 : Nat) : Int)]) (cs' := mid encX Q [nv kk, iv ((kk + 1 : Nat) : Int), iv (((kk + 1) + 1 : Nat) : Int), iv ((l.getD j x0).t.began), .slice ((l.getD j x0).x.a0) ((l.getD j x0).t.calls.length) ((l.getD j x0).x.c0), .slice ((l.getD j x0).x.a1) ((l.getD j x0).t.ans.length) ((l.getD j x0).x.c1), .slice ((l.getD j x0).x.a2) ((l.getD j x0).t.rd.length) ((l.getD j x0).x.c2), .slice ((l.getD j x0).x.a3) ((l.getD j x0).t.wr.length) ((l.getD j x0).x.c3), .slice ((l.getD j x0).x.a4) ((l.getD j x0).t.marks.length) ((l.getD j x0).x.c4), iv ((l.getD j x0).t.state)] (l.drop (j + 1))) rfl rfl rfl rfl kK rfl rfl (by decide) (mid_fit encX_len rfl hQl (f := 2) (lb rfl)) (mid_set encX_len rfl hQl 2 [iv (((kk + 1) + 1 : Nat) : Int)] (lb rfl))) ?_
    rintro _ _ rfl
    refine jE <| jB <| jC <| jF <| jA (jD (v := iv (((kk + 1) + 1 : Nat) : Int)) rfl) <| jA (jT (c := ((((kk + 1) + 1) + 1 : Nat) : Int)) rfl rfl (wr (by omega))) <| jA (jG (v := iv ((((kk + 1) + 1) + 1 : Nat) : Int)) rfl) <| jE <| jB <| jC ?_
    refine jF <| jA (jD (v := .slice a l.length c) he_2) <| jA (jD (v := nv j) he_5) <| jA (jD (v := iv ((((kk + 1) + 1) + 1 : Nat) : Int)) rfl) <| jA (jV (i := j) kJ kL hr_7 hr_7b rfl rfl (by omega)) <| jA (jX fo69_3 hr_7 rfl) ?_
    refine jI rfl (ju 7 (vs := [iv ((((kk + 1) + 1) + 1 : Nat) : Int)]) (cs' := mid encX Q [nv kk, iv ((kk + 1 : Nat) : Int), iv (((kk + 1) + 1 : Nat) : Int), iv ((((kk + 1) + 1) + 1 : Nat) : Int), .slice ((l.getD j x0).x.a0) ((l.getD j x0).t.calls.length) ((l.getD j x0).x.c0), .slice ((l.getD j x0).x.a1) ((l.getD j x0).t.ans.length) ((l.getD j x0).x.c1), .slice ((l.getD j x0).x.a2) ((l.getD j x0).t.rd.length) ((l.getD j x0).x.c2), .slice ((l.getD j x0).x.a3) ((l.getD j x0).t.wr.length) ((l.getD j x0).x.c3), .slice ((l.getD j x0).x.a4) ((l.getD j x0).t.marks.length) ((l.getD j x0).x.c4), iv ((l.getD j x0).t.state)] (l.drop (j + 1))) rfl rfl rfl rfl kK rfl rfl (by decide) (mid_fit encX_len rfl hQl (f := 3) (lb rfl)) (mid_set encX_len rfl hQl 3 [iv ((((kk + 1) + 1) + 1 : Nat) : Int)] (lb rfl))) ?_
    rintro _ _ rfl
    refine jE <| jB <| jC <| jF <| jA (jD (v := iv ((((kk + 1) + 1) + 1 : Nat) : Int)) rfl) <| jA (jT (c := (((((kk + 1) + 1) + 1) + 1 : Nat) : Int)) rfl rfl (wr (by omega))) <| jA (jG (v := iv (((((kk + 1) + 1) + 1) + 1 : Nat) : Int)) rfl) <| jE <| jB <| jC ?_
    refine jF <| jA (jD (v := .slice a l.length c) he_2) <| jA (jD (v := nv j) he_5) <| jA (jV (i := j) kJ kL hr_7 hr_7b rfl rfl (by omega)) <| jA (jX fo69_4 hr_7 rfl) <| jP (LO.loadR1 7 (v := .slice ((l.getD j x0).x.a0) ((l.getD j x0).t.calls.length) ((l.getD j x0).x.c0)) rfl rfl Tryz.isAgg65 (mid_at encX_len rfl hQl 4 (by decide))) <| jA (jD (v := iv (((((kk + 1) + 1) + 1) + 1 : Nat) : Int)) rfl) ?_
    refine jI rfl (jR [0] Tryz.call38 rfl (C_markCallS (l.getD j x0).x.a0 ((l.getD j x0).x.c0) ((l.getD j x0).t.calls) ((((kk + 1) + 1) + 1) + 1) (by omega) (by omega)) rfl (fun _ _ => trivial)) ?_
    rintro _ _ ⟨_, ⟨rfl, rfl⟩, rfl⟩
    refine jA (jG (v := iv (((((kk + 1) + 1) + 1) + 1 + 6 * ((l.getD j x0).t.calls).length : Nat) : Int)) rfl) <| jE <| jB <| jC <| jF <| jA (jD (v := .slice a l.length c) he_2) <| jA (jD (v := nv j) he_5) <| jA (jV (i := j) kJ kL hr_7 hr_7b rfl rfl (by omega)) <| jA (jX fo69_5 hr_7 rfl) <| jP (LO.loadR1 7 (v := .slice ((l.getD j x0).x.a1) ((l.getD j x0).t.ans.length) ((l.getD j x0).x.c1)) rfl rfl Tryz.isAgg66 (mid_at encX_len rfl hQl 5 (by decide))) ?_
    refine jA (jD (v := iv (((((kk + 1) + 1) + 1) + 1 + 6 * ((l.getD j x0).t.calls).length : Nat) : Int)) rfl) ?_
    refine jI rfl (jR [1] Tryz.call39 rfl (C_markAnswerS (l.getD j x0).x.a1 ((l.getD j x0).x.c1) ((l.getD j x0).t.ans) ((((kk + 1) + 1) + 1) + 1 + 6 * ((l.getD j x0).t.calls).length) (by omega) (by omega)) rfl (fun _ _ => trivial)) ?_
    rintro _ _ ⟨_, ⟨rfl, rfl⟩, rfl⟩
    refine jA (jG (v := iv (((((kk + 1) + 1) + 1) + 1 + 6 * ((l.getD j x0).t.calls).length + 3 * ((l.getD j x0).t.ans).length : Nat) : Int)) rfl) <| jE <| jB <| jC <| jF <| jA (jD (v := .slice a l.length c) he_2) <| jA (jD (v := nv j) he_5) <| jA (jV (i := j) kJ kL hr_7 hr_7b rfl rfl (by omega)) <| jA (jX fo69_6 hr_7 rfl) <| jA (jX fo50_0 hr_7 rfl) ?_
    refine jP (LO.loadR1 7 (v := .slice ((l.getD j x0).x.a2) ((l.getD j x0).t.rd.length) ((l.getD j x0).x.c2)) rfl rfl kT (mid_at encX_len rfl hQl 6 (by decide))) <| jA (jD (v := iv (((((kk + 1) + 1) + 1) + 1 + 6 * ((l.getD j x0).t.calls).length + 3 * ((l.getD j x0).t.ans).length : Nat) : Int)) rfl) ?_
    refine jI rfl (jR [2] Tryz.call22 rfl (C_markStringS (l.getD j x0).x.a2 ((l.getD j x0).x.c2) ((l.getD j x0).t.rd) ((((kk + 1) + 1) + 1) + 1 + 6 * ((l.getD j x0).t.calls).length + 3 * ((l.getD j x0).t.ans).length) (by omega) (by omega)) rfl (fun _ _ => trivial)) ?_
    rintro _ _ ⟨_, ⟨rfl, rfl⟩, rfl⟩
    refine jA (jG (v := iv (((((kk + 1) + 1) + 1) + 1 + 6 * ((l.getD j x0).t.calls).length + 3 * ((l.getD j x0).t.ans).length + ((l.getD j x0).t.rd).length : Nat) : Int)) rfl) <| jE <| jB <| jC <| jF <| jA (jD (v := .slice a l.length c) he_2) <| jA (jD (v := nv j) he_5) <| jA (jV (i := j) kJ kL hr_7 hr_7b rfl rfl (by omega)) <| jA (jX fo69_6 hr_7 rfl) <| jA (jX fo50_1 hr_7 rfl) ?_
    refine jP (LO.loadR1 7 (v := .slice ((l.getD j x0).x.a3) ((l.getD j x0).t.wr.length) ((l.getD j x0).x.c3)) rfl rfl kT (mid_at encX_len rfl hQl 7 (by decide))) <| jA (jD (v := iv (((((kk + 1) + 1) + 1) + 1 + 6 * ((l.getD j x0).t.calls).length + 3 * ((l.getD j x0).t.ans).length + ((l.getD j x0).t.rd).length : Nat) : Int)) rfl) ?_
    refine jI rfl (jR [3] Tryz.call22 rfl (C_markStringS (l.getD j x0).x.a3 ((l.getD j x0).x.c3) ((l.getD j x0).t.wr) ((((kk + 1) + 1) + 1) + 1 + 6 * ((l.getD j x0).t.calls).length + 3 * ((l.getD j x0).t.ans).length + ((l.getD j x0).t.rd).length) (by omega) (by omega)) rfl (fun _ _ => trivial)) ?_
    rintro _ _ ⟨_, ⟨rfl, rfl⟩, rfl⟩
    refine jA (jG (v := iv (((((kk + 1) + 1) + 1) + 1 + 6 * ((l.getD j x0).t.calls).length + 3 * ((l.getD j x0).t.ans).length + ((l.getD j x0).t.rd).length + ((l.getD j x0).t.wr).length : Nat) : Int)) rfl) <| jE <| jB <| jC <| jF <| jA (jD (v := .slice a l.length c) he_2) <| jA (jD (v := nv j) he_5) <| jA (jV (i := j) kJ kL hr_7 hr_7b rfl rfl (by omega)) <| jA (jX fo69_7 hr_7 rfl) <| jP (LO.loadR1 7 (v := .slice ((l.getD j x0).x.a4) ((l.getD j x0).t.marks.length) ((l.getD j x0).x.c4)) rfl rfl Tryz.isAgg67 (mid_at encX_len rfl hQl 8 (by decide))) ?_
    refine jA (jD (v := iv (((((kk + 1) + 1) + 1) + 1 + 6 * ((l.getD j x0).t.calls).length + 3 * ((l.getD j x0).t.ans).length + ((l.getD j x0).t.rd).length + ((l.getD j x0).t.wr).length : Nat) : Int)) rfl) ?_
    refine jI rfl (jR [4] Tryz.call40 rfl (Y_markIntS (l.getD j x0).x.a4 ((l.getD j x0).x.c4) ((l.getD j x0).t.marks) ((((kk + 1) + 1) + 1) + 1 + 6 * ((l.getD j x0).t.calls).length + 3 * ((l.getD j x0).t.ans).length + ((l.getD j x0).t.rd).length + ((l.getD j x0).t.wr).length) (by omega) (by omega)) rfl (fun _ _ => trivial)) ?_
    rintro _ _ ⟨_, ⟨rfl, rfl⟩, rfl⟩
    refine jA (jG (v := iv (((((kk + 1) + 1) + 1) + 1 + 6 * ((l.getD j x0).t.calls).length + 3 * ((l.getD j x0).t.ans).length + ((l.getD j x0).t.rd).length + ((l.getD j x0).t.wr).length + 1 * ((l.getD j x0).t.marks).length : Nat) : Int)) rfl) <| jE <| jB <| jC <| jF <| jA (jD (v := .slice a l.length c) he_2) <| jA (jD (v := nv j) he_5) <| jA (jD (v := iv (((((kk + 1) + 1) + 1) + 1 + 6 * ((l.getD j x0).t.calls).length + 3 * ((l.getD j x0).t.ans).length + ((l.getD j x0).t.rd).length + ((l.getD j x0).t.wr).length + 1 * ((l.getD j x0).t.marks).length : Nat) : Int)) rfl) <| jA (jV (i := j) kJ kL hr_7 hr_7b rfl rfl (by omega)) <| jA (jX fo69_8 hr_7 rfl) ?_
    refine jI rfl (ju 7 (vs := [iv (((((kk + 1) + 1) + 1) + 1 + 6 * ((l.getD j x0).t.calls).length + 3 * ((l.getD j x0).t.ans).length + ((l.getD j x0).t.rd).length + ((l.getD j x0).t.wr).length + 1 * ((l.getD j x0).t.marks).length : Nat) : Int)]) (cs' := mid encX Q [nv kk, iv ((kk + 1 : Nat) : Int), iv (((kk + 1) + 1 : Nat) : Int), iv ((((kk + 1) + 1) + 1 : Nat) : Int), .slice ((l.getD j x0).x.a0) ((l.getD j x0).t.calls.length) ((l.getD j x0).x.c0), .slice ((l.getD j x0).x.a1) ((l.getD j x0).t.ans.length) ((l.getD j x0).x.c1), .slice ((l.getD j x0).x.a2) ((l.getD j x0).t.rd.length) ((l.getD j x0).x.c2), .slice ((l.getD j x0).x.a3) ((l.getD j x0).t.wr.length) ((l.getD j x0).x.c3), .slice ((l.getD j x0).x.a4) ((l.getD j x0).t.marks.length) ((l.getD j x0).x.c4), iv (((((kk + 1) + 1) + 1) + 1 + 6 * ((l.getD j x0).t.calls).length + 3 * ((l.getD j x0).t.ans).length + ((l.getD j x0).t.rd).length + ((l.getD j x0).t.wr).length + 1 * ((l.getD j x0).t.marks).length : Nat) : Int)] (l.drop (j + 1))) rfl rfl rfl rfl kK rfl rfl (by decide) (mid_fit encX_len rfl hQl (f := 9) (lb rfl)) (mid_set encX_len rfl hQl 9 [iv (((((kk + 1) + 1) + 1) + 1 + 6 * ((l.getD j x0).t.calls).length + 3 * ((l.getD j x0).t.ans).length + ((l.getD j x0).t.rd).length + ((l.getD j x0).t.wr).length + 1 * ((l.getD j x0).t.marks).length : Nat) : Int)] (lb rfl))) ?_
    rintro _ _ rfl
    refine jE <| jB <| jF <| jA (jD (v := iv (((((kk + 1) + 1) + 1) + 1 + 6 * ((l.getD j x0).t.calls).length + 3 * ((l.getD j x0).t.ans).length + ((l.getD j x0).t.rd).length + ((l.getD j x0).t.wr).length + 1 * ((l.getD j x0).t.marks).length : Nat) : Int)) rfl) <| jA (jT (c := ((((((kk + 1) + 1) + 1) + 1 + 6 * ((l.getD j x0).t.calls).length + 3 * ((l.getD j x0).t.ans).length + ((l.getD j x0).t.rd).length + ((l.getD j x0).t.wr).length + 1 * ((l.getD j x0).t.marks).length) + 1 : Nat) : Int)) rfl rfl (wr (by omega))) <| jA (jG (v := iv ((((((kk + 1) + 1) + 1) + 1 + 6 * ((l.getD j x0).t.calls).length + 3 * ((l.getD j x0).t.ans).length + ((l.getD j x0).t.rd).length + ((l.getD j x0).t.wr).length + 1 * ((l.getD j x0).t.marks).length) + 1 : Nat) : Int)) rfl) <| jE <| jk <| jB <| jF ?_
    refine jA (jD (v := nv j) he_5) <| jA (jT (c := ((j + 1 : Nat) : Int)) rfl rfl (wr (by omega))) <| jA (jG (v := iv ((j + 1 : Nat) : Int)) rfl) <| jE <| kC (L' := [Res.rows (((Q ++ [mkX (l.getD j x0) kk]) ++ l.drop (j + 1)).flatMap rdsX), Res.row (.slice a l.length c) 69 10 l.length (((Q ++ [mkX (l.getD j x0) kk]) ++ l.drop (j + 1)).flatMap encX)]) (fun w hw => St.joinR [2, 0, 1] rfl (by rw [flatMap_mid2, rdsX_mk]) (St.closeR (A := ([⟨.slice ((l.getD j x0).x.a0) ((l.getD j x0).t.calls.length) ((l.getD j x0).x.c0), 97, 6, ((l.getD j x0).t.calls).length, (markG mkK 6 ((l.getD j x0).t.calls) ((((kk + 1) + 1) + 1) + 1)).flatMap encK⟩, ⟨.slice ((l.getD j x0).x.a1) ((l.getD j x0).t.ans.length) ((l.getD j x0).x.c1), 99, 3, ((l.getD j x0).t.ans).length, (markG mkA 3 ((l.getD j x0).t.ans) ((((kk + 1) + 1) + 1) + 1 + 6 * ((l.getD j x0).t.calls).length)).flatMap encA⟩, ⟨.slice ((l.getD j x0).x.a2) ((l.getD j x0).t.rd.length) ((l.getD j x0).x.c2), 9, 1, ((l.getD j x0).t.rd).length, (markS ((l.getD j x0).t.rd) ((((kk + 1) + 1) + 1) + 1 + 6 * ((l.getD j x0).t.calls).length + 3 * ((l.getD j x0).t.ans).length)).map str⟩, ⟨.slice ((l.getD j x0).x.a3) ((l.getD j x0).t.wr.length) ((l.getD j x0).x.c3), 9, 1, ((l.getD j x0).t.wr).length, (markS ((l.getD j x0).t.wr) ((((kk + 1) + 1) + 1) + 1 + 6 * ((l.getD j x0).t.calls).length + 3 * ((l.getD j x0).t.ans).length + ((l.getD j x0).t.rd).length)).map str⟩, ⟨.slice ((l.getD j x0).x.a4) ((l.getD j x0).t.marks.length) ((l.getD j x0).x.c4), 3, 1, ((l.getD j x0).t.marks).length, (markG mkI 1 ((l.getD j x0).t.marks) ((((kk + 1) + 1) + 1) + 1 + 6 * ((l.getD j x0).t.calls).length + 3 * ((l.getD j x0).t.ans).length + ((l.getD j x0).t.rd).length + ((l.getD j x0).t.wr).length)).map (Value.int .i64)⟩] : List RD)) [5, 4, 3, 2, 1] rfl (hw.unmid 7 rfl (q := mkX (l.getD j x0) kk) (encX_mk _ _)))) <| JQ.pick [1, 0] (A := [Res.row (.slice a l.length c) 69 10 l.length (((Q ++ [mkX (l.getD j x0) kk]) ++ l.drop (j + 1)).flatMap encX), Res.rows (((Q ++ [mkX (l.getD j x0) kk]) ++ l.drop (j + 1)).flatMap rdsX)]) rfl ?_
    refine jl (l.length - (j + 1)) (by omega) ⟨j + 1, ((((kk + 1) + 1) + 1) + 1 + 6 * ((l.getD j x0).t.calls).length + 3 * ((l.getD j x0).t.ans).length + ((l.getD j x0).t.rd).length + ((l.getD j x0).t.wr).length + 1 * ((l.getD j x0).t.marks).length) + 1, (Q ++ [mkX (l.getD j x0) kk]), by omega, (by rw [cntV_step x0 hlt]; simp only [cntX]; omega), (by rw [markV_step x0 hlt, ← hQ, ← hkk]), (by rw [List.length_append, hQl]; rfl), he_2, rfl, he_4, rfl, rfl, rfl⟩
  refine jL (cB (dF h_6)) <| jm <| jY <| jY <| jn <| jB <| jC <| jF <| jA (jD (v := nv kk) he_3) <| jA (jG (v := nv kk) rfl) ?_
  refine jE <| jB <| jK ?_
  have hz : Q ++ l.drop j = markV mkX cntX l k := by rw [hQ, List.drop_of_length_le (by omega), List.append_nil, markV_all (by omega)]
  refine kC (L' := [Res.row (.slice a ((markV mkX cntX l k).length) c) 69 10 ((markV mkX cntX l k).length) ((markV mkX cntX l k).flatMap encX), Res.rows ((markV mkX cntX l k).flatMap rdsX)]) (fun w hw => hw.eqL (by rw [hz, markV_len])) <| kC (L' := [Res.rows (rdsXS a c (markV mkX cntX l k))]) (fun w hw => hw.consR (r := ⟨.slice a ((markV mkX cntX l k).length) c, 69, 10, (markV mkX cntX l k).length, (markV mkX cntX l k).flatMap encX⟩) (A := (markV mkX cntX l k).flatMap rdsX) [0, 0] rfl) <| jN (.inl rfl) rfl (jJ (v := nv kk) rfl) (List.Sublist.refl _) ?_
  exact ⟨by rw [hkk, cntV_all (by omega)], rfl⟩

set_option maxRecDepth 4000 in
set_option maxHeartbeats 1000000 in
theorem C_heldTxS (a : Option Addr) (c : Nat) (l : List TX) (k : Nat) (h0 : 0 < k) (h1 : k + cntV cntX l ≤ 100000000) (hn : l.length ≤ 1000000000) :
    Ct Tryz.prog 24 [.slice a l.length c, .int .i64 ((k : Nat) : Int)] [] (fun w => SeesA w (rdsXS a c (markV mkX cntX l k))) (fun v A' => v = .int .i64 ((k + cntV cntX l : Nat) : Int) ∧ A' = []) := by
  refine Ct.intro Tryz.func24 rfl Tryz.ntmps24 (lb rfl) fun w0 hpre => ?_
  have hs : Sees w0 (.slice a l.length c) 10 l.length ((markV mkX cntX l k).flatMap encX) := by have h := hpre.head; simpa only [RD.sees, markV_len] using h
  have hi : SeesA w0 ((markV mkX cntX l k).flatMap rdsX) := hpre.tail
  refine jC <| jF <| jA (jG (v := iv 0) rfl) <| jE <| jB <| jC <| jC <| jF <| jA (jG (v := iv 0) rfl) <| jE ?_
  refine jB <| jZ <| jo (fun k_ e_ L_ => ∃ j : Nat, ∃ kk : Nat, (j ≤ l.length) ∧ (kk = k + cntV cntX (l.take j)) ∧ e_ 0 = .slice a l.length c ∧ e_ 1 = nv kk ∧ e_ 5 = nv j ∧ L_ = [] ∧ k_ = l.length - j) _ ⟨0, k, by omega, rfl, rfl, rfl, rfl, rfl, rfl⟩ ?_
  rintro _ e_1 _ ⟨j, kk, hj, hkk, he_2, he_3, he_4, rfl, rfl⟩
  refine jC <| jC <| jF <| jA (jD (v := nv j) he_4) <| jA (jD (v := .slice a l.length c) he_2) <| jA (jh kJ rfl) <| jA (jb rfl rfl) <| jE <| jB ?_
  by_cases h_5 : ((j : Nat) : Int) < ((l.length : Nat) : Int)
  · have hlt : j < l.length := by omega
    have hb : cntV cntX (l.take j) + cntX (l.getD j x0) ≤ cntV cntX l := cntV_le x0 hlt
    simp only [cntX] at hb
    have hget : (markV mkX cntX l k).getD j x0 = mkX (l.getD j x0) kk := by rw [markV_get x0 l k j hlt, ← hkk]
    have hin := SeesA.elem hi x0 (show j < (markV mkX cntX l k).length by rw [markV_len]; exact hlt)
    rw [hget] at hin
    obtain ⟨hs_6, hs_7, hs_8, hs_9, hs_10⟩ := seesX_mk' hin
    refine jQ (cB (dT h_5)) <| jM <| jB <| jC <| jZ <| jC <| jC <| jF <| jA (jD (v := .slice a l.length c) he_2) <| jA (jD (v := nv j) he_4) ?_
    obtain ⟨hr_11, hr_11b, -⟩ := sees_some hs (by omega)
    refine jA (jV (i := j) kJ kL hr_11 hr_11b rfl rfl (by omega)) <| jA (jX fo69_0 hr_11 rfl) <| jP (ji (v := nv kk) hs nM rfl kE (flat_atE encX_len x0 (markV mkX cntX l k) j 0 (by rw [markV_len]; exact hlt) (by decide) hget (encX_mk _ _))) <| jA (jD (v := nv kk) he_3) <| jA (jf rfl rfl) <| jE <| jB <| jL (cB (cN (dT rfl))) <| jM <| jB ?_
    refine jC <| jF <| jA (jD (v := nv kk) he_3) <| jA (jT (c := ((kk + 1 : Nat) : Int)) rfl rfl (wr (by omega))) <| jA (jG (v := iv ((kk + 1 : Nat) : Int)) rfl) <| jE <| jB <| jC <| jC <| jF ?_
    refine jA (jD (v := .slice a l.length c) he_2) <| jA (jD (v := nv j) he_4) <| jA (jV (i := j) kJ kL hr_11 hr_11b rfl rfl (by omega)) <| jA (jX fo69_1 hr_11 rfl) <| jP (ji (v := iv ((kk + 1 : Nat) : Int)) hs nM rfl kE (flat_atE encX_len x0 (markV mkX cntX l k) j 1 (by rw [markV_len]; exact hlt) (by decide) hget (encX_mk _ _))) <| jA (jD (v := iv ((kk + 1 : Nat) : Int)) rfl) <| jA (jf rfl rfl) <| jE <| jB <| jL (cB (cN (dT rfl))) ?_
    refine jM <| jB <| jC <| jF <| jA (jD (v := iv ((kk + 1 : Nat) : Int)) rfl) <| jA (jT (c := (((kk + 1) + 1 : Nat) : Int)) rfl rfl (wr (by omega))) <| jA (jG (v := iv (((kk + 1) + 1 : Nat) : Int)) rfl) <| jE <| jB <| jC ?_
    refine jC <| jF <| jA (jD (v := .slice a l.length c) he_2) <| jA (jD (v := nv j) he_4) <| jA (jV (i := j) kJ kL hr_11 hr_11b rfl rfl (by omega)) <| jA (jX fo69_2 hr_11 rfl) <| jP (ji (v := iv (((kk + 1) + 1 : Nat) : Int)) hs nM rfl kE (flat_atE encX_len x0 (markV mkX cntX l k) j 2 (by rw [markV_len]; exact hlt) (by decide) hget (encX_mk _ _))) <| jA (jD (v := iv (((kk + 1) + 1 : Nat) : Int)) rfl) <| jA (jf rfl rfl) <| jE ?_
    refine jB <| jL (cB (cN (dT rfl))) <| jM <| jB <| jC <| jF <| jA (jD (v := iv (((kk + 1) + 1 : Nat) : Int)) rfl) <| jA (jT (c := ((((kk + 1) + 1) + 1 : Nat) : Int)) rfl rfl (wr (by omega))) <| jA (jG (v := iv ((((kk + 1) + 1) + 1 : Nat) : Int)) rfl) <| jE ?_
    refine jB <| jC <| jC <| jF <| jA (jD (v := .slice a l.length c) he_2) <| jA (jD (v := nv j) he_4) <| jA (jV (i := j) kJ kL hr_11 hr_11b rfl rfl (by omega)) <| jA (jX fo69_3 hr_11 rfl) <| jP (ji (v := iv ((((kk + 1) + 1) + 1 : Nat) : Int)) hs nM rfl kE (flat_atE encX_len x0 (markV mkX cntX l k) j 3 (by rw [markV_len]; exact hlt) (by decide) hget (encX_mk _ _))) <| jA (jD (v := iv ((((kk + 1) + 1) + 1 : Nat) : Int)) rfl) ?_
    refine jA (jf rfl rfl) <| jE <| jB <| jL (cB (cN (dT rfl))) <| jM <| jB <| jC <| jF <| jA (jD (v := iv ((((kk + 1) + 1) + 1 : Nat) : Int)) rfl) <| jA (jT (c := (((((kk + 1) + 1) + 1) + 1 : Nat) : Int)) rfl rfl (wr (by omega))) ?_
    refine jA (jG (v := iv (((((kk + 1) + 1) + 1) + 1 : Nat) : Int)) rfl) <| jE <| jB <| jC <| jF <| jA (jD (v := .slice a l.length c) he_2) <| jA (jD (v := nv j) he_4) <| jA (jV (i := j) kJ kL hr_11 hr_11b rfl rfl (by omega)) <| jA (jX fo69_4 hr_11 rfl) <| jP (ji (v := .slice ((l.getD j x0).x.a0) ((l.getD j x0).t.calls.length) ((l.getD j x0).x.c0)) hs nM rfl Tryz.isAgg65 (flat_atE encX_len x0 (markV mkX cntX l k) j 4 (by rw [markV_len]; exact hlt) (by decide) hget (encX_mk _ _))) ?_
    refine jA (jD (v := iv (((((kk + 1) + 1) + 1) + 1 : Nat) : Int)) rfl) ?_
    refine jI rfl (jR [] Tryz.call43 rfl (C_heldCallS (l.getD j x0).x.a0 ((l.getD j x0).x.c0) ((l.getD j x0).t.calls) ((((kk + 1) + 1) + 1) + 1) (by omega) (by omega)) rfl (fun w hw => hw.seeOut_ hs_6 nM)) ?_
    rintro _ _ ⟨_, ⟨rfl, rfl⟩, rfl⟩
    refine jA (jG (v := iv (((((kk + 1) + 1) + 1) + 1 + 6 * ((l.getD j x0).t.calls).length : Nat) : Int)) rfl) <| jE <| jB <| jC <| jC <| jF <| jA (jD (v := iv (((((kk + 1) + 1) + 1) + 1 + 6 * ((l.getD j x0).t.calls).length : Nat) : Int)) rfl) <| jA (jb rfl rfl) <| jE <| jB ?_
    by_cases h_12 : (((((kk + 1) + 1) + 1) + 1 + 6 * ((l.getD j x0).t.calls).length : Nat) : Int) < 0
    · refine jQ (cB (dT h_12)) <| jC <| jF <| jA (jG (v := iv (-1)) rfl) <| jE <| jB <| jK <| jO <| je <| jO ?_
      refine jO <| je <| jO <| jN (.inl rfl) rfl (jJ (v := iv (-1)) rfl) (List.nil_sublist _) ?_
      exfalso
      omega
    refine jL (cB (dF h_12)) <| jM <| jB <| jC <| jF <| jA (jD (v := .slice a l.length c) he_2) <| jA (jD (v := nv j) he_4) <| jA (jV (i := j) kJ kL hr_11 hr_11b rfl rfl (by omega)) <| jA (jX fo69_5 hr_11 rfl) <| jP (ji (v := .slice ((l.getD j x0).x.a1) ((l.getD j x0).t.ans.length) ((l.getD j x0).x.c1)) hs nM rfl Tryz.isAgg66 (flat_atE encX_len x0 (markV mkX cntX l k) j 5 (by rw [markV_len]; exact hlt) (by decide) hget (encX_mk _ _))) ?_
    refine jA (jD (v := iv (((((kk + 1) + 1) + 1) + 1 + 6 * ((l.getD j x0).t.calls).length : Nat) : Int)) rfl) ?_
    refine jI rfl (jR [] Tryz.call44 rfl (C_heldAnswerS (l.getD j x0).x.a1 ((l.getD j x0).x.c1) ((l.getD j x0).t.ans) ((((kk + 1) + 1) + 1) + 1 + 6 * ((l.getD j x0).t.calls).length) (by omega) (by omega)) rfl (fun w hw => hw.seeOut_ hs_7 nM)) ?_
    rintro _ _ ⟨_, ⟨rfl, rfl⟩, rfl⟩
    refine jA (jG (v := iv (((((kk + 1) + 1) + 1) + 1 + 6 * ((l.getD j x0).t.calls).length + 3 * ((l.getD j x0).t.ans).length : Nat) : Int)) rfl) <| jE <| jB <| jC <| jC <| jF <| jA (jD (v := iv (((((kk + 1) + 1) + 1) + 1 + 6 * ((l.getD j x0).t.calls).length + 3 * ((l.getD j x0).t.ans).length : Nat) : Int)) rfl) <| jA (jb rfl rfl) <| jE <| jB ?_
    by_cases h_13 : (((((kk + 1) + 1) + 1) + 1 + 6 * ((l.getD j x0).t.calls).length + 3 * ((l.getD j x0).t.ans).length : Nat) : Int) < 0
    · refine jQ (cB (dT h_13)) <| jC <| jF <| jA (jG (v := iv (-1)) rfl) <| jE <| jB <| jK <| jO <| je <| jO ?_
      refine jO <| je <| jO <| jN (.inl rfl) rfl (jJ (v := iv (-1)) rfl) (List.nil_sublist _) ?_
      exfalso
      omega
    refine jL (cB (dF h_13)) <| jM <| jB <| jC <| jF <| jA (jD (v := .slice a l.length c) he_2) <| jA (jD (v := nv j) he_4) <| jA (jV (i := j) kJ kL hr_11 hr_11b rfl rfl (by omega)) <| jA (jX fo69_6 hr_11 rfl) <| jA (jX fo50_0 hr_11 rfl) ?_
    refine jP (ji (v := .slice ((l.getD j x0).x.a2) ((l.getD j x0).t.rd.length) ((l.getD j x0).x.c2)) hs nM rfl kT (flat_atE encX_len x0 (markV mkX cntX l k) j 6 (by rw [markV_len]; exact hlt) (by decide) hget (encX_mk _ _))) <| jA (jD (v := iv (((((kk + 1) + 1) + 1) + 1 + 6 * ((l.getD j x0).t.calls).length + 3 * ((l.getD j x0).t.ans).length : Nat) : Int)) rfl) ?_
    refine jI rfl (jR [] Tryz.call27 rfl (Y_heldStringS (l.getD j x0).x.a2 ((l.getD j x0).x.c2) ((l.getD j x0).t.rd) ((((kk + 1) + 1) + 1) + 1 + 6 * ((l.getD j x0).t.calls).length + 3 * ((l.getD j x0).t.ans).length) (by omega) (by omega)) rfl (fun w hw => hw.seeOut_ hs_8 nM)) ?_
    rintro _ _ ⟨_, ⟨rfl, rfl⟩, rfl⟩
    refine jA (jG (v := iv (((((kk + 1) + 1) + 1) + 1 + 6 * ((l.getD j x0).t.calls).length + 3 * ((l.getD j x0).t.ans).length + ((l.getD j x0).t.rd).length : Nat) : Int)) rfl) <| jE <| jB <| jC <| jC <| jF <| jA (jD (v := iv (((((kk + 1) + 1) + 1) + 1 + 6 * ((l.getD j x0).t.calls).length + 3 * ((l.getD j x0).t.ans).length + ((l.getD j x0).t.rd).length : Nat) : Int)) rfl) <| jA (jb rfl rfl) <| jE <| jB ?_
    by_cases h_14 : (((((kk + 1) + 1) + 1) + 1 + 6 * ((l.getD j x0).t.calls).length + 3 * ((l.getD j x0).t.ans).length + ((l.getD j x0).t.rd).length : Nat) : Int) < 0
    · refine jQ (cB (dT h_14)) <| jC <| jF <| jA (jG (v := iv (-1)) rfl) <| jE <| jB <| jK <| jO <| je <| jO ?_
      refine jO <| je <| jO <| jN (.inl rfl) rfl (jJ (v := iv (-1)) rfl) (List.nil_sublist _) ?_
      exfalso
      omega
    refine jL (cB (dF h_14)) <| jM <| jB <| jC <| jF <| jA (jD (v := .slice a l.length c) he_2) <| jA (jD (v := nv j) he_4) <| jA (jV (i := j) kJ kL hr_11 hr_11b rfl rfl (by omega)) <| jA (jX fo69_6 hr_11 rfl) <| jA (jX fo50_1 hr_11 rfl) ?_
    refine jP (ji (v := .slice ((l.getD j x0).x.a3) ((l.getD j x0).t.wr.length) ((l.getD j x0).x.c3)) hs nM rfl kT (flat_atE encX_len x0 (markV mkX cntX l k) j 7 (by rw [markV_len]; exact hlt) (by decide) hget (encX_mk _ _))) <| jA (jD (v := iv (((((kk + 1) + 1) + 1) + 1 + 6 * ((l.getD j x0).t.calls).length + 3 * ((l.getD j x0).t.ans).length + ((l.getD j x0).t.rd).length : Nat) : Int)) rfl) ?_
    refine jI rfl (jR [] Tryz.call27 rfl (Y_heldStringS (l.getD j x0).x.a3 ((l.getD j x0).x.c3) ((l.getD j x0).t.wr) ((((kk + 1) + 1) + 1) + 1 + 6 * ((l.getD j x0).t.calls).length + 3 * ((l.getD j x0).t.ans).length + ((l.getD j x0).t.rd).length) (by omega) (by omega)) rfl (fun w hw => hw.seeOut_ hs_9 nM)) ?_
    rintro _ _ ⟨_, ⟨rfl, rfl⟩, rfl⟩
    refine jA (jG (v := iv (((((kk + 1) + 1) + 1) + 1 + 6 * ((l.getD j x0).t.calls).length + 3 * ((l.getD j x0).t.ans).length + ((l.getD j x0).t.rd).length + ((l.getD j x0).t.wr).length : Nat) : Int)) rfl) <| jE <| jB <| jC <| jC <| jF <| jA (jD (v := iv (((((kk + 1) + 1) + 1) + 1 + 6 * ((l.getD j x0).t.calls).length + 3 * ((l.getD j x0).t.ans).length + ((l.getD j x0).t.rd).length + ((l.getD j x0).t.wr).length : Nat) : Int)) rfl) <| jA (jb rfl rfl) <| jE <| jB ?_
    by_cases h_15 : (((((kk + 1) + 1) + 1) + 1 + 6 * ((l.getD j x0).t.calls).length + 3 * ((l.getD j x0).t.ans).length + ((l.getD j x0).t.rd).length + ((l.getD j x0).t.wr).length : Nat) : Int) < 0
    · refine jQ (cB (dT h_15)) <| jC <| jF <| jA (jG (v := iv (-1)) rfl) <| jE <| jB <| jK <| jO <| je <| jO ?_
      refine jO <| je <| jO <| jN (.inl rfl) rfl (jJ (v := iv (-1)) rfl) (List.nil_sublist _) ?_
      exfalso
      omega
    refine jL (cB (dF h_15)) <| jM <| jB <| jC <| jF <| jA (jD (v := .slice a l.length c) he_2) <| jA (jD (v := nv j) he_4) <| jA (jV (i := j) kJ kL hr_11 hr_11b rfl rfl (by omega)) <| jA (jX fo69_7 hr_11 rfl) <| jP (ji (v := .slice ((l.getD j x0).x.a4) ((l.getD j x0).t.marks.length) ((l.getD j x0).x.c4)) hs nM rfl Tryz.isAgg67 (flat_atE encX_len x0 (markV mkX cntX l k) j 8 (by rw [markV_len]; exact hlt) (by decide) hget (encX_mk _ _))) ?_
    refine jA (jD (v := iv (((((kk + 1) + 1) + 1) + 1 + 6 * ((l.getD j x0).t.calls).length + 3 * ((l.getD j x0).t.ans).length + ((l.getD j x0).t.rd).length + ((l.getD j x0).t.wr).length : Nat) : Int)) rfl) ?_
    refine jI rfl (jR [] Tryz.call45 rfl (Y_heldIntS (l.getD j x0).x.a4 ((l.getD j x0).x.c4) ((l.getD j x0).t.marks) ((((kk + 1) + 1) + 1) + 1 + 6 * ((l.getD j x0).t.calls).length + 3 * ((l.getD j x0).t.ans).length + ((l.getD j x0).t.rd).length + ((l.getD j x0).t.wr).length) (by omega) (by omega)) rfl (fun w hw => hw.seeOut_ hs_10 nM)) ?_
    rintro _ _ ⟨_, ⟨rfl, rfl⟩, rfl⟩
    refine jA (jG (v := iv (((((kk + 1) + 1) + 1) + 1 + 6 * ((l.getD j x0).t.calls).length + 3 * ((l.getD j x0).t.ans).length + ((l.getD j x0).t.rd).length + ((l.getD j x0).t.wr).length + 1 * ((l.getD j x0).t.marks).length : Nat) : Int)) rfl) <| jE <| jB <| jC <| jC <| jF <| jA (jD (v := iv (((((kk + 1) + 1) + 1) + 1 + 6 * ((l.getD j x0).t.calls).length + 3 * ((l.getD j x0).t.ans).length + ((l.getD j x0).t.rd).length + ((l.getD j x0).t.wr).length + 1 * ((l.getD j x0).t.marks).length : Nat) : Int)) rfl) <| jA (jb rfl rfl) <| jE <| jB ?_
    by_cases h_16 : (((((kk + 1) + 1) + 1) + 1 + 6 * ((l.getD j x0).t.calls).length + 3 * ((l.getD j x0).t.ans).length + ((l.getD j x0).t.rd).length + ((l.getD j x0).t.wr).length + 1 * ((l.getD j x0).t.marks).length : Nat) : Int) < 0
    · refine jQ (cB (dT h_16)) <| jC <| jF <| jA (jG (v := iv (-1)) rfl) <| jE <| jB <| jK <| jO <| je <| jO ?_
      refine jO <| je <| jO <| jN (.inl rfl) rfl (jJ (v := iv (-1)) rfl) (List.nil_sublist _) ?_
      exfalso
      omega
    refine jL (cB (dF h_16)) <| jM <| jB <| jC <| jC <| jF <| jA (jD (v := .slice a l.length c) he_2) <| jA (jD (v := nv j) he_4) <| jA (jV (i := j) kJ kL hr_11 hr_11b rfl rfl (by omega)) <| jA (jX fo69_8 hr_11 rfl) ?_
    refine jP (ji (v := iv (((((kk + 1) + 1) + 1) + 1 + 6 * ((l.getD j x0).t.calls).length + 3 * ((l.getD j x0).t.ans).length + ((l.getD j x0).t.rd).length + ((l.getD j x0).t.wr).length + 1 * ((l.getD j x0).t.marks).length : Nat) : Int)) hs nM rfl kE (flat_atE encX_len x0 (markV mkX cntX l k) j 9 (by rw [markV_len]; exact hlt) (by decide) hget (encX_mk _ _))) <| jA (jD (v := iv (((((kk + 1) + 1) + 1) + 1 + 6 * ((l.getD j x0).t.calls).length + 3 * ((l.getD j x0).t.ans).length + ((l.getD j x0).t.rd).length + ((l.getD j x0).t.wr).length + 1 * ((l.getD j x0).t.marks).length : Nat) : Int)) rfl) <| jA (jf rfl rfl) <| jE <| jB <| jL (cB (cN (dT rfl))) <| jM <| jB <| jF <| jA (jD (v := iv (((((kk + 1) + 1) + 1) + 1 + 6 * ((l.getD j x0).t.calls).length + 3 * ((l.getD j x0).t.ans).length + ((l.getD j x0).t.rd).length + ((l.getD j x0).t.wr).length + 1 * ((l.getD j x0).t.marks).length : Nat) : Int)) rfl) ?_
    refine jA (jT (c := ((((((kk + 1) + 1) + 1) + 1 + 6 * ((l.getD j x0).t.calls).length + 3 * ((l.getD j x0).t.ans).length + ((l.getD j x0).t.rd).length + ((l.getD j x0).t.wr).length + 1 * ((l.getD j x0).t.marks).length) + 1 : Nat) : Int)) rfl rfl (wr (by omega))) <| jA (jG (v := iv ((((((kk + 1) + 1) + 1) + 1 + 6 * ((l.getD j x0).t.calls).length + 3 * ((l.getD j x0).t.ans).length + ((l.getD j x0).t.rd).length + ((l.getD j x0).t.wr).length + 1 * ((l.getD j x0).t.marks).length) + 1 : Nat) : Int)) rfl) <| jE <| jk <| jB <| jF <| jA (jD (v := nv j) he_4) <| jA (jT (c := ((j + 1 : Nat) : Int)) rfl rfl (wr (by omega))) <| jA (jG (v := iv ((j + 1 : Nat) : Int)) rfl) <| jE ?_
    refine jl (l.length - (j + 1)) (by omega) ⟨j + 1, ((((kk + 1) + 1) + 1) + 1 + 6 * ((l.getD j x0).t.calls).length + 3 * ((l.getD j x0).t.ans).length + ((l.getD j x0).t.rd).length + ((l.getD j x0).t.wr).length + 1 * ((l.getD j x0).t.marks).length) + 1, by omega, (by rw [cntV_step x0 hlt]; simp only [cntX]; omega), he_2, rfl, rfl, rfl, rfl⟩
  refine jL (cB (dF h_5)) <| jm <| jY <| jY <| jn <| jB <| jC <| jF <| jA (jD (v := nv kk) he_3) <| jA (jG (v := nv kk) rfl) ?_
  refine jE <| jB <| jK <| jN (.inl rfl) rfl (jJ (v := nv kk) rfl) (List.nil_sublist _) ?_
  exact ⟨by rw [hkk, cntV_all (by omega)], rfl⟩

theorem C_eqEntry (p q : EX) (hl : p.t.lim 1000000000) :
    Ct Tryz.prog 36 [.agg #[.int .i64 p.t.seq, .int .i64 p.t.kind, .int .i64 p.t.tx, .slice p.x.a0 p.t.steps.length p.x.c0, .slice p.x.a1 p.t.ans.length p.x.c1, .int .i64 p.t.began, .int .i64 p.t.ended, .bool p.t.laid], .agg #[.int .i64 q.t.seq, .int .i64 q.t.kind, .int .i64 q.t.tx, .slice q.x.a0 q.t.steps.length q.x.c0, .slice q.x.a1 q.t.ans.length q.x.c1, .int .i64 q.t.began, .int .i64 q.t.ended, .bool q.t.laid]] [] (fun w => SeesA w (rdsE p) ∧ SeesA w (rdsE q)) (fun v A' => v = .bool (decide (p.t = q.t)) ∧ A' = []) := by
  obtain ⟨hb0, hb1⟩ := hl
  refine Ct.intro Tryz.func36 rfl Tryz.ntmps36 (lb rfl) fun w0 hpre => ?_
  obtain ⟨hs_1, hs_2⟩ := seesE hpre.1
  obtain ⟨hs_3, hs_4⟩ := seesE hpre.2
  refine jC <| jF ?_
  refine jI rfl (jp (cs := [iv p.t.seq, iv p.t.kind, iv p.t.tx, .slice p.x.a0 p.t.steps.length p.x.c0, .slice p.x.a1 p.t.ans.length p.x.c1, iv p.t.began, iv p.t.ended, .bool p.t.laid]) rfl rfl) ?_
  rintro _ _ ⟨b_5, rfl, rfl⟩
  refine jI rfl (jp (cs := [iv q.t.seq, iv q.t.kind, iv q.t.tx, .slice q.x.a0 q.t.steps.length q.x.c0, .slice q.x.a1 q.t.ans.length q.x.c1, iv q.t.began, iv q.t.ended, .bool q.t.laid]) rfl rfl) ?_
  rintro _ _ ⟨b_6, rfl, rfl⟩
  refine jA (jG (v := .bool false) rfl) <| jE <| jB <| jC <| jC <| jF <| jA (jS fo75_0 rfl) <| jP (jU 1 (v := iv p.t.seq) rfl rfl kE rfl) <| jA (jS fo75_0 rfl) <| jP (jU 0 (v := iv q.t.seq) rfl rfl kE rfl) ?_
  refine jA (jf rfl rfl) <| jE <| jB ?_
  by_cases h_7 : p.t.seq = q.t.seq
  · refine jL (cB (cN (dT h_7))) <| jM <| jB <| jC <| jC <| jF <| jA (jS fo75_1 rfl) <| jP (jU 1 (v := iv p.t.kind) rfl rfl kE rfl) <| jA (jS fo75_1 rfl) <| jP (jU 0 (v := iv q.t.kind) rfl rfl kE rfl) ?_
    refine jA (jf rfl rfl) <| jE <| jB ?_
    by_cases h_8 : p.t.kind = q.t.kind
    · refine jL (cB (cN (dT h_8))) <| jM <| jB <| jC <| jC <| jF <| jA (jS fo75_2 rfl) <| jP (jU 1 (v := iv p.t.tx) rfl rfl kE rfl) <| jA (jS fo75_2 rfl) <| jP (jU 0 (v := iv q.t.tx) rfl rfl kE rfl) ?_
      refine jA (jf rfl rfl) <| jE <| jB ?_
      by_cases h_9 : p.t.tx = q.t.tx
      · refine jL (cB (cN (dT h_9))) <| jM <| jB <| jC <| jC <| jF <| jA (jS fo75_3 rfl) <| jP (jU 1 (v := .slice p.x.a0 p.t.steps.length p.x.c0) rfl rfl Tryz.isAgg73 rfl) <| jA (jS fo75_3 rfl) <| jP (jU 0 (v := .slice q.x.a0 q.t.steps.length q.x.c0) rfl rfl Tryz.isAgg73 rfl) ?_
        refine jI rfl (jR [] Tryz.call61 rfl (C_eqStepS p.x.a0 q.x.a0 p.x.c0 q.x.c0 p.t.steps q.t.steps (by omega)) rfl (fun w hw => ⟨hw.seeOut_ hs_1 nM, hw.seeOut_ hs_3 nM⟩)) ?_
        rintro _ _ ⟨_, ⟨rfl, rfl⟩, rfl⟩
        refine jA (jq rfl) <| jE <| jB ?_
        by_cases h_10 : p.t.steps = q.t.steps
        · refine jL (cB (cN (dT h_10))) <| jM <| jB <| jC <| jC <| jF <| jA (jS fo75_4 rfl) <| jP (jU 1 (v := .slice p.x.a1 p.t.ans.length p.x.c1) rfl rfl Tryz.isAgg66 rfl) <| jA (jS fo75_4 rfl) <| jP (jU 0 (v := .slice q.x.a1 q.t.ans.length q.x.c1) rfl rfl Tryz.isAgg66 rfl) ?_
          refine jI rfl (jR [] Tryz.call57 rfl (C_eqAnswerS p.x.a1 q.x.a1 p.x.c1 q.x.c1 p.t.ans q.t.ans (by omega)) rfl (fun w hw => ⟨hw.seeOut_ hs_2 nM, hw.seeOut_ hs_4 nM⟩)) ?_
          rintro _ _ ⟨_, ⟨rfl, rfl⟩, rfl⟩
          refine jA (jq rfl) <| jE <| jB ?_
          by_cases h_11 : p.t.ans = q.t.ans
          · refine jL (cB (cN (dT h_11))) <| jM <| jB <| jC <| jC <| jF <| jA (jS fo75_5 rfl) <| jP (jU 1 (v := iv p.t.began) rfl rfl kE rfl) <| jA (jS fo75_5 rfl) <| jP (jU 0 (v := iv q.t.began) rfl rfl kE rfl) ?_
            refine jA (jf rfl rfl) <| jE <| jB ?_
            by_cases h_12 : p.t.began = q.t.began
            · refine jL (cB (cN (dT h_12))) <| jM <| jB <| jC <| jC <| jF <| jA (jS fo75_6 rfl) <| jP (jU 1 (v := iv p.t.ended) rfl rfl kE rfl) <| jA (jS fo75_6 rfl) <| jP (jU 0 (v := iv q.t.ended) rfl rfl kE rfl) ?_
              refine jA (jf rfl rfl) <| jE <| jB ?_
              by_cases h_13 : p.t.ended = q.t.ended
              · refine jL (cB (cN (dT h_13))) <| jM <| jB <| jC <| jC <| jF <| jA (jS fo75_7 rfl) <| jP (jU 1 (v := .bool p.t.laid) rfl rfl Tryz.isAgg4 rfl) <| jA (jS fo75_7 rfl) <| jP (jU 0 (v := .bool q.t.laid) rfl rfl Tryz.isAgg4 rfl) ?_
                refine jA (PO.neqB Tryz.underlying4 rfl rfl) <| jE <| jB ?_
                by_cases h_14 : p.t.laid = q.t.laid
                · refine jL (cB (cN (dT h_14))) <| jM <| jB <| jC <| jF <| jA (jG (v := .bool true) rfl) <| jE <| jB <| jK <| jN (.inl rfl) rfl (jJ (v := .bool true) rfl) (List.nil_sublist _) ?_
                  exact ⟨cB (dT (ED.same.2 ⟨by assumption, by assumption, by assumption, by assumption, by assumption, by assumption, by assumption, by assumption⟩)).symm, rfl⟩
                refine jQ (cB (cN (dF h_14))) <| jC <| jF <| jA (jG (v := .bool false) rfl) <| jE <| jB <| jK <| jO <| jN (.inl rfl) rfl (jJ (v := .bool false) rfl) (List.nil_sublist _) ?_
                exact ⟨cB (dF (fun h_ => by obtain ⟨h_0, h_1, h_2, h_3, h_4, h_5, h_6, h_7⟩ := ED.same.1 h_; first | contradiction | (exact absurd ⟨h_6, h_7⟩ ‹¬(_ ∧ _)›))).symm, rfl⟩
              refine jQ (cB (cN (dF h_13))) <| jC <| jF <| jA (jG (v := .bool false) rfl) <| jE <| jB <| jK <| jO <| jN (.inl rfl) rfl (jJ (v := .bool false) rfl) (List.nil_sublist _) ?_
              exact ⟨cB (dF (fun h_ => by obtain ⟨h_0, h_1, h_2, h_3, h_4, h_5, h_6, h_7⟩ := ED.same.1 h_; first | contradiction | (exact absurd ⟨h_6, h_7⟩ ‹¬(_ ∧ _)›))).symm, rfl⟩
            refine jQ (cB (cN (dF h_12))) <| jC <| jF <| jA (jG (v := .bool false) rfl) <| jE <| jB <| jK <| jO <| jN (.inl rfl) rfl (jJ (v := .bool false) rfl) (List.nil_sublist _) ?_
            exact ⟨cB (dF (fun h_ => by obtain ⟨h_0, h_1, h_2, h_3, h_4, h_5, h_6, h_7⟩ := ED.same.1 h_; first | contradiction | (exact absurd ⟨h_6, h_7⟩ ‹¬(_ ∧ _)›))).symm, rfl⟩
          refine jQ (cB (cN (dF h_11))) <| jC <| jF <| jA (jG (v := .bool false) rfl) <| jE <| jB <| jK <| jO <| jN (.inl rfl) rfl (jJ (v := .bool false) rfl) (List.nil_sublist _) ?_
          exact ⟨cB (dF (fun h_ => by obtain ⟨h_0, h_1, h_2, h_3, h_4, h_5, h_6, h_7⟩ := ED.same.1 h_; first | contradiction | (exact absurd ⟨h_6, h_7⟩ ‹¬(_ ∧ _)›))).symm, rfl⟩
        refine jQ (cB (cN (dF h_10))) <| jC <| jF <| jA (jG (v := .bool false) rfl) <| jE <| jB <| jK <| jO <| jN (.inl rfl) rfl (jJ (v := .bool false) rfl) (List.nil_sublist _) ?_
        exact ⟨cB (dF (fun h_ => by obtain ⟨h_0, h_1, h_2, h_3, h_4, h_5, h_6, h_7⟩ := ED.same.1 h_; first | contradiction | (exact absurd ⟨h_6, h_7⟩ ‹¬(_ ∧ _)›))).symm, rfl⟩
      refine jQ (cB (cN (dF h_9))) <| jC <| jF <| jA (jG (v := .bool false) rfl) <| jE <| jB <| jK <| jO <| jN (.inl rfl) rfl (jJ (v := .bool false) rfl) (List.nil_sublist _) ?_
      exact ⟨cB (dF (fun h_ => by obtain ⟨h_0, h_1, h_2, h_3, h_4, h_5, h_6, h_7⟩ := ED.same.1 h_; first | contradiction | (exact absurd ⟨h_6, h_7⟩ ‹¬(_ ∧ _)›))).symm, rfl⟩
    refine jQ (cB (cN (dF h_8))) <| jC <| jF <| jA (jG (v := .bool false) rfl) <| jE <| jB <| jK <| jO <| jN (.inl rfl) rfl (jJ (v := .bool false) rfl) (List.nil_sublist _) ?_
    exact ⟨cB (dF (fun h_ => by obtain ⟨h_0, h_1, h_2, h_3, h_4, h_5, h_6, h_7⟩ := ED.same.1 h_; first | contradiction | (exact absurd ⟨h_6, h_7⟩ ‹¬(_ ∧ _)›))).symm, rfl⟩
  refine jQ (cB (cN (dF h_7))) <| jC <| jF <| jA (jG (v := .bool false) rfl) <| jE <| jB <| jK <| jO <| jN (.inl rfl) rfl (jJ (v := .bool false) rfl) (List.nil_sublist _) ?_
  exact ⟨cB (dF (fun h_ => by obtain ⟨h_0, h_1, h_2, h_3, h_4, h_5, h_6, h_7⟩ := ED.same.1 h_; first | contradiction | (exact absurd ⟨h_6, h_7⟩ ‹¬(_ ∧ _)›))).symm, rfl⟩

theorem C_eqEntryS (a b : Option Addr) (c c' : Nat) (s t : List EX) (hn : s.length ≤ 9223372036854775807) (hl : ∀ q ∈ s, q.t.lim 1000000000) :
    Ct Tryz.prog 16 [.slice a s.length c, .slice b t.length c'] [] (fun w => SeesA w (rdsES a c s) ∧ SeesA w (rdsES b c' t)) (fun r A' => r = .bool (decide (s.map EX.t = t.map EX.t)) ∧ A' = []) := by
  refine Ct.intro Tryz.func16 rfl Tryz.ntmps16 (lb rfl) fun w0 hpre => ?_
  have hs_1 : Sees w0 (.slice a s.length c) 8 s.length (s.flatMap encE) := (hpre.1).head
  have hi_2 : SeesA w0 (s.flatMap rdsE) := (hpre.1).tail
  have hs_3 : Sees w0 (.slice b t.length c') 8 t.length (t.flatMap encE) := (hpre.2).head
  have hi_4 : SeesA w0 (t.flatMap rdsE) := (hpre.2).tail
  refine jC <| jF <| jA (jG (v := .bool false) rfl) <| jE <| jB <| jC <| jC <| jF <| jA (jD (v := .slice a s.length c) rfl) <| jA (jh kM rfl) ?_
  refine jA (jD (v := .slice b t.length c') rfl) <| jA (jh kM rfl) <| jA (jf rfl rfl) <| jE <| jB ?_
  by_cases h_5 : ((s.length : Nat) : Int) = ((t.length : Nat) : Int)
  · have hlen := h_5
    refine jL (cB (cN (dT h_5))) <| jM <| jB <| jC <| jC <| jF <| jA (jG (v := iv 0) rfl) <| jE <| jB <| jZ ?_
    refine jo (fun k_ e_ L_ => ∃ j : Nat, (j ≤ s.length) ∧ ((s.take j).map EX.t = (t.take j).map EX.t) ∧ (s.length = t.length) ∧ e_ 0 = .slice a s.length c ∧ e_ 1 = .slice b t.length c' ∧ e_ 5 = nv j ∧ L_ = [] ∧ k_ = s.length - j) _ ⟨0, by omega, rfl, by omega, rfl, rfl, rfl, rfl, rfl⟩ ?_
    rintro _ e_6 _ ⟨j, hj, hE, hln, he_7, he_8, he_9, rfl, rfl⟩
    refine jC <| jC <| jF <| jA (jD (v := nv j) he_9) <| jA (jD (v := .slice a s.length c) he_7) <| jA (jh kM rfl) <| jA (jb rfl rfl) <| jE <| jB ?_
    by_cases h_10 : ((j : Nat) : Int) < ((s.length : Nat) : Int)
    · have hlt : j < s.length := by omega
      refine jQ (cB (dT h_10)) <| jM <| jB <| jC <| jZ <| jC <| jv [] 1000 mixed (by simp) <| jW 0 rfl (jD (v := .slice a s.length c) he_7) <| jW 1 rfl (jD (v := nv j) he_9) ?_
      obtain ⟨hr_11, hr_11b, -⟩ := sees_some hs_1 (by omega)
      refine jW 2 rfl (jV (i := j) kM kP hr_11 hr_11b rfl rfl (by omega)) ?_
      have hi_12 := SeesA.elem hi_2 e0 (show j < s.length by omega)
      obtain ⟨hs_13, hs_14⟩ := seesE hi_12
      refine jw 3 rfl (LO.loadSK (vs := [iv ((s.getD j e0).t.seq), iv ((s.getD j e0).t.kind), iv ((s.getD j e0).t.tx), .slice ((s.getD j e0).x.a0) ((s.getD j e0).t.steps.length) ((s.getD j e0).x.c0), .slice ((s.getD j e0).x.a1) ((s.getD j e0).t.ans.length) ((s.getD j e0).x.c1), iv ((s.getD j e0).t.began), iv ((s.getD j e0).t.ended), .bool ((s.getD j e0).t.laid)]) hs_1 nM rfl Tryz.isAgg75 kP (flat_take encE_len e0 s j (by omega)) rfl (by decide)) <| jW 4 rfl (jD (v := .slice b t.length c') he_8) <| jW 5 rfl (jD (v := nv j) he_9) ?_
      obtain ⟨hr_15, hr_15b, -⟩ := sees_some hs_3 (by omega)
      refine jW 6 rfl (jV (i := j) kM kP hr_15 hr_15b rfl rfl (by omega)) ?_
      have hi_16 := SeesA.elem hi_4 e0 (show j < t.length by omega)
      obtain ⟨hs_17, hs_18⟩ := seesE hi_16
      refine jw 7 rfl (LO.loadSK (vs := [iv ((t.getD j e0).t.seq), iv ((t.getD j e0).t.kind), iv ((t.getD j e0).t.tx), .slice ((t.getD j e0).x.a0) ((t.getD j e0).t.steps.length) ((t.getD j e0).x.c0), .slice ((t.getD j e0).x.a1) ((t.getD j e0).t.ans.length) ((t.getD j e0).x.c1), iv ((t.getD j e0).t.began), iv ((t.getD j e0).t.ended), .bool ((t.getD j e0).t.laid)]) hs_3 nM rfl Tryz.isAgg75 kP (flat_take encE_len e0 t j (by omega)) rfl (by decide)) <| jx (i := 8) ?_
      refine jz rfl rfl (jR [] Tryz.call36 rfl (C_eqEntry (s.getD j e0) (t.getD j e0) (hl _ (getD_mem hlt))) rfl (fun w hw => ⟨hw.seeOutA hi_12 nMA, hw.seeOutA hi_16 nMA⟩)) ?_
      rintro _ _ ⟨_, ⟨rfl, rfl⟩, rfl⟩
      refine ⟨(fun _ h => by cases h), ?_⟩
      refine jW 9 rfl (jq rfl) <| kB (by kernel_rfl) <| jB ?_
      by_cases h_19 : (s.getD j e0).t = (t.getD j e0).t
      · have heq := h_19
        refine jL (cB (cN (dT h_19))) <| jM <| jk <| jB <| jF <| jA (jD (v := nv j) he_9) <| jA (jT (c := ((j + 1 : Nat) : Int)) rfl rfl (wr (by omega))) <| jA (jG (v := iv ((j + 1 : Nat) : Int)) rfl) <| jE ?_
        refine jl (s.length - (j + 1)) (by omega) ⟨j + 1, by omega, take_succM_eq e0 hE hlt hln heq, hln, he_7, he_8, rfl, rfl, rfl⟩
      have hne := h_19
      refine jQ (cB (cN (dF h_19))) <| jC <| jF <| jA (jG (v := .bool false) rfl) <| jE <| jB <| jK <| je <| jO <| jO ?_
      refine je <| jO <| jN (.inl rfl) rfl (jJ (v := .bool false) rfl) (List.nil_sublist _) ?_
      refine ⟨?_, rfl⟩
      rw [dF (fun h => hne (getM_eq e0 h hlt hln))]
    refine jL (cB (dF h_10)) <| jm <| jY <| jY <| jn <| jB <| jC <| jF <| jA (jG (v := .bool true) rfl) <| jE ?_
    refine jB <| jK <| jN (.inl rfl) rfl (jJ (v := .bool true) rfl) (List.nil_sublist _) ?_
    refine ⟨?_, rfl⟩
    rw [dT (take_allM_eq hE (by omega) (by omega))]
  have hlen := h_5
  refine jQ (cB (cN (dF h_5))) <| jC <| jF <| jA (jG (v := .bool false) rfl) <| jE <| jB <| jK <| jO <| jN (.inl rfl) rfl (jJ (v := .bool false) rfl) (List.nil_sublist _) ?_
  refine ⟨?_, rfl⟩
  rw [dF (fun h => by have h2 := congrArg List.length h; rw [List.length_map, List.length_map] at h2; omega)]

set_option maxRecDepth 4000 in
set_option maxHeartbeats 1000000 in
theorem C_markEntryS (a : Option Addr) (c : Nat) (l : List EX) (k : Nat) (h0 : 0 < k) (h1 : k + cntV cntE l ≤ 100000000) (hn : l.length ≤ 1000000000) :
    Ct Tryz.prog 21 [.slice a l.length c, .int .i64 ((k : Nat) : Int)] [Res.rows (rdsES a c l)] (fun _ => True) (fun v A' => v = .int .i64 ((k + cntV cntE l : Nat) : Int) ∧ A' = [.rows (rdsES a c (markV mkE cntE l k))]) := by
  refine Ct.intro Tryz.func21 rfl Tryz.ntmps21 (lb rfl) fun w0 hpre => ?_
  refine JC.ghost (L' := [Res.row (.slice a l.length c) 75 8 l.length (l.flatMap encE), Res.rows (l.flatMap rdsE)]) (fun w hw => hw.headR (r := ⟨.slice a l.length c, 75, 8, l.length, l.flatMap encE⟩) (A := l.flatMap rdsE) 0 rfl) <| jC <| jF <| jA (jG (v := iv 0) rfl) <| jE <| jB <| jC <| jC <| jF <| jA (jG (v := iv 0) rfl) ?_
  refine jE <| jB <| jZ <| jo (fun k_ e_ L_ => ∃ j : Nat, ∃ kk : Nat, ∃ Q : List EX, (j ≤ l.length) ∧ (kk = k + cntV cntE (l.take j)) ∧ (Q = (markV mkE cntE l k).take j) ∧ (Q.length = j) ∧ e_ 0 = .slice a l.length c ∧ e_ 1 = nv kk ∧ e_ 4 = iv 0 ∧ e_ 5 = nv j ∧ L_ = [Res.row (.slice a l.length c) 75 8 l.length ((Q ++ l.drop j).flatMap encE), Res.rows ((Q ++ l.drop j).flatMap rdsE)] ∧ k_ = l.length - j) _ ⟨0, k, [], by omega, rfl, rfl, rfl, rfl, rfl, rfl, rfl, rfl, rfl⟩ ?_
  rintro _ e_1 _ ⟨j, kk, Q, hj, hkk, hQ, hQl, he_2, he_3, he_4, he_5, rfl, rfl⟩
  refine jC <| jC <| jF <| jA (jD (v := nv j) he_5) <| jA (jD (v := .slice a l.length c) he_2) <| jA (jh kM rfl) <| jA (jb rfl rfl) <| jE <| jB ?_
  by_cases h_6 : ((j : Nat) : Int) < ((l.length : Nat) : Int)
  · have hlt : j < l.length := by omega
    have hb : cntV cntE (l.take j) + cntE (l.getD j e0) ≤ cntV cntE l := cntV_le e0 hlt
    simp only [cntE] at hb
    refine JC.ghost (L' := [Res.row (.slice ((l.getD j e0).x.a0) ((l.getD j e0).t.steps.length) ((l.getD j e0).x.c0)) 101 7 (((l.getD j e0).t.steps).length) (((l.getD j e0).t.steps).flatMap encP), Res.row (.slice ((l.getD j e0).x.a1) ((l.getD j e0).t.ans.length) ((l.getD j e0).x.c1)) 99 3 (((l.getD j e0).t.ans).length) (((l.getD j e0).t.ans).flatMap encA), Res.rows (Q.flatMap rdsE), Res.rows ((l.drop (j + 1)).flatMap rdsE), Res.row (.slice a l.length c) 75 8 l.length (mid encE Q [iv ((l.getD j e0).t.seq), iv ((l.getD j e0).t.kind), iv ((l.getD j e0).t.tx), .slice ((l.getD j e0).x.a0) ((l.getD j e0).t.steps.length) ((l.getD j e0).x.c0), .slice ((l.getD j e0).x.a1) ((l.getD j e0).t.ans.length) ((l.getD j e0).x.c1), iv ((l.getD j e0).t.began), iv ((l.getD j e0).t.ended), .bool ((l.getD j e0).t.laid)] (l.drop (j + 1)))]) (fun w hw => St.openR 1 rfl (St.splitR 1 rfl (flatMap_mid e0 hlt) (hw.midR 0 rfl e0 hlt))) <| jQ (cB (dT h_6)) <| jM <| jB <| jC <| jZ <| jC <| jF <| jA (jD (v := .slice a l.length c) he_2) <| jA (jD (v := nv j) he_5) ?_
    refine jA (jD (v := nv kk) he_3) ?_
    refine JL.facts fun hst => ?_
    obtain ⟨hr_7, hr_7b, -⟩ := row_some 4 rfl (by omega) hst
    refine jA (jV (i := j) kM kP hr_7 hr_7b rfl rfl (by omega)) <| jA (jX fo75_0 hr_7 rfl) ?_
    refine jI rfl (ju 4 (vs := [nv kk]) (cs' := mid encE Q [nv kk, iv ((l.getD j e0).t.kind), iv ((l.getD j e0).t.tx), .slice ((l.getD j e0).x.a0) ((l.getD j e0).t.steps.length) ((l.getD j e0).x.c0), .slice ((l.getD j e0).x.a1) ((l.getD j e0).t.ans.length) ((l.getD j e0).x.c1), iv ((l.getD j e0).t.began), iv ((l.getD j e0).t.ended), .bool ((l.getD j e0).t.laid)] (l.drop (j + 1))) rfl rfl rfl rfl kK rfl rfl (by decide) (mid_fit encE_len rfl hQl (f := 0) (lb rfl)) (mid_set encE_len rfl hQl 0 [nv kk] (lb rfl))) ?_
    rintro _ _ rfl
    refine jE <| jB <| jC <| jF <| jA (jD (v := nv kk) he_3) <| jA (jT (c := ((kk + 1 : Nat) : Int)) rfl rfl (wr (by omega))) <| jA (jG (v := iv ((kk + 1 : Nat) : Int)) rfl) <| jE <| jB <| jC ?_
    refine jF <| jA (jD (v := .slice a l.length c) he_2) <| jA (jD (v := nv j) he_5) <| jA (jD (v := iv ((kk + 1 : Nat) : Int)) rfl) <| jA (jV (i := j) kM kP hr_7 hr_7b rfl rfl (by omega)) <| jA (jX fo75_1 hr_7 rfl) ?_
    refine jI rfl (ju 4 (vs := [iv ((kk + 1 : Nat) : Int)]) (cs' := mid encE Q [nv kk, iv ((kk + 1 : Nat) : Int), iv ((l.getD j e0).t.tx), .slice ((l.getD j e0).x.a0) ((l.getD j e0).t.steps.length) ((l.getD j e0).x.c0), .slice ((l.getD j e0).x.a1) ((l.getD j e0).t.ans.length) ((l.getD j e0).x.c1), iv ((l.getD j e0).t.began), iv ((l.getD j e0).t.ended), .bool ((l.getD j e0).t.laid)] (l.drop (j + 1))) rfl rfl rfl rfl kK rfl rfl (by decide) (mid_fit encE_len rfl hQl (f := 1) (lb rfl)) (mid_set encE_len rfl hQl 1 [iv ((kk + 1 : Nat) : Int)] (lb rfl))) ?_
    rintro _ _ rfl
    refine jE <| jB <| jC <| jF <| jA (jD (v := iv ((kk + 1 : Nat) : Int)) rfl) <| jA (jT (c := (((kk + 1) + 1 : Nat) : Int)) rfl rfl (wr (by omega))) <| jA (jG (v := iv (((kk + 1) + 1 : Nat) : Int)) rfl) <| jE <| jB <| jC ?_
    refine jF <| jA (jD (v := .slice a l.length c) he_2) <| jA (jD (v := nv j) he_5) <| jA (jD (v := iv (((kk + 1) + 1 : Nat) : Int)) rfl) <| jA (jV (i := j) kM kP hr_7 hr_7b rfl rfl (by omega)) <| jA (jX fo75_2 hr_7 rfl) ?_
    refine jI rfl (ju 4 (vs := [iv (((kk + 1) + 1 : Nat) : Int)]) (cs' := mid encE Q [nv kk, iv ((kk + 1 : Nat) : Int), iv (((kk + 1) + 1 : Nat) : Int), .slice ((l.getD j e0).x.a0) ((l.getD j e0).t.steps.length) ((l.getD j e0).x.c0), .slice ((l.getD j e0).x.a1) ((l.getD j e0).t.ans.length) ((l.getD j e0).x.c1), iv ((l.getD j e0).t.began), iv ((l.getD j e0).t.ended), .bool ((l.getD j e0).t.laid)] (l.drop (j + 1))) rfl rfl rfl rfl kK rfl rfl (by decide) (mid_fit encE_len rfl hQl (f := 2) (lb rfl)) (mid_set encE_len rfl hQl 2 [iv (((kk + 1) + 1 : Nat) : Int)] (lb rfl))) ?_
    rintro _ _ rfl
    refine jE <| jB <| jC <| jF <| jA (jD (v := iv (((kk + 1) + 1 : Nat) : Int)) rfl) <| jA (jT (c := ((((kk + 1) + 1) + 1 : Nat) : Int)) rfl rfl (wr (by omega))) <| jA (jG (v := iv ((((kk + 1) + 1) + 1 : Nat) : Int)) rfl) <| jE <| jB <| jC ?_
    refine jF <| jA (jD (v := .slice a l.length c) he_2) <| jA (jD (v := nv j) he_5) <| jA (jV (i := j) kM kP hr_7 hr_7b rfl rfl (by omega)) <| jA (jX fo75_3 hr_7 rfl) <| jP (LO.loadR1 4 (v := .slice ((l.getD j e0).x.a0) ((l.getD j e0).t.steps.length) ((l.getD j e0).x.c0)) rfl rfl Tryz.isAgg73 (mid_at encE_len rfl hQl 3 (by decide))) <| jA (jD (v := iv ((((kk + 1) + 1) + 1 : Nat) : Int)) rfl) ?_
    refine jI rfl (jR [0] Tryz.call42 rfl (C_markStepS (l.getD j e0).x.a0 ((l.getD j e0).x.c0) ((l.getD j e0).t.steps) (((kk + 1) + 1) + 1) (by omega) (by omega)) rfl (fun _ _ => trivial)) ?_
    rintro _ _ ⟨_, ⟨rfl, rfl⟩, rfl⟩
    refine jA (jG (v := iv ((((kk + 1) + 1) + 1 + 7 * ((l.getD j e0).t.steps).length : Nat) : Int)) rfl) <| jE <| jB <| jC <| jF <| jA (jD (v := .slice a l.length c) he_2) <| jA (jD (v := nv j) he_5) <| jA (jV (i := j) kM kP hr_7 hr_7b rfl rfl (by omega)) <| jA (jX fo75_4 hr_7 rfl) <| jP (LO.loadR1 4 (v := .slice ((l.getD j e0).x.a1) ((l.getD j e0).t.ans.length) ((l.getD j e0).x.c1)) rfl rfl Tryz.isAgg66 (mid_at encE_len rfl hQl 4 (by decide))) ?_
    refine jA (jD (v := iv ((((kk + 1) + 1) + 1 + 7 * ((l.getD j e0).t.steps).length : Nat) : Int)) rfl) ?_
    refine jI rfl (jR [1] Tryz.call39 rfl (C_markAnswerS (l.getD j e0).x.a1 ((l.getD j e0).x.c1) ((l.getD j e0).t.ans) (((kk + 1) + 1) + 1 + 7 * ((l.getD j e0).t.steps).length) (by omega) (by omega)) rfl (fun _ _ => trivial)) ?_
    rintro _ _ ⟨_, ⟨rfl, rfl⟩, rfl⟩
    refine jA (jG (v := iv ((((kk + 1) + 1) + 1 + 7 * ((l.getD j e0).t.steps).length + 3 * ((l.getD j e0).t.ans).length : Nat) : Int)) rfl) <| jE <| jB <| jC <| jF <| jA (jD (v := .slice a l.length c) he_2) <| jA (jD (v := nv j) he_5) <| jA (jD (v := iv ((((kk + 1) + 1) + 1 + 7 * ((l.getD j e0).t.steps).length + 3 * ((l.getD j e0).t.ans).length : Nat) : Int)) rfl) <| jA (jV (i := j) kM kP hr_7 hr_7b rfl rfl (by omega)) <| jA (jX fo75_5 hr_7 rfl) ?_
    refine jI rfl (ju 4 (vs := [iv ((((kk + 1) + 1) + 1 + 7 * ((l.getD j e0).t.steps).length + 3 * ((l.getD j e0).t.ans).length : Nat) : Int)]) (cs' := mid encE Q [nv kk, iv ((kk + 1 : Nat) : Int), iv (((kk + 1) + 1 : Nat) : Int), .slice ((l.getD j e0).x.a0) ((l.getD j e0).t.steps.length) ((l.getD j e0).x.c0), .slice ((l.getD j e0).x.a1) ((l.getD j e0).t.ans.length) ((l.getD j e0).x.c1), iv ((((kk + 1) + 1) + 1 + 7 * ((l.getD j e0).t.steps).length + 3 * ((l.getD j e0).t.ans).length : Nat) : Int), iv ((l.getD j e0).t.ended), .bool ((l.getD j e0).t.laid)] (l.drop (j + 1))) rfl rfl rfl rfl kK rfl rfl (by decide) (mid_fit encE_len rfl hQl (f := 5) (lb rfl)) (mid_set encE_len rfl hQl 5 [iv ((((kk + 1) + 1) + 1 + 7 * ((l.getD j e0).t.steps).length + 3 * ((l.getD j e0).t.ans).length : Nat) : Int)] (lb rfl))) ?_
    rintro _ _ rfl
    refine jE <| jB <| jC <| jF <| jA (jD (v := iv ((((kk + 1) + 1) + 1 + 7 * ((l.getD j e0).t.steps).length + 3 * ((l.getD j e0).t.ans).length : Nat) : Int)) rfl) <| jA (jT (c := (((((kk + 1) + 1) + 1 + 7 * ((l.getD j e0).t.steps).length + 3 * ((l.getD j e0).t.ans).length) + 1 : Nat) : Int)) rfl rfl (wr (by omega))) <| jA (jG (v := iv (((((kk + 1) + 1) + 1 + 7 * ((l.getD j e0).t.steps).length + 3 * ((l.getD j e0).t.ans).length) + 1 : Nat) : Int)) rfl) <| jE <| jB <| jC ?_
    refine jF <| jA (jD (v := .slice a l.length c) he_2) <| jA (jD (v := nv j) he_5) <| jA (jD (v := iv (((((kk + 1) + 1) + 1 + 7 * ((l.getD j e0).t.steps).length + 3 * ((l.getD j e0).t.ans).length) + 1 : Nat) : Int)) rfl) <| jA (jV (i := j) kM kP hr_7 hr_7b rfl rfl (by omega)) <| jA (jX fo75_6 hr_7 rfl) ?_
    refine jI rfl (ju 4 (vs := [iv (((((kk + 1) + 1) + 1 + 7 * ((l.getD j e0).t.steps).length + 3 * ((l.getD j e0).t.ans).length) + 1 : Nat) : Int)]) (cs' := mid encE Q [nv kk, iv ((kk + 1 : Nat) : Int), iv (((kk + 1) + 1 : Nat) : Int), .slice ((l.getD j e0).x.a0) ((l.getD j e0).t.steps.length) ((l.getD j e0).x.c0), .slice ((l.getD j e0).x.a1) ((l.getD j e0).t.ans.length) ((l.getD j e0).x.c1), iv ((((kk + 1) + 1) + 1 + 7 * ((l.getD j e0).t.steps).length + 3 * ((l.getD j e0).t.ans).length : Nat) : Int), iv (((((kk + 1) + 1) + 1 + 7 * ((l.getD j e0).t.steps).length + 3 * ((l.getD j e0).t.ans).length) + 1 : Nat) : Int), .bool ((l.getD j e0).t.laid)] (l.drop (j + 1))) rfl rfl rfl rfl kK rfl rfl (by decide) (mid_fit encE_len rfl hQl (f := 6) (lb rfl)) (mid_set encE_len rfl hQl 6 [iv (((((kk + 1) + 1) + 1 + 7 * ((l.getD j e0).t.steps).length + 3 * ((l.getD j e0).t.ans).length) + 1 : Nat) : Int)] (lb rfl))) ?_
    rintro _ _ rfl
    refine jE <| jB <| jC <| jF <| jA (jD (v := iv (((((kk + 1) + 1) + 1 + 7 * ((l.getD j e0).t.steps).length + 3 * ((l.getD j e0).t.ans).length) + 1 : Nat) : Int)) rfl) <| jA (jT (c := ((((((kk + 1) + 1) + 1 + 7 * ((l.getD j e0).t.steps).length + 3 * ((l.getD j e0).t.ans).length) + 1) + 1 : Nat) : Int)) rfl rfl (wr (by omega))) <| jA (jG (v := iv ((((((kk + 1) + 1) + 1 + 7 * ((l.getD j e0).t.steps).length + 3 * ((l.getD j e0).t.ans).length) + 1) + 1 : Nat) : Int)) rfl) <| jE <| jB <| jC ?_
    refine jF <| jA (jD (v := .slice a l.length c) he_2) <| jA (jD (v := nv j) he_5) <| jA (jD (v := iv ((((((kk + 1) + 1) + 1 + 7 * ((l.getD j e0).t.steps).length + 3 * ((l.getD j e0).t.ans).length) + 1) + 1 : Nat) : Int)) rfl) <| jA (PO.remN (c := (((((((kk + 1) + 1) + 1 + 7 * ((l.getD j e0).t.steps).length + 3 * ((l.getD j e0).t.ans).length) + 1) + 1) % 3 : Nat) : Int)) rfl rfl (by omega) (by omega) (by omega)) <| jA (PO.eqlI rfl rfl) <| jA (jV (i := j) kM kP hr_7 hr_7b rfl rfl (by omega)) <| jA (jX fo75_7 hr_7 rfl) ?_
    refine jI rfl (ju 4 (vs := [.bool (decide ((((((((kk + 1) + 1) + 1 + 7 * ((l.getD j e0).t.steps).length + 3 * ((l.getD j e0).t.ans).length) + 1) + 1) % 3 : Nat) : Int) = 0))]) (cs' := mid encE Q [nv kk, iv ((kk + 1 : Nat) : Int), iv (((kk + 1) + 1 : Nat) : Int), .slice ((l.getD j e0).x.a0) ((l.getD j e0).t.steps.length) ((l.getD j e0).x.c0), .slice ((l.getD j e0).x.a1) ((l.getD j e0).t.ans.length) ((l.getD j e0).x.c1), iv ((((kk + 1) + 1) + 1 + 7 * ((l.getD j e0).t.steps).length + 3 * ((l.getD j e0).t.ans).length : Nat) : Int), iv (((((kk + 1) + 1) + 1 + 7 * ((l.getD j e0).t.steps).length + 3 * ((l.getD j e0).t.ans).length) + 1 : Nat) : Int), .bool (decide ((((((((kk + 1) + 1) + 1 + 7 * ((l.getD j e0).t.steps).length + 3 * ((l.getD j e0).t.ans).length) + 1) + 1) % 3 : Nat) : Int) = 0))] (l.drop (j + 1))) rfl rfl rfl rfl Tryz.sizeOf4 rfl rfl (by decide) (mid_fit encE_len rfl hQl (f := 7) (lb rfl)) (mid_set encE_len rfl hQl 7 [.bool (decide ((((((((kk + 1) + 1) + 1 + 7 * ((l.getD j e0).t.steps).length + 3 * ((l.getD j e0).t.ans).length) + 1) + 1) % 3 : Nat) : Int) = 0))] (lb rfl))) ?_
    rintro _ _ rfl
    refine jE <| jB <| jF <| jA (jD (v := iv ((((((kk + 1) + 1) + 1 + 7 * ((l.getD j e0).t.steps).length + 3 * ((l.getD j e0).t.ans).length) + 1) + 1 : Nat) : Int)) rfl) <| jA (jT (c := (((((((kk + 1) + 1) + 1 + 7 * ((l.getD j e0).t.steps).length + 3 * ((l.getD j e0).t.ans).length) + 1) + 1) + 1 : Nat) : Int)) rfl rfl (wr (by omega))) <| jA (jG (v := iv (((((((kk + 1) + 1) + 1 + 7 * ((l.getD j e0).t.steps).length + 3 * ((l.getD j e0).t.ans).length) + 1) + 1) + 1 : Nat) : Int)) rfl) <| jE <| jk <| jB <| jF ?_
    refine jA (jD (v := nv j) he_5) <| jA (jT (c := ((j + 1 : Nat) : Int)) rfl rfl (wr (by omega))) <| jA (jG (v := iv ((j + 1 : Nat) : Int)) rfl) <| jE <| kC (L' := [Res.rows (((Q ++ [mkE (l.getD j e0) kk]) ++ l.drop (j + 1)).flatMap rdsE), Res.row (.slice a l.length c) 75 8 l.length (((Q ++ [mkE (l.getD j e0) kk]) ++ l.drop (j + 1)).flatMap encE)]) (fun w hw => St.joinR [2, 0, 1] rfl (by rw [flatMap_mid2, rdsE_mk]) (St.closeR (A := ([⟨.slice ((l.getD j e0).x.a0) ((l.getD j e0).t.steps.length) ((l.getD j e0).x.c0), 101, 7, ((l.getD j e0).t.steps).length, (markG mkP 7 ((l.getD j e0).t.steps) (((kk + 1) + 1) + 1)).flatMap encP⟩, ⟨.slice ((l.getD j e0).x.a1) ((l.getD j e0).t.ans.length) ((l.getD j e0).x.c1), 99, 3, ((l.getD j e0).t.ans).length, (markG mkA 3 ((l.getD j e0).t.ans) (((kk + 1) + 1) + 1 + 7 * ((l.getD j e0).t.steps).length)).flatMap encA⟩] : List RD)) [2, 1] rfl (hw.unmid 4 rfl (q := mkE (l.getD j e0) kk) (encE_mk _ _)))) <| JQ.pick [1, 0] (A := [Res.row (.slice a l.length c) 75 8 l.length (((Q ++ [mkE (l.getD j e0) kk]) ++ l.drop (j + 1)).flatMap encE), Res.rows (((Q ++ [mkE (l.getD j e0) kk]) ++ l.drop (j + 1)).flatMap rdsE)]) rfl ?_
    refine jl (l.length - (j + 1)) (by omega) ⟨j + 1, (((((kk + 1) + 1) + 1 + 7 * ((l.getD j e0).t.steps).length + 3 * ((l.getD j e0).t.ans).length) + 1) + 1) + 1, (Q ++ [mkE (l.getD j e0) kk]), by omega, (by rw [cntV_step e0 hlt]; simp only [cntE]; omega), (by rw [markV_step e0 hlt, ← hQ, ← hkk]), (by rw [List.length_append, hQl]; rfl), he_2, rfl, he_4, rfl, rfl, rfl⟩
  refine jL (cB (dF h_6)) <| jm <| jY <| jY <| jn <| jB <| jC <| jF <| jA (jD (v := nv kk) he_3) <| jA (jG (v := nv kk) rfl) ?_
  refine jE <| jB <| jK ?_
  have hz : Q ++ l.drop j = markV mkE cntE l k := by rw [hQ, List.drop_of_length_le (by omega), List.append_nil, markV_all (by omega)]
  refine kC (L' := [Res.row (.slice a ((markV mkE cntE l k).length) c) 75 8 ((markV mkE cntE l k).length) ((markV mkE cntE l k).flatMap encE), Res.rows ((markV mkE cntE l k).flatMap rdsE)]) (fun w hw => hw.eqL (by rw [hz, markV_len])) <| kC (L' := [Res.rows (rdsES a c (markV mkE cntE l k))]) (fun w hw => hw.consR (r := ⟨.slice a ((markV mkE cntE l k).length) c, 75, 8, (markV mkE cntE l k).length, (markV mkE cntE l k).flatMap encE⟩) (A := (markV mkE cntE l k).flatMap rdsE) [0, 0] rfl) <| jN (.inl rfl) rfl (jJ (v := nv kk) rfl) (List.Sublist.refl _) ?_
  exact ⟨by rw [hkk, cntV_all (by omega)], rfl⟩

set_option maxRecDepth 4000 in
set_option maxHeartbeats 1000000 in
theorem C_heldEntryS (a : Option Addr) (c : Nat) (l : List EX) (k : Nat) (h0 : 0 < k) (h1 : k + cntV cntE l ≤ 100000000) (hn : l.length ≤ 1000000000) :
    Ct Tryz.prog 26 [.slice a l.length c, .int .i64 ((k : Nat) : Int)] [] (fun w => SeesA w (rdsES a c (markV mkE cntE l k))) (fun v A' => v = .int .i64 ((k + cntV cntE l : Nat) : Int) ∧ A' = []) := by
  refine Ct.intro Tryz.func26 rfl Tryz.ntmps26 (lb rfl) fun w0 hpre => ?_
  have hs : Sees w0 (.slice a l.length c) 8 l.length ((markV mkE cntE l k).flatMap encE) := by have h := hpre.head; simpa only [RD.sees, markV_len] using h
  have hi : SeesA w0 ((markV mkE cntE l k).flatMap rdsE) := hpre.tail
  refine jC <| jF <| jA (jG (v := iv 0) rfl) <| jE <| jB <| jC <| jC <| jF <| jA (jG (v := iv 0) rfl) <| jE ?_
  refine jB <| jZ <| jo (fun k_ e_ L_ => ∃ j : Nat, ∃ kk : Nat, (j ≤ l.length) ∧ (kk = k + cntV cntE (l.take j)) ∧ e_ 0 = .slice a l.length c ∧ e_ 1 = nv kk ∧ e_ 5 = nv j ∧ L_ = [] ∧ k_ = l.length - j) _ ⟨0, k, by omega, rfl, rfl, rfl, rfl, rfl, rfl⟩ ?_
  rintro _ e_1 _ ⟨j, kk, hj, hkk, he_2, he_3, he_4, rfl, rfl⟩
  refine jC <| jC <| jF <| jA (jD (v := nv j) he_4) <| jA (jD (v := .slice a l.length c) he_2) <| jA (jh kM rfl) <| jA (jb rfl rfl) <| jE <| jB ?_
  by_cases h_5 : ((j : Nat) : Int) < ((l.length : Nat) : Int)
  · have hlt : j < l.length := by omega
    have hb : cntV cntE (l.take j) + cntE (l.getD j e0) ≤ cntV cntE l := cntV_le e0 hlt
    simp only [cntE] at hb
    have hget : (markV mkE cntE l k).getD j e0 = mkE (l.getD j e0) kk := by rw [markV_get e0 l k j hlt, ← hkk]
    have hin := SeesA.elem hi e0 (show j < (markV mkE cntE l k).length by rw [markV_len]; exact hlt)
    rw [hget] at hin
    obtain ⟨hs_6, hs_7⟩ := seesE_mk' hin
    refine jQ (cB (dT h_5)) <| jM <| jB <| jC <| jZ <| jC <| jC <| jF <| jA (jD (v := .slice a l.length c) he_2) <| jA (jD (v := nv j) he_4) ?_
    obtain ⟨hr_8, hr_8b, -⟩ := sees_some hs (by omega)
    refine jA (jV (i := j) kM kP hr_8 hr_8b rfl rfl (by omega)) <| jA (jX fo75_0 hr_8 rfl) <| jP (ji (v := nv kk) hs nM rfl kE (flat_atE encE_len e0 (markV mkE cntE l k) j 0 (by rw [markV_len]; exact hlt) (by decide) hget (encE_mk _ _))) <| jA (jD (v := nv kk) he_3) <| jA (jf rfl rfl) <| jE <| jB <| jL (cB (cN (dT rfl))) <| jM <| jB ?_
    refine jC <| jF <| jA (jD (v := nv kk) he_3) <| jA (jT (c := ((kk + 1 : Nat) : Int)) rfl rfl (wr (by omega))) <| jA (jG (v := iv ((kk + 1 : Nat) : Int)) rfl) <| jE <| jB <| jC <| jC <| jF ?_
    refine jA (jD (v := .slice a l.length c) he_2) <| jA (jD (v := nv j) he_4) <| jA (jV (i := j) kM kP hr_8 hr_8b rfl rfl (by omega)) <| jA (jX fo75_1 hr_8 rfl) <| jP (ji (v := iv ((kk + 1 : Nat) : Int)) hs nM rfl kE (flat_atE encE_len e0 (markV mkE cntE l k) j 1 (by rw [markV_len]; exact hlt) (by decide) hget (encE_mk _ _))) <| jA (jD (v := iv ((kk + 1 : Nat) : Int)) rfl) <| jA (jf rfl rfl) <| jE <| jB <| jL (cB (cN (dT rfl))) ?_
    refine jM <| jB <| jC <| jF <| jA (jD (v := iv ((kk + 1 : Nat) : Int)) rfl) <| jA (jT (c := (((kk + 1) + 1 : Nat) : Int)) rfl rfl (wr (by omega))) <| jA (jG (v := iv (((kk + 1) + 1 : Nat) : Int)) rfl) <| jE <| jB <| jC ?_
    refine jC <| jF <| jA (jD (v := .slice a l.length c) he_2) <| jA (jD (v := nv j) he_4) <| jA (jV (i := j) kM kP hr_8 hr_8b rfl rfl (by omega)) <| jA (jX fo75_2 hr_8 rfl) <| jP (ji (v := iv (((kk + 1) + 1 : Nat) : Int)) hs nM rfl kE (flat_atE encE_len e0 (markV mkE cntE l k) j 2 (by rw [markV_len]; exact hlt) (by decide) hget (encE_mk _ _))) <| jA (jD (v := iv (((kk + 1) + 1 : Nat) : Int)) rfl) <| jA (jf rfl rfl) <| jE ?_
    refine jB <| jL (cB (cN (dT rfl))) <| jM <| jB <| jC <| jF <| jA (jD (v := iv (((kk + 1) + 1 : Nat) : Int)) rfl) <| jA (jT (c := ((((kk + 1) + 1) + 1 : Nat) : Int)) rfl rfl (wr (by omega))) <| jA (jG (v := iv ((((kk + 1) + 1) + 1 : Nat) : Int)) rfl) <| jE ?_
    refine jB <| jC <| jF <| jA (jD (v := .slice a l.length c) he_2) <| jA (jD (v := nv j) he_4) <| jA (jV (i := j) kM kP hr_8 hr_8b rfl rfl (by omega)) <| jA (jX fo75_3 hr_8 rfl) <| jP (ji (v := .slice ((l.getD j e0).x.a0) ((l.getD j e0).t.steps.length) ((l.getD j e0).x.c0)) hs nM rfl Tryz.isAgg73 (flat_atE encE_len e0 (markV mkE cntE l k) j 3 (by rw [markV_len]; exact hlt) (by decide) hget (encE_mk _ _))) <| jA (jD (v := iv ((((kk + 1) + 1) + 1 : Nat) : Int)) rfl) ?_
    refine jI rfl (jR [] Tryz.call47 rfl (C_heldStepS (l.getD j e0).x.a0 ((l.getD j e0).x.c0) ((l.getD j e0).t.steps) (((kk + 1) + 1) + 1) (by omega) (by omega)) rfl (fun w hw => hw.seeOut_ hs_6 nM)) ?_
    rintro _ _ ⟨_, ⟨rfl, rfl⟩, rfl⟩
    refine jA (jG (v := iv ((((kk + 1) + 1) + 1 + 7 * ((l.getD j e0).t.steps).length : Nat) : Int)) rfl) <| jE <| jB <| jC <| jC <| jF <| jA (jD (v := iv ((((kk + 1) + 1) + 1 + 7 * ((l.getD j e0).t.steps).length : Nat) : Int)) rfl) <| jA (jb rfl rfl) <| jE <| jB ?_
    by_cases h_9 : ((((kk + 1) + 1) + 1 + 7 * ((l.getD j e0).t.steps).length : Nat) : Int) < 0
    · refine jQ (cB (dT h_9)) <| jC <| jF <| jA (jG (v := iv (-1)) rfl) <| jE <| jB <| jK <| jO <| je <| jO ?_
      refine jO <| je <| jO <| jN (.inl rfl) rfl (jJ (v := iv (-1)) rfl) (List.nil_sublist _) ?_
      exfalso
      omega
    refine jL (cB (dF h_9)) <| jM <| jB <| jC <| jF <| jA (jD (v := .slice a l.length c) he_2) <| jA (jD (v := nv j) he_4) <| jA (jV (i := j) kM kP hr_8 hr_8b rfl rfl (by omega)) <| jA (jX fo75_4 hr_8 rfl) <| jP (ji (v := .slice ((l.getD j e0).x.a1) ((l.getD j e0).t.ans.length) ((l.getD j e0).x.c1)) hs nM rfl Tryz.isAgg66 (flat_atE encE_len e0 (markV mkE cntE l k) j 4 (by rw [markV_len]; exact hlt) (by decide) hget (encE_mk _ _))) ?_
    refine jA (jD (v := iv ((((kk + 1) + 1) + 1 + 7 * ((l.getD j e0).t.steps).length : Nat) : Int)) rfl) ?_
    refine jI rfl (jR [] Tryz.call44 rfl (C_heldAnswerS (l.getD j e0).x.a1 ((l.getD j e0).x.c1) ((l.getD j e0).t.ans) (((kk + 1) + 1) + 1 + 7 * ((l.getD j e0).t.steps).length) (by omega) (by omega)) rfl (fun w hw => hw.seeOut_ hs_7 nM)) ?_
    rintro _ _ ⟨_, ⟨rfl, rfl⟩, rfl⟩
    refine jA (jG (v := iv ((((kk + 1) + 1) + 1 + 7 * ((l.getD j e0).t.steps).length + 3 * ((l.getD j e0).t.ans).length : Nat) : Int)) rfl) <| jE <| jB <| jC <| jC <| jF <| jA (jD (v := iv ((((kk + 1) + 1) + 1 + 7 * ((l.getD j e0).t.steps).length + 3 * ((l.getD j e0).t.ans).length : Nat) : Int)) rfl) <| jA (jb rfl rfl) <| jE <| jB ?_
    by_cases h_10 : ((((kk + 1) + 1) + 1 + 7 * ((l.getD j e0).t.steps).length + 3 * ((l.getD j e0).t.ans).length : Nat) : Int) < 0
    · refine jQ (cB (dT h_10)) <| jC <| jF <| jA (jG (v := iv (-1)) rfl) <| jE <| jB <| jK <| jO <| je <| jO ?_
      refine jO <| je <| jO <| jN (.inl rfl) rfl (jJ (v := iv (-1)) rfl) (List.nil_sublist _) ?_
      exfalso
      omega
    refine jL (cB (dF h_10)) <| jM <| jB <| jC <| jC <| jF <| jA (jD (v := .slice a l.length c) he_2) <| jA (jD (v := nv j) he_4) <| jA (jV (i := j) kM kP hr_8 hr_8b rfl rfl (by omega)) <| jA (jX fo75_5 hr_8 rfl) ?_
    refine jP (ji (v := iv ((((kk + 1) + 1) + 1 + 7 * ((l.getD j e0).t.steps).length + 3 * ((l.getD j e0).t.ans).length : Nat) : Int)) hs nM rfl kE (flat_atE encE_len e0 (markV mkE cntE l k) j 5 (by rw [markV_len]; exact hlt) (by decide) hget (encE_mk _ _))) <| jA (jD (v := iv ((((kk + 1) + 1) + 1 + 7 * ((l.getD j e0).t.steps).length + 3 * ((l.getD j e0).t.ans).length : Nat) : Int)) rfl) <| jA (jf rfl rfl) <| jE <| jB <| jL (cB (cN (dT rfl))) <| jM <| jB <| jC <| jF ?_
    refine jA (jD (v := iv ((((kk + 1) + 1) + 1 + 7 * ((l.getD j e0).t.steps).length + 3 * ((l.getD j e0).t.ans).length : Nat) : Int)) rfl) <| jA (jT (c := (((((kk + 1) + 1) + 1 + 7 * ((l.getD j e0).t.steps).length + 3 * ((l.getD j e0).t.ans).length) + 1 : Nat) : Int)) rfl rfl (wr (by omega))) <| jA (jG (v := iv (((((kk + 1) + 1) + 1 + 7 * ((l.getD j e0).t.steps).length + 3 * ((l.getD j e0).t.ans).length) + 1 : Nat) : Int)) rfl) <| jE <| jB <| jC <| jC <| jF <| jA (jD (v := .slice a l.length c) he_2) <| jA (jD (v := nv j) he_4) ?_
    refine jA (jV (i := j) kM kP hr_8 hr_8b rfl rfl (by omega)) <| jA (jX fo75_6 hr_8 rfl) <| jP (ji (v := iv (((((kk + 1) + 1) + 1 + 7 * ((l.getD j e0).t.steps).length + 3 * ((l.getD j e0).t.ans).length) + 1 : Nat) : Int)) hs nM rfl kE (flat_atE encE_len e0 (markV mkE cntE l k) j 6 (by rw [markV_len]; exact hlt) (by decide) hget (encE_mk _ _))) <| jA (jD (v := iv (((((kk + 1) + 1) + 1 + 7 * ((l.getD j e0).t.steps).length + 3 * ((l.getD j e0).t.ans).length) + 1 : Nat) : Int)) rfl) <| jA (jf rfl rfl) <| jE <| jB <| jL (cB (cN (dT rfl))) <| jM <| jB ?_
    refine jC <| jF <| jA (jD (v := iv (((((kk + 1) + 1) + 1 + 7 * ((l.getD j e0).t.steps).length + 3 * ((l.getD j e0).t.ans).length) + 1 : Nat) : Int)) rfl) <| jA (jT (c := ((((((kk + 1) + 1) + 1 + 7 * ((l.getD j e0).t.steps).length + 3 * ((l.getD j e0).t.ans).length) + 1) + 1 : Nat) : Int)) rfl rfl (wr (by omega))) <| jA (jG (v := iv ((((((kk + 1) + 1) + 1 + 7 * ((l.getD j e0).t.steps).length + 3 * ((l.getD j e0).t.ans).length) + 1) + 1 : Nat) : Int)) rfl) <| jE <| jB <| jC <| jC <| jF ?_
    refine jA (jD (v := .slice a l.length c) he_2) <| jA (jD (v := nv j) he_4) <| jA (jV (i := j) kM kP hr_8 hr_8b rfl rfl (by omega)) <| jA (jX fo75_7 hr_8 rfl) <| jP (ji (v := .bool (decide ((((((((kk + 1) + 1) + 1 + 7 * ((l.getD j e0).t.steps).length + 3 * ((l.getD j e0).t.ans).length) + 1) + 1) % 3 : Nat) : Int) = 0))) hs nM rfl Tryz.isAgg4 (flat_atE encE_len e0 (markV mkE cntE l k) j 7 (by rw [markV_len]; exact hlt) (by decide) hget (encE_mk _ _))) <| jA (jD (v := iv ((((((kk + 1) + 1) + 1 + 7 * ((l.getD j e0).t.steps).length + 3 * ((l.getD j e0).t.ans).length) + 1) + 1 : Nat) : Int)) rfl) <| jA (PO.remN (c := (((((((kk + 1) + 1) + 1 + 7 * ((l.getD j e0).t.steps).length + 3 * ((l.getD j e0).t.ans).length) + 1) + 1) % 3 : Nat) : Int)) rfl rfl (by omega) (by omega) (by omega)) <| jA (PO.eqlI rfl rfl) <| jA (PO.neqB Tryz.underlying4 rfl rfl) <| jE ?_
    refine jB <| jL (cB (cN (dT rfl))) <| jM <| jB <| jF <| jA (jD (v := iv ((((((kk + 1) + 1) + 1 + 7 * ((l.getD j e0).t.steps).length + 3 * ((l.getD j e0).t.ans).length) + 1) + 1 : Nat) : Int)) rfl) <| jA (jT (c := (((((((kk + 1) + 1) + 1 + 7 * ((l.getD j e0).t.steps).length + 3 * ((l.getD j e0).t.ans).length) + 1) + 1) + 1 : Nat) : Int)) rfl rfl (wr (by omega))) <| jA (jG (v := iv (((((((kk + 1) + 1) + 1 + 7 * ((l.getD j e0).t.steps).length + 3 * ((l.getD j e0).t.ans).length) + 1) + 1) + 1 : Nat) : Int)) rfl) <| jE <| jk ?_
    refine jB <| jF <| jA (jD (v := nv j) he_4) <| jA (jT (c := ((j + 1 : Nat) : Int)) rfl rfl (wr (by omega))) <| jA (jG (v := iv ((j + 1 : Nat) : Int)) rfl) <| jE ?_
    refine jl (l.length - (j + 1)) (by omega) ⟨j + 1, (((((kk + 1) + 1) + 1 + 7 * ((l.getD j e0).t.steps).length + 3 * ((l.getD j e0).t.ans).length) + 1) + 1) + 1, by omega, (by rw [cntV_step e0 hlt]; simp only [cntE]; omega), he_2, rfl, rfl, rfl, rfl⟩
  refine jL (cB (dF h_5)) <| jm <| jY <| jY <| jn <| jB <| jC <| jF <| jA (jD (v := nv kk) he_3) <| jA (jG (v := nv kk) rfl) ?_
  refine jE <| jB <| jK <| jN (.inl rfl) rfl (jJ (v := nv kk) rfl) (List.nil_sublist _) ?_
  exact ⟨by rw [hkk, cntV_all (by omega)], rfl⟩

theorem C_eqJournal (t : Str) (s : Int) (u : Str) (r : Int) :
    Ct Tryz.prog 35 [.agg #[str t, .int .i64 s], .agg #[str u, .int .i64 r]] [] (fun _ => True) (fun v A' => v = .bool (decide (t = u ∧ s = r)) ∧ A' = []) := by
  refine Ct.intro Tryz.func35 rfl Tryz.ntmps35 (lb rfl) fun w0 hpre => ?_
  refine jC <| jF ?_
  refine jI rfl (jp (cs := [str t, iv s]) rfl rfl) ?_
  rintro _ _ ⟨b_1, rfl, rfl⟩
  refine jI rfl (jp (cs := [str u, iv r]) rfl rfl) ?_
  rintro _ _ ⟨b_2, rfl, rfl⟩
  refine jA (jG (v := .bool false) rfl) <| jE <| jB <| jC <| jC <| jF <| jA (jS fo26_0 rfl) <| jP (jU 1 (v := str t) rfl rfl kH rfl) <| jA (jS fo26_0 rfl) <| jP (jU 0 (v := str u) rfl rfl kH rfl) ?_
  refine jA (kA rfl rfl) <| jE <| jB ?_
  by_cases h_3 : t = u
  · refine jL (cB (cN (dT h_3))) <| jM <| jB <| jC <| jC <| jF <| jA (jS fo26_1 rfl) <| jP (jU 1 (v := iv s) rfl rfl kE rfl) <| jA (jS fo26_1 rfl) <| jP (jU 0 (v := iv r) rfl rfl kE rfl) ?_
    refine jA (jf rfl rfl) <| jE <| jB ?_
    by_cases h_4 : s = r
    · refine jL (cB (cN (dT h_4))) <| jM <| jB <| jC <| jF <| jA (jG (v := .bool true) rfl) <| jE <| jB <| jK <| jN (.inl rfl) rfl (jJ (v := .bool true) rfl) (List.nil_sublist _) ?_
      exact ⟨cB (dT ⟨by assumption, by assumption⟩).symm, rfl⟩
    refine jQ (cB (cN (dF h_4))) <| jC <| jF <| jA (jG (v := .bool false) rfl) <| jE <| jB <| jK <| jO <| jN (.inl rfl) rfl (jJ (v := .bool false) rfl) (List.nil_sublist _) ?_
    exact ⟨cB (dF (fun h_ => by obtain ⟨h_0, h_1⟩ := h_; contradiction)).symm, rfl⟩
  refine jQ (cB (cN (dF h_3))) <| jC <| jF <| jA (jG (v := .bool false) rfl) <| jE <| jB <| jK <| jO <| jN (.inl rfl) rfl (jJ (v := .bool false) rfl) (List.nil_sublist _) ?_
  exact ⟨cB (dF (fun h_ => by obtain ⟨h_0, h_1⟩ := h_; contradiction)).symm, rfl⟩

theorem C_eqDisk (d e : DX) (hl : d.dat.lim 1000000000) :
    Ct Tryz.prog 15 [.agg #[.slice d.a d.l.length d.c, str d.jt, .int .i64 d.js], .agg #[.slice e.a e.l.length e.c, str e.jt, .int .i64 e.js]] [] (fun w => SeesA w (rdsD d) ∧ SeesA w (rdsD e)) (fun v A' => v = .bool (decide (d.dat = e.dat)) ∧ A' = []) := by
  refine Ct.intro Tryz.func15 rfl Tryz.ntmps15 (lb rfl) fun w0 hpre => ?_
  have hs_1 : Sees w0 (.slice d.a d.l.length d.c) 3 d.l.length (d.l.flatMap encO) := (hpre.1).head
  have hi_2 : SeesA w0 (d.l.flatMap rdsO) := (hpre.1).tail
  have hs_3 : Sees w0 (.slice e.a e.l.length e.c) 3 e.l.length (e.l.flatMap encO) := (hpre.2).head
  have hi_4 : SeesA w0 (e.l.flatMap rdsO) := (hpre.2).tail
  have hlm : d.l.length ≤ 1000000000 ∧ ∀ q ∈ d.l, q.t.lim 1000000000 := ⟨by have := hl.l0; simpa only [DX.dat, List.length_map] using this, fun q hq => hl.l1 _ (List.mem_map_of_mem hq)⟩
  have hlm0 := hlm.1
  refine jC <| jF ?_
  refine jI rfl (jp (cs := [.slice d.a d.l.length d.c, str d.jt, iv d.js]) rfl rfl) ?_
  rintro _ _ ⟨b_5, rfl, rfl⟩
  refine jI rfl (jp (cs := [.slice e.a e.l.length e.c, str e.jt, iv e.js]) rfl rfl) ?_
  rintro _ _ ⟨b_6, rfl, rfl⟩
  refine jA (jG (v := .bool false) rfl) <| jE <| jB <| jC <| jC <| jF <| jA (jS fo28_0 rfl) <| jP (jU 1 (v := .slice d.a d.l.length d.c) rfl rfl Tryz.isAgg24 rfl) <| jA (jS fo28_0 rfl) <| jP (jU 0 (v := .slice e.a e.l.length e.c) rfl rfl Tryz.isAgg24 rfl) ?_
  refine jI rfl (jR [] Tryz.call34 rfl (C_eqSlotS d.a e.a d.c e.c d.l e.l (by omega) hlm.2) rfl (fun w hw => ⟨SeesA.cons (hw.seeOut_ hs_1 nM) (hw.seeOutA hi_2 nMA), SeesA.cons (hw.seeOut_ hs_3 nM) (hw.seeOutA hi_4 nMA)⟩)) ?_
  rintro _ _ ⟨_, ⟨rfl, rfl⟩, rfl⟩
  refine jA (jq rfl) <| jE <| jB ?_
  by_cases h_7 : d.l.map OX.t = e.l.map OX.t
  · refine jL (cB (cN (dT h_7))) <| jM <| jB <| jC <| jC <| jF <| jA (jS fo28_1 rfl) <| jP (jr 1 (vs := [str d.jt, iv d.js]) rfl rfl Tryz.isAgg26 Tryz.sizeOf26 rfl rfl) <| jA (jS fo28_1 rfl) <| jP (jr 0 (vs := [str e.jt, iv e.js]) rfl rfl Tryz.isAgg26 Tryz.sizeOf26 rfl rfl) ?_
    refine jI rfl (jR [] Tryz.call35 rfl (C_eqJournal d.jt d.js e.jt e.js) rfl (fun _ _ => trivial)) ?_
    rintro _ _ ⟨_, ⟨rfl, rfl⟩, rfl⟩
    refine jA (jq rfl) <| jE <| jB ?_
    by_cases h_8 : d.jt = e.jt ∧ d.js = e.js
    · obtain ⟨ht_9, ht_10⟩ := id h_8
      refine jL (cB (cN (dT h_8))) <| jM <| jB <| jC <| jF <| jA (jG (v := .bool true) rfl) <| jE <| jB <| jK <| jN (.inl rfl) rfl (jJ (v := .bool true) rfl) (List.nil_sublist _) ?_
      exact ⟨cB (dT (DD.same.2 ⟨by assumption, by assumption, by assumption⟩)).symm, rfl⟩
    refine jQ (cB (cN (dF h_8))) <| jC <| jF <| jA (jG (v := .bool false) rfl) <| jE <| jB <| jK <| jO <| jN (.inl rfl) rfl (jJ (v := .bool false) rfl) (List.nil_sublist _) ?_
    exact ⟨cB (dF (fun h_ => by obtain ⟨h_0, h_1, h_2⟩ := DD.same.1 h_; first | exact absurd (show d.l.map OX.t = e.l.map OX.t from h_0) (by assumption) | exact absurd (show d.jt = e.jt ∧ d.js = e.js from ⟨h_1, h_2⟩) (by assumption))).symm, rfl⟩
  refine jQ (cB (cN (dF h_7))) <| jC <| jF <| jA (jG (v := .bool false) rfl) <| jE <| jB <| jK <| jO <| jN (.inl rfl) rfl (jJ (v := .bool false) rfl) (List.nil_sublist _) ?_
  exact ⟨cB (dF (fun h_ => by obtain ⟨h_0, h_1, h_2⟩ := DD.same.1 h_; first | exact absurd (show d.l.map OX.t = e.l.map OX.t from h_0) (by assumption) | exact absurd (show d.jt = e.jt ∧ d.js = e.js from ⟨h_1, h_2⟩) (by assumption))).symm, rfl⟩

theorem C_markDisk (d : DX) (k : Nat) (h0 : 0 < k) (h1 : k + cntV cntO d.l ≤ 100000000) (hn : d.l.length ≤ 1000000000) :
    Ct Tryz.prog 20 [.agg #[.slice d.a d.l.length d.c, str d.jt, .int .i64 d.js], .int .i64 ((k : Nat) : Int)] [Res.rows (rdsD d)] (fun _ => True) (fun v A' => v = .int .i64 ((k + cntV cntO d.l : Nat) : Int) ∧ A' = [.rows (rdsOS d.a d.c (markV mkO cntO d.l k))]) := by
  refine Ct.intro Tryz.func20 rfl Tryz.ntmps20 (lb rfl) fun w0 hpre => ?_
  refine JC.ghost (L' := [Res.rows (rdsOS d.a d.c d.l)]) (fun w hw => hw.eqL rfl) <| jC <| jF ?_
  refine jI rfl (jp (cs := [.slice d.a d.l.length d.c, str d.jt, iv d.js]) rfl rfl) ?_
  rintro _ _ ⟨b_1, rfl, rfl⟩
  refine jA (jG (v := iv 0) rfl) <| jE <| jB <| jC <| jF <| jA (jS fo28_0 rfl) <| jP (jU 0 (v := .slice d.a d.l.length d.c) rfl rfl Tryz.isAgg24 rfl) <| jA (jD (v := nv k) rfl) ?_
  refine jI rfl (jR [1] Tryz.call41 rfl (C_markSlotS d.a d.c d.l k (by omega) (by omega) (by omega)) rfl (fun _ _ => trivial)) ?_
  rintro _ _ ⟨_, ⟨rfl, rfl⟩, rfl⟩
  refine jA (jG (v := iv ((k + cntV cntO d.l : Nat) : Int)) rfl) <| jE <| jB <| jC <| jF <| jA (jD (v := iv ((k + cntV cntO d.l : Nat) : Int)) rfl) <| jA (jG (v := iv ((k + cntV cntO d.l : Nat) : Int)) rfl) <| jE <| jB <| jK ?_
  refine jN (.inl rfl) rfl (jJ (v := iv ((k + cntV cntO d.l : Nat) : Int)) rfl) (tS 1 _) ?_
  exact ⟨rfl, rfl⟩

theorem C_heldDisk (d : DX) (k : Nat) (h0 : 0 < k) (h1 : k + cntV cntO d.l ≤ 100000000) (hn : d.l.length ≤ 1000000000) :
    Ct Tryz.prog 25 [.agg #[.slice d.a d.l.length d.c, str d.jt, .int .i64 d.js], .int .i64 ((k : Nat) : Int)] [] (fun w => SeesA w (rdsOS d.a d.c (markV mkO cntO d.l k))) (fun v A' => v = .int .i64 ((k + cntV cntO d.l : Nat) : Int) ∧ A' = []) := by
  refine Ct.intro Tryz.func25 rfl Tryz.ntmps25 (lb rfl) fun w0 hpre => ?_
  refine jC <| jF ?_
  refine jI rfl (jp (cs := [.slice d.a d.l.length d.c, str d.jt, iv d.js]) rfl rfl) ?_
  rintro _ _ ⟨b_1, rfl, rfl⟩
  refine jA (jG (v := iv 0) rfl) <| jE <| jB <| jC <| jF <| jA (jS fo28_0 rfl) <| jP (jU 0 (v := .slice d.a d.l.length d.c) rfl rfl Tryz.isAgg24 rfl) <| jA (jD (v := nv k) rfl) ?_
  refine jI rfl (jR [] Tryz.call46 rfl (C_heldSlotS d.a d.c d.l k (by omega) (by omega) (by omega)) rfl (fun w hw => hw.seeOutA hpre nMA)) ?_
  rintro _ _ ⟨_, ⟨rfl, rfl⟩, rfl⟩
  refine jA (jG (v := iv ((k + cntV cntO d.l : Nat) : Int)) rfl) <| jE <| jB <| jC <| jC <| jF <| jA (jD (v := iv ((k + cntV cntO d.l : Nat) : Int)) rfl) <| jA (jb rfl rfl) <| jE <| jB ?_
  by_cases h_2 : ((k + cntV cntO d.l : Nat) : Int) < 0
  · refine jQ (cB (dT h_2)) <| jC <| jF <| jA (jG (v := iv (-1)) rfl) <| jE <| jB <| jK <| jO <| jN (.inl rfl) rfl (jJ (v := iv (-1)) rfl) (List.nil_sublist _) ?_
    exfalso
    omega
  refine jL (cB (dF h_2)) <| jM <| jB <| jC <| jF <| jA (jD (v := iv ((k + cntV cntO d.l : Nat) : Int)) rfl) <| jA (jG (v := iv ((k + cntV cntO d.l : Nat) : Int)) rfl) <| jE <| jB <| jK ?_
  refine jN (.inl rfl) rfl (jJ (v := iv ((k + cntV cntO d.l : Nat) : Int)) rfl) (List.nil_sublist _) ?_
  exact ⟨rfl, rfl⟩

theorem C_eqKernel (k r : KX) (hl : k.dat.lim 1000000000) :
    Ct Tryz.prog 6 [.agg #[.slice k.a0 k.store.length k.c0, .slice k.a1 k.txs.length k.c1, .slice k.dk.a k.dk.l.length k.dk.c, str k.dk.jt, .int .i64 k.dk.js, .int .i64 k.seq, .int .i64 k.next, .int .i64 k.time, .slice k.a2 k.hist.length k.c2, .slice k.a3 k.seen.length k.c3, .bool k.room], .agg #[.slice r.a0 r.store.length r.c0, .slice r.a1 r.txs.length r.c1, .slice r.dk.a r.dk.l.length r.dk.c, str r.dk.jt, .int .i64 r.dk.js, .int .i64 r.seq, .int .i64 r.next, .int .i64 r.time, .slice r.a2 r.hist.length r.c2, .slice r.a3 r.seen.length r.c3, .bool r.room]] [] (fun w => SeesA w (rdsN k) ∧ SeesA w (rdsN r)) (fun v A' => v = .bool (decide (k.dat = r.dat)) ∧ A' = []) := by
  refine Ct.intro Tryz.func6 rfl Tryz.ntmps6 (lb rfl) fun w0 hpre => ?_
  obtain ⟨hs_1, hs_2, hs_3, hs_4, hs_5⟩ := seesN hpre.1
  have hs_6 : Sees w0 (.slice k.a1 k.txs.length k.c1) 10 k.txs.length (k.txs.flatMap encX) := (hs_3).head
  have hi_7 : SeesA w0 (k.txs.flatMap rdsX) := (hs_3).tail
  have hs_8 : Sees w0 (.slice k.dk.a k.dk.l.length k.dk.c) 3 k.dk.l.length (k.dk.l.flatMap encO) := (hs_4).head
  have hi_9 : SeesA w0 (k.dk.l.flatMap rdsO) := (hs_4).tail
  have hs_10 : Sees w0 (.slice k.a2 k.hist.length k.c2) 8 k.hist.length (k.hist.flatMap encE) := (hs_5).head
  have hi_11 : SeesA w0 (k.hist.flatMap rdsE) := (hs_5).tail
  obtain ⟨hs_12, hs_13, hs_14, hs_15, hs_16⟩ := seesN hpre.2
  have hs_17 : Sees w0 (.slice r.a1 r.txs.length r.c1) 10 r.txs.length (r.txs.flatMap encX) := (hs_14).head
  have hi_18 : SeesA w0 (r.txs.flatMap rdsX) := (hs_14).tail
  have hs_19 : Sees w0 (.slice r.dk.a r.dk.l.length r.dk.c) 3 r.dk.l.length (r.dk.l.flatMap encO) := (hs_15).head
  have hi_20 : SeesA w0 (r.dk.l.flatMap rdsO) := (hs_15).tail
  have hs_21 : Sees w0 (.slice r.a2 r.hist.length r.c2) 8 r.hist.length (r.hist.flatMap encE) := (hs_16).head
  have hi_22 : SeesA w0 (r.hist.flatMap rdsE) := (hs_16).tail
  have hm0 : k.store.length ≤ 1000000000 := hl.l0
  have hm6 : k.seen.length ≤ 1000000000 := hl.l6
  have hm1 : k.txs.length ≤ 1000000000 := by have := hl.l1; simpa only [KX.dat, List.length_map] using this
  have hm2 : ∀ q ∈ k.txs, q.t.lim 1000000000 := fun q hq => hl.l2 _ (List.mem_map_of_mem hq)
  have hm4 : k.hist.length ≤ 1000000000 := by have := hl.l4; simpa only [KX.dat, List.length_map] using this
  have hm5 : ∀ q ∈ k.hist, q.t.lim 1000000000 := fun q hq => hl.l5 _ (List.mem_map_of_mem hq)
  refine jC <| jF ?_
  refine jI rfl (jp (cs := [.slice k.a0 k.store.length k.c0, .slice k.a1 k.txs.length k.c1, .slice k.dk.a k.dk.l.length k.dk.c, str k.dk.jt, iv k.dk.js, iv k.seq, iv k.next, iv k.time, .slice k.a2 k.hist.length k.c2, .slice k.a3 k.seen.length k.c3, .bool k.room]) rfl rfl) ?_
  rintro _ _ ⟨b_23, rfl, rfl⟩
  refine jI rfl (jp (cs := [.slice r.a0 r.store.length r.c0, .slice r.a1 r.txs.length r.c1, .slice r.dk.a r.dk.l.length r.dk.c, str r.dk.jt, iv r.dk.js, iv r.seq, iv r.next, iv r.time, .slice r.a2 r.hist.length r.c2, .slice r.a3 r.seen.length r.c3, .bool r.room]) rfl rfl) ?_
  rintro _ _ ⟨b_24, rfl, rfl⟩
  refine jA (jG (v := .bool false) rfl) <| jE <| jB <| jC <| jC <| jF <| jA (jS fo32_0 rfl) <| jP (jU 1 (v := .slice k.a0 k.store.length k.c0) rfl rfl kX rfl) <| jA (jS fo32_0 rfl) <| jP (jU 0 (v := .slice r.a0 r.store.length r.c0) rfl rfl kX rfl) ?_
  refine jI rfl (jR [] Tryz.call13 rfl (C_eqCellS k.a0 r.a0 k.c0 r.c0 k.store r.store (by omega)) rfl (fun w hw => ⟨hw.seeOut_ hs_1 nM, hw.seeOut_ hs_12 nM⟩)) ?_
  rintro _ _ ⟨_, ⟨rfl, rfl⟩, rfl⟩
  refine jA (jq rfl) <| jE <| jB ?_
  by_cases h_25 : k.store = r.store
  · refine jL (cB (cN (dT h_25))) <| jM <| jB <| jC <| jC <| jF <| jA (jS fo32_1 rfl) <| jP (jU 1 (v := .slice k.a1 k.txs.length k.c1) rfl rfl Tryz.isAgg23 rfl) <| jA (jS fo32_1 rfl) <| jP (jU 0 (v := .slice r.a1 r.txs.length r.c1) rfl rfl Tryz.isAgg23 rfl) ?_
    refine jI rfl (jR [] Tryz.call14 rfl (C_eqTxS k.a1 r.a1 k.c1 r.c1 k.txs r.txs (by omega) hm2) rfl (fun w hw => ⟨SeesA.cons (hw.seeOut_ hs_6 nM) (hw.seeOutA hi_7 nMA), SeesA.cons (hw.seeOut_ hs_17 nM) (hw.seeOutA hi_18 nMA)⟩)) ?_
    rintro _ _ ⟨_, ⟨rfl, rfl⟩, rfl⟩
    refine jA (jq rfl) <| jE <| jB ?_
    by_cases h_26 : k.txs.map TX.t = r.txs.map TX.t
    · refine jL (cB (cN (dT h_26))) <| jM <| jB <| jC <| jC <| jF <| jA (jS fo32_2 rfl) <| jP (jr 1 (vs := [.slice k.dk.a k.dk.l.length k.dk.c, str k.dk.jt, iv k.dk.js]) rfl rfl Tryz.isAgg28 Tryz.sizeOf28 rfl rfl) <| jA (jS fo32_2 rfl) <| jP (jr 0 (vs := [.slice r.dk.a r.dk.l.length r.dk.c, str r.dk.jt, iv r.dk.js]) rfl rfl Tryz.isAgg28 Tryz.sizeOf28 rfl rfl) ?_
      refine jI rfl (jR [] Tryz.call15 rfl (C_eqDisk k.dk r.dk hl.l3) rfl (fun w hw => ⟨hw.seeOutA hs_4 nMA, hw.seeOutA hs_15 nMA⟩)) ?_
      rintro _ _ ⟨_, ⟨rfl, rfl⟩, rfl⟩
      refine jA (jq rfl) <| jE <| jB ?_
      by_cases h_27 : k.dk.dat = r.dk.dat
      · refine jL (cB (cN (dT h_27))) <| jM <| jB <| jC <| jC <| jF <| jA (jS fo32_3 rfl) <| jP (jU 1 (v := iv k.seq) rfl rfl kE rfl) <| jA (jS fo32_3 rfl) <| jP (jU 0 (v := iv r.seq) rfl rfl kE rfl) ?_
        refine jA (jf rfl rfl) <| jE <| jB ?_
        by_cases h_28 : k.seq = r.seq
        · refine jL (cB (cN (dT h_28))) <| jM <| jB <| jC <| jC <| jF <| jA (jS fo32_4 rfl) <| jP (jU 1 (v := iv k.next) rfl rfl kE rfl) <| jA (jS fo32_4 rfl) <| jP (jU 0 (v := iv r.next) rfl rfl kE rfl) ?_
          refine jA (jf rfl rfl) <| jE <| jB ?_
          by_cases h_29 : k.next = r.next
          · refine jL (cB (cN (dT h_29))) <| jM <| jB <| jC <| jC <| jF <| jA (jS fo32_5 rfl) <| jP (jU 1 (v := iv k.time) rfl rfl kE rfl) <| jA (jS fo32_5 rfl) <| jP (jU 0 (v := iv r.time) rfl rfl kE rfl) ?_
            refine jA (jf rfl rfl) <| jE <| jB ?_
            by_cases h_30 : k.time = r.time
            · refine jL (cB (cN (dT h_30))) <| jM <| jB <| jC <| jC <| jF <| jA (jS fo32_6 rfl) <| jP (jU 1 (v := .slice k.a2 k.hist.length k.c2) rfl rfl Tryz.isAgg29 rfl) <| jA (jS fo32_6 rfl) <| jP (jU 0 (v := .slice r.a2 r.hist.length r.c2) rfl rfl Tryz.isAgg29 rfl) ?_
              refine jI rfl (jR [] Tryz.call16 rfl (C_eqEntryS k.a2 r.a2 k.c2 r.c2 k.hist r.hist (by omega) hm5) rfl (fun w hw => ⟨SeesA.cons (hw.seeOut_ hs_10 nM) (hw.seeOutA hi_11 nMA), SeesA.cons (hw.seeOut_ hs_21 nM) (hw.seeOutA hi_22 nMA)⟩)) ?_
              rintro _ _ ⟨_, ⟨rfl, rfl⟩, rfl⟩
              refine jA (jq rfl) <| jE <| jB ?_
              by_cases h_31 : k.hist.map EX.t = r.hist.map EX.t
              · refine jL (cB (cN (dT h_31))) <| jM <| jB <| jC <| jC <| jF <| jA (jS fo32_7 rfl) <| jP (jU 1 (v := .slice k.a3 k.seen.length k.c3) rfl rfl kT rfl) <| jA (jS fo32_7 rfl) <| jP (jU 0 (v := .slice r.a3 r.seen.length r.c3) rfl rfl kT rfl) ?_
                refine jI rfl (jR [] Tryz.call17 rfl (C_eqStringS k.a3 r.a3 k.c3 r.c3 k.seen r.seen (by omega)) rfl (fun w hw => ⟨hw.seeOut_ hs_2 nM, hw.seeOut_ hs_13 nM⟩)) ?_
                rintro _ _ ⟨_, ⟨rfl, rfl⟩, rfl⟩
                refine jA (jq rfl) <| jE <| jB ?_
                by_cases h_32 : k.seen = r.seen
                · refine jL (cB (cN (dT h_32))) <| jM <| jB <| jC <| jC <| jF <| jA (jS fo32_8 rfl) <| jP (jU 1 (v := .bool k.room) rfl rfl Tryz.isAgg4 rfl) <| jA (jS fo32_8 rfl) <| jP (jU 0 (v := .bool r.room) rfl rfl Tryz.isAgg4 rfl) ?_
                  refine jA (PO.neqB Tryz.underlying4 rfl rfl) <| jE <| jB ?_
                  by_cases h_33 : k.room = r.room
                  · refine jL (cB (cN (dT h_33))) <| jM <| jB <| jC <| jF <| jA (jG (v := .bool true) rfl) <| jE <| jB <| jK <| jN (.inl rfl) rfl (jJ (v := .bool true) rfl) (List.nil_sublist _) ?_
                    exact ⟨cB (dT (KD.same.2 ⟨by assumption, by assumption, by assumption, by assumption, by assumption, by assumption, by assumption, by assumption, by assumption⟩)).symm, rfl⟩
                  refine jQ (cB (cN (dF h_33))) <| jC <| jF <| jA (jG (v := .bool false) rfl) <| jE <| jB <| jK <| jO <| jN (.inl rfl) rfl (jJ (v := .bool false) rfl) (List.nil_sublist _) ?_
                  exact ⟨cB (dF (fun h_ => by obtain ⟨h_0, h_1, h_2, h_3, h_4, h_5, h_6, h_7, h_8⟩ := KD.same.1 h_; first | exact absurd (show k.store = r.store from h_0) (by assumption) | exact absurd (show k.txs.map TX.t = r.txs.map TX.t from h_1) (by assumption) | exact absurd (show k.dk.dat = r.dk.dat from h_2) (by assumption) | exact absurd (show k.seq = r.seq from h_3) (by assumption) | exact absurd (show k.next = r.next from h_4) (by assumption) | exact absurd (show k.time = r.time from h_5) (by assumption) | exact absurd (show k.hist.map EX.t = r.hist.map EX.t from h_6) (by assumption) | exact absurd (show k.seen = r.seen from h_7) (by assumption) | exact absurd (show k.room = r.room from h_8) (by assumption))).symm, rfl⟩
                refine jQ (cB (cN (dF h_32))) <| jC <| jF <| jA (jG (v := .bool false) rfl) <| jE <| jB <| jK <| jO <| jN (.inl rfl) rfl (jJ (v := .bool false) rfl) (List.nil_sublist _) ?_
                exact ⟨cB (dF (fun h_ => by obtain ⟨h_0, h_1, h_2, h_3, h_4, h_5, h_6, h_7, h_8⟩ := KD.same.1 h_; first | exact absurd (show k.store = r.store from h_0) (by assumption) | exact absurd (show k.txs.map TX.t = r.txs.map TX.t from h_1) (by assumption) | exact absurd (show k.dk.dat = r.dk.dat from h_2) (by assumption) | exact absurd (show k.seq = r.seq from h_3) (by assumption) | exact absurd (show k.next = r.next from h_4) (by assumption) | exact absurd (show k.time = r.time from h_5) (by assumption) | exact absurd (show k.hist.map EX.t = r.hist.map EX.t from h_6) (by assumption) | exact absurd (show k.seen = r.seen from h_7) (by assumption) | exact absurd (show k.room = r.room from h_8) (by assumption))).symm, rfl⟩
              refine jQ (cB (cN (dF h_31))) <| jC <| jF <| jA (jG (v := .bool false) rfl) <| jE <| jB <| jK <| jO <| jN (.inl rfl) rfl (jJ (v := .bool false) rfl) (List.nil_sublist _) ?_
              exact ⟨cB (dF (fun h_ => by obtain ⟨h_0, h_1, h_2, h_3, h_4, h_5, h_6, h_7, h_8⟩ := KD.same.1 h_; first | exact absurd (show k.store = r.store from h_0) (by assumption) | exact absurd (show k.txs.map TX.t = r.txs.map TX.t from h_1) (by assumption) | exact absurd (show k.dk.dat = r.dk.dat from h_2) (by assumption) | exact absurd (show k.seq = r.seq from h_3) (by assumption) | exact absurd (show k.next = r.next from h_4) (by assumption) | exact absurd (show k.time = r.time from h_5) (by assumption) | exact absurd (show k.hist.map EX.t = r.hist.map EX.t from h_6) (by assumption) | exact absurd (show k.seen = r.seen from h_7) (by assumption) | exact absurd (show k.room = r.room from h_8) (by assumption))).symm, rfl⟩
            refine jQ (cB (cN (dF h_30))) <| jC <| jF <| jA (jG (v := .bool false) rfl) <| jE <| jB <| jK <| jO <| jN (.inl rfl) rfl (jJ (v := .bool false) rfl) (List.nil_sublist _) ?_
            exact ⟨cB (dF (fun h_ => by obtain ⟨h_0, h_1, h_2, h_3, h_4, h_5, h_6, h_7, h_8⟩ := KD.same.1 h_; first | exact absurd (show k.store = r.store from h_0) (by assumption) | exact absurd (show k.txs.map TX.t = r.txs.map TX.t from h_1) (by assumption) | exact absurd (show k.dk.dat = r.dk.dat from h_2) (by assumption) | exact absurd (show k.seq = r.seq from h_3) (by assumption) | exact absurd (show k.next = r.next from h_4) (by assumption) | exact absurd (show k.time = r.time from h_5) (by assumption) | exact absurd (show k.hist.map EX.t = r.hist.map EX.t from h_6) (by assumption) | exact absurd (show k.seen = r.seen from h_7) (by assumption) | exact absurd (show k.room = r.room from h_8) (by assumption))).symm, rfl⟩
          refine jQ (cB (cN (dF h_29))) <| jC <| jF <| jA (jG (v := .bool false) rfl) <| jE <| jB <| jK <| jO <| jN (.inl rfl) rfl (jJ (v := .bool false) rfl) (List.nil_sublist _) ?_
          exact ⟨cB (dF (fun h_ => by obtain ⟨h_0, h_1, h_2, h_3, h_4, h_5, h_6, h_7, h_8⟩ := KD.same.1 h_; first | exact absurd (show k.store = r.store from h_0) (by assumption) | exact absurd (show k.txs.map TX.t = r.txs.map TX.t from h_1) (by assumption) | exact absurd (show k.dk.dat = r.dk.dat from h_2) (by assumption) | exact absurd (show k.seq = r.seq from h_3) (by assumption) | exact absurd (show k.next = r.next from h_4) (by assumption) | exact absurd (show k.time = r.time from h_5) (by assumption) | exact absurd (show k.hist.map EX.t = r.hist.map EX.t from h_6) (by assumption) | exact absurd (show k.seen = r.seen from h_7) (by assumption) | exact absurd (show k.room = r.room from h_8) (by assumption))).symm, rfl⟩
        refine jQ (cB (cN (dF h_28))) <| jC <| jF <| jA (jG (v := .bool false) rfl) <| jE <| jB <| jK <| jO <| jN (.inl rfl) rfl (jJ (v := .bool false) rfl) (List.nil_sublist _) ?_
        exact ⟨cB (dF (fun h_ => by obtain ⟨h_0, h_1, h_2, h_3, h_4, h_5, h_6, h_7, h_8⟩ := KD.same.1 h_; first | exact absurd (show k.store = r.store from h_0) (by assumption) | exact absurd (show k.txs.map TX.t = r.txs.map TX.t from h_1) (by assumption) | exact absurd (show k.dk.dat = r.dk.dat from h_2) (by assumption) | exact absurd (show k.seq = r.seq from h_3) (by assumption) | exact absurd (show k.next = r.next from h_4) (by assumption) | exact absurd (show k.time = r.time from h_5) (by assumption) | exact absurd (show k.hist.map EX.t = r.hist.map EX.t from h_6) (by assumption) | exact absurd (show k.seen = r.seen from h_7) (by assumption) | exact absurd (show k.room = r.room from h_8) (by assumption))).symm, rfl⟩
      refine jQ (cB (cN (dF h_27))) <| jC <| jF <| jA (jG (v := .bool false) rfl) <| jE <| jB <| jK <| jO <| jN (.inl rfl) rfl (jJ (v := .bool false) rfl) (List.nil_sublist _) ?_
      exact ⟨cB (dF (fun h_ => by obtain ⟨h_0, h_1, h_2, h_3, h_4, h_5, h_6, h_7, h_8⟩ := KD.same.1 h_; first | exact absurd (show k.store = r.store from h_0) (by assumption) | exact absurd (show k.txs.map TX.t = r.txs.map TX.t from h_1) (by assumption) | exact absurd (show k.dk.dat = r.dk.dat from h_2) (by assumption) | exact absurd (show k.seq = r.seq from h_3) (by assumption) | exact absurd (show k.next = r.next from h_4) (by assumption) | exact absurd (show k.time = r.time from h_5) (by assumption) | exact absurd (show k.hist.map EX.t = r.hist.map EX.t from h_6) (by assumption) | exact absurd (show k.seen = r.seen from h_7) (by assumption) | exact absurd (show k.room = r.room from h_8) (by assumption))).symm, rfl⟩
    refine jQ (cB (cN (dF h_26))) <| jC <| jF <| jA (jG (v := .bool false) rfl) <| jE <| jB <| jK <| jO <| jN (.inl rfl) rfl (jJ (v := .bool false) rfl) (List.nil_sublist _) ?_
    exact ⟨cB (dF (fun h_ => by obtain ⟨h_0, h_1, h_2, h_3, h_4, h_5, h_6, h_7, h_8⟩ := KD.same.1 h_; first | exact absurd (show k.store = r.store from h_0) (by assumption) | exact absurd (show k.txs.map TX.t = r.txs.map TX.t from h_1) (by assumption) | exact absurd (show k.dk.dat = r.dk.dat from h_2) (by assumption) | exact absurd (show k.seq = r.seq from h_3) (by assumption) | exact absurd (show k.next = r.next from h_4) (by assumption) | exact absurd (show k.time = r.time from h_5) (by assumption) | exact absurd (show k.hist.map EX.t = r.hist.map EX.t from h_6) (by assumption) | exact absurd (show k.seen = r.seen from h_7) (by assumption) | exact absurd (show k.room = r.room from h_8) (by assumption))).symm, rfl⟩
  refine jQ (cB (cN (dF h_25))) <| jC <| jF <| jA (jG (v := .bool false) rfl) <| jE <| jB <| jK <| jO <| jN (.inl rfl) rfl (jJ (v := .bool false) rfl) (List.nil_sublist _) ?_
  exact ⟨cB (dF (fun h_ => by obtain ⟨h_0, h_1, h_2, h_3, h_4, h_5, h_6, h_7, h_8⟩ := KD.same.1 h_; first | exact absurd (show k.store = r.store from h_0) (by assumption) | exact absurd (show k.txs.map TX.t = r.txs.map TX.t from h_1) (by assumption) | exact absurd (show k.dk.dat = r.dk.dat from h_2) (by assumption) | exact absurd (show k.seq = r.seq from h_3) (by assumption) | exact absurd (show k.next = r.next from h_4) (by assumption) | exact absurd (show k.time = r.time from h_5) (by assumption) | exact absurd (show k.hist.map EX.t = r.hist.map EX.t from h_6) (by assumption) | exact absurd (show k.seen = r.seen from h_7) (by assumption) | exact absurd (show k.room = r.room from h_8) (by assumption))).symm, rfl⟩

theorem C_markKernel (k : KX) (m : Nat) (h0 : 0 < m) (h1 : m + k.cnt ≤ 100000000) (hl : k.dat.lim 1000000000) :
    Ct Tryz.prog 7 [.agg #[.slice k.a0 k.store.length k.c0, .slice k.a1 k.txs.length k.c1, .slice k.dk.a k.dk.l.length k.dk.c, str k.dk.jt, .int .i64 k.dk.js, .int .i64 k.seq, .int .i64 k.next, .int .i64 k.time, .slice k.a2 k.hist.length k.c2, .slice k.a3 k.seen.length k.c3, .bool k.room], .int .i64 ((m : Nat) : Int)] [Res.rows (rdsN k)] (fun _ => True) (fun v A' => v = .int .i64 ((m + k.cnt : Nat) : Int) ∧ A' = [.rows (rdsN (mkN k m))]) := by
  refine Ct.intro Tryz.func7 rfl Tryz.ntmps7 (lb rfl) fun w0 hpre => ?_
  have hm0 : k.store.length ≤ 1000000000 := hl.l0
  have hm6 : k.seen.length ≤ 1000000000 := hl.l6
  have hm1 : k.txs.length ≤ 1000000000 := by have := hl.l1; simpa only [KX.dat, List.length_map] using this
  have hm2 : ∀ q ∈ k.txs, q.t.lim 1000000000 := fun q hq => hl.l2 _ (List.mem_map_of_mem hq)
  have hm4 : k.hist.length ≤ 1000000000 := by have := hl.l4; simpa only [KX.dat, List.length_map] using this
  have hm5 : ∀ q ∈ k.hist, q.t.lim 1000000000 := fun q hq => hl.l5 _ (List.mem_map_of_mem hq)
  have hm3 : k.dk.l.length ≤ 1000000000 := by have := hl.l3.l0; simpa only [KX.dat, DX.dat, List.length_map] using this
  have hcn : k.cnt = 2 * k.store.length + cntV cntX k.txs + cntV cntO k.dk.l + cntV cntE k.hist + k.seen.length := rfl
  refine JC.ghost (L' := [rC k.a0 k.c0 k.store, rS k.a3 k.c3 k.seen, Res.rows (rdsXS k.a1 k.c1 k.txs), Res.rows (rdsD k.dk), Res.rows (rdsES k.a2 k.c2 k.hist)]) (fun w hw => hw.openN) <| jC <| jF ?_
  refine jI rfl (jp (cs := [.slice k.a0 k.store.length k.c0, .slice k.a1 k.txs.length k.c1, .slice k.dk.a k.dk.l.length k.dk.c, str k.dk.jt, iv k.dk.js, iv k.seq, iv k.next, iv k.time, .slice k.a2 k.hist.length k.c2, .slice k.a3 k.seen.length k.c3, .bool k.room]) rfl rfl) ?_
  rintro _ _ ⟨b_1, rfl, rfl⟩
  refine jA (jG (v := iv 0) rfl) <| jE <| jB <| jC <| jF <| jA (jS fo32_0 rfl) <| jP (jU 0 (v := .slice k.a0 k.store.length k.c0) rfl rfl kX rfl) <| jA (jD (v := nv m) rfl) ?_
  refine jI rfl (jR [1] Tryz.call18 rfl (C_markCellS k.a0 k.c0 k.store m (by omega) (by omega)) rfl (fun _ _ => trivial)) ?_
  rintro _ _ ⟨_, ⟨rfl, rfl⟩, rfl⟩
  refine jA (jG (v := iv ((m + 2 * k.store.length : Nat) : Int)) rfl) <| jE <| jB <| jC <| jF <| jA (jS fo32_1 rfl) <| jP (jU 1 (v := .slice k.a1 k.txs.length k.c1) rfl rfl Tryz.isAgg23 rfl) <| jA (jD (v := iv ((m + 2 * k.store.length : Nat) : Int)) rfl) ?_
  refine jI rfl (jR [3] Tryz.call19 rfl (C_markTxS k.a1 k.c1 k.txs (m + 2 * k.store.length) (by omega) (by omega) (by omega)) rfl (fun _ _ => trivial)) ?_
  rintro _ _ ⟨_, ⟨rfl, rfl⟩, rfl⟩
  refine jA (jG (v := iv ((m + 2 * k.store.length + cntV cntX k.txs : Nat) : Int)) rfl) <| jE <| jB <| jC <| jF <| jA (jS fo32_2 rfl) <| jP (jr 2 (vs := [.slice k.dk.a k.dk.l.length k.dk.c, str k.dk.jt, iv k.dk.js]) rfl rfl Tryz.isAgg28 Tryz.sizeOf28 rfl rfl) <| jA (jD (v := iv ((m + 2 * k.store.length + cntV cntX k.txs : Nat) : Int)) rfl) ?_
  refine jI rfl (jR [4] Tryz.call20 rfl (C_markDisk k.dk (m + 2 * k.store.length + cntV cntX k.txs) (by omega) (by omega) (by omega)) rfl (fun _ _ => trivial)) ?_
  rintro _ _ ⟨_, ⟨rfl, rfl⟩, rfl⟩
  refine jA (jG (v := iv ((m + 2 * k.store.length + cntV cntX k.txs + cntV cntO k.dk.l : Nat) : Int)) rfl) <| jE <| jB <| jC <| jF <| jA (jS fo32_6 rfl) <| jP (jU 3 (v := .slice k.a2 k.hist.length k.c2) rfl rfl Tryz.isAgg29 rfl) <| jA (jD (v := iv ((m + 2 * k.store.length + cntV cntX k.txs + cntV cntO k.dk.l : Nat) : Int)) rfl) ?_
  refine jI rfl (jR [5] Tryz.call21 rfl (C_markEntryS k.a2 k.c2 k.hist (m + 2 * k.store.length + cntV cntX k.txs + cntV cntO k.dk.l) (by omega) (by omega) (by omega)) rfl (fun _ _ => trivial)) ?_
  rintro _ _ ⟨_, ⟨rfl, rfl⟩, rfl⟩
  refine jA (jG (v := iv ((m + 2 * k.store.length + cntV cntX k.txs + cntV cntO k.dk.l + cntV cntE k.hist : Nat) : Int)) rfl) <| jE <| jB <| jC <| jF <| jA (jS fo32_7 rfl) <| jP (jU 4 (v := .slice k.a3 k.seen.length k.c3) rfl rfl kT rfl) <| jA (jD (v := iv ((m + 2 * k.store.length + cntV cntX k.txs + cntV cntO k.dk.l + cntV cntE k.hist : Nat) : Int)) rfl) ?_
  refine jI rfl (jR [5] Tryz.call22 rfl (C_markStringS k.a3 k.c3 k.seen (m + 2 * k.store.length + cntV cntX k.txs + cntV cntO k.dk.l + cntV cntE k.hist) (by omega) (by omega)) rfl (fun _ _ => trivial)) ?_
  rintro _ _ ⟨_, ⟨rfl, rfl⟩, rfl⟩
  refine jA (jG (v := iv ((m + 2 * k.store.length + cntV cntX k.txs + cntV cntO k.dk.l + cntV cntE k.hist + k.seen.length : Nat) : Int)) rfl) <| jE <| jB <| jC <| jF <| jA (jD (v := iv ((m + 2 * k.store.length + cntV cntX k.txs + cntV cntO k.dk.l + cntV cntE k.hist + k.seen.length : Nat) : Int)) rfl) <| jA (jG (v := iv ((m + 2 * k.store.length + cntV cntX k.txs + cntV cntO k.dk.l + cntV cntE k.hist + k.seen.length : Nat) : Int)) rfl) <| jE <| jB <| jK ?_
  refine JQ.pick [4, 0, 2, 1, 0] (A := [Res.row (.slice k.a0 k.store.length k.c0) 62 2 k.store.length ((markC k.store (m)).flatMap encC), Res.row (.slice k.a3 k.seen.length k.c3) 9 1 k.seen.length ((markS k.seen (m + 2 * k.store.length + cntV cntX k.txs + cntV cntO k.dk.l + cntV cntE k.hist)).map str), Res.rows (rdsXS k.a1 k.c1 (markV mkX cntX k.txs (m + 2 * k.store.length))), Res.rows (rdsOS k.dk.a k.dk.c (markV mkO cntO k.dk.l (m + 2 * k.store.length + cntV cntX k.txs))), Res.rows (rdsES k.a2 k.c2 (markV mkE cntE k.hist (m + 2 * k.store.length + cntV cntX k.txs + cntV cntO k.dk.l)))]) rfl <| kC (L' := [Res.rows (rdsN (mkN k m))]) (fun w hw => St.markN hw) <| jN (.inl rfl) rfl (jJ (v := iv ((m + 2 * k.store.length + cntV cntX k.txs + cntV cntO k.dk.l + cntV cntE k.hist + k.seen.length : Nat) : Int)) rfl) (List.Sublist.refl _) ?_
  exact ⟨congrArg (Value.int .i64) (by omega), rfl⟩

theorem C_heldKernel (k : KX) (m : Nat) (h0 : 0 < m) (h1 : m + k.cnt ≤ 100000000) (hl : k.dat.lim 1000000000) :
    Ct Tryz.prog 8 [.agg #[.slice k.a0 k.store.length k.c0, .slice k.a1 k.txs.length k.c1, .slice k.dk.a k.dk.l.length k.dk.c, str k.dk.jt, .int .i64 k.dk.js, .int .i64 k.seq, .int .i64 k.next, .int .i64 k.time, .slice k.a2 k.hist.length k.c2, .slice k.a3 k.seen.length k.c3, .bool k.room], .int .i64 ((m : Nat) : Int)] [] (fun w => SeesA w (rdsN (mkN k m))) (fun v A' => v = .int .i64 ((m + k.cnt : Nat) : Int) ∧ A' = []) := by
  refine Ct.intro Tryz.func8 rfl Tryz.ntmps8 (lb rfl) fun w0 hpre => ?_
  have hm0 : k.store.length ≤ 1000000000 := hl.l0
  have hm6 : k.seen.length ≤ 1000000000 := hl.l6
  have hm1 : k.txs.length ≤ 1000000000 := by have := hl.l1; simpa only [KX.dat, List.length_map] using this
  have hm2 : ∀ q ∈ k.txs, q.t.lim 1000000000 := fun q hq => hl.l2 _ (List.mem_map_of_mem hq)
  have hm4 : k.hist.length ≤ 1000000000 := by have := hl.l4; simpa only [KX.dat, List.length_map] using this
  have hm5 : ∀ q ∈ k.hist, q.t.lim 1000000000 := fun q hq => hl.l5 _ (List.mem_map_of_mem hq)
  have hm3 : k.dk.l.length ≤ 1000000000 := by have := hl.l3.l0; simpa only [KX.dat, DX.dat, List.length_map] using this
  have hcn : k.cnt = 2 * k.store.length + cntV cntX k.txs + cntV cntO k.dk.l + cntV cntE k.hist + k.seen.length := rfl
  obtain ⟨hsa, hsb, hsc, hsd, hse⟩ := seesN_mk' hpre
  refine jC <| jF ?_
  refine jI rfl (jp (cs := [.slice k.a0 k.store.length k.c0, .slice k.a1 k.txs.length k.c1, .slice k.dk.a k.dk.l.length k.dk.c, str k.dk.jt, iv k.dk.js, iv k.seq, iv k.next, iv k.time, .slice k.a2 k.hist.length k.c2, .slice k.a3 k.seen.length k.c3, .bool k.room]) rfl rfl) ?_
  rintro _ _ ⟨b_1, rfl, rfl⟩
  refine jA (jG (v := iv 0) rfl) <| jE <| jB <| jC <| jF <| jA (jS fo32_0 rfl) <| jP (jU 0 (v := .slice k.a0 k.store.length k.c0) rfl rfl kX rfl) <| jA (jD (v := nv m) rfl) ?_
  refine jI rfl (jR [] Tryz.call23 rfl (Y_heldCellS k.a0 k.c0 k.store m (by omega) (by omega)) rfl (fun w hw => hw.seeOut_ hsa nM)) ?_
  rintro _ _ ⟨_, ⟨rfl, rfl⟩, rfl⟩
  refine jA (jG (v := iv ((m + 2 * k.store.length : Nat) : Int)) rfl) <| jE <| jB <| jC <| jC <| jF <| jA (jD (v := iv ((m + 2 * k.store.length : Nat) : Int)) rfl) <| jA (jb rfl rfl) <| jE <| jB ?_
  by_cases h_2 : ((m + 2 * k.store.length : Nat) : Int) < 0
  · refine jQ (cB (dT h_2)) <| jC <| jF <| jA (jG (v := iv (-1)) rfl) <| jE <| jB <| jK <| jO <| jN (.inl rfl) rfl (jJ (v := iv (-1)) rfl) (List.nil_sublist _) ?_
    exfalso
    omega
  refine jL (cB (dF h_2)) <| jM <| jB <| jC <| jF <| jA (jS fo32_1 rfl) <| jP (jU 0 (v := .slice k.a1 k.txs.length k.c1) rfl rfl Tryz.isAgg23 rfl) <| jA (jD (v := iv ((m + 2 * k.store.length : Nat) : Int)) rfl) ?_
  refine jI rfl (jR [] Tryz.call24 rfl (C_heldTxS k.a1 k.c1 k.txs (m + 2 * k.store.length) (by omega) (by omega) (by omega)) rfl (fun w hw => hw.seeOutA hsc nMA)) ?_
  rintro _ _ ⟨_, ⟨rfl, rfl⟩, rfl⟩
  refine jA (jG (v := iv ((m + 2 * k.store.length + cntV cntX k.txs : Nat) : Int)) rfl) <| jE <| jB <| jC <| jC <| jF <| jA (jD (v := iv ((m + 2 * k.store.length + cntV cntX k.txs : Nat) : Int)) rfl) <| jA (jb rfl rfl) <| jE <| jB ?_
  by_cases h_3 : ((m + 2 * k.store.length + cntV cntX k.txs : Nat) : Int) < 0
  · refine jQ (cB (dT h_3)) <| jC <| jF <| jA (jG (v := iv (-1)) rfl) <| jE <| jB <| jK <| jO <| jN (.inl rfl) rfl (jJ (v := iv (-1)) rfl) (List.nil_sublist _) ?_
    exfalso
    omega
  refine jL (cB (dF h_3)) <| jM <| jB <| jC <| jF <| jA (jS fo32_2 rfl) <| jP (jr 0 (vs := [.slice k.dk.a k.dk.l.length k.dk.c, str k.dk.jt, iv k.dk.js]) rfl rfl Tryz.isAgg28 Tryz.sizeOf28 rfl rfl) <| jA (jD (v := iv ((m + 2 * k.store.length + cntV cntX k.txs : Nat) : Int)) rfl) ?_
  refine jI rfl (jR [] Tryz.call25 rfl (C_heldDisk k.dk (m + 2 * k.store.length + cntV cntX k.txs) (by omega) (by omega) (by omega)) rfl (fun w hw => hw.seeOutA hsd nMA)) ?_
  rintro _ _ ⟨_, ⟨rfl, rfl⟩, rfl⟩
  refine jA (jG (v := iv ((m + 2 * k.store.length + cntV cntX k.txs + cntV cntO k.dk.l : Nat) : Int)) rfl) <| jE <| jB <| jC <| jC <| jF <| jA (jD (v := iv ((m + 2 * k.store.length + cntV cntX k.txs + cntV cntO k.dk.l : Nat) : Int)) rfl) <| jA (jb rfl rfl) <| jE <| jB ?_
  by_cases h_4 : ((m + 2 * k.store.length + cntV cntX k.txs + cntV cntO k.dk.l : Nat) : Int) < 0
  · refine jQ (cB (dT h_4)) <| jC <| jF <| jA (jG (v := iv (-1)) rfl) <| jE <| jB <| jK <| jO <| jN (.inl rfl) rfl (jJ (v := iv (-1)) rfl) (List.nil_sublist _) ?_
    exfalso
    omega
  refine jL (cB (dF h_4)) <| jM <| jB <| jC <| jF <| jA (jS fo32_6 rfl) <| jP (jU 0 (v := .slice k.a2 k.hist.length k.c2) rfl rfl Tryz.isAgg29 rfl) <| jA (jD (v := iv ((m + 2 * k.store.length + cntV cntX k.txs + cntV cntO k.dk.l : Nat) : Int)) rfl) ?_
  refine jI rfl (jR [] Tryz.call26 rfl (C_heldEntryS k.a2 k.c2 k.hist (m + 2 * k.store.length + cntV cntX k.txs + cntV cntO k.dk.l) (by omega) (by omega) (by omega)) rfl (fun w hw => hw.seeOutA hse nMA)) ?_
  rintro _ _ ⟨_, ⟨rfl, rfl⟩, rfl⟩
  refine jA (jG (v := iv ((m + 2 * k.store.length + cntV cntX k.txs + cntV cntO k.dk.l + cntV cntE k.hist : Nat) : Int)) rfl) <| jE <| jB <| jC <| jC <| jF <| jA (jD (v := iv ((m + 2 * k.store.length + cntV cntX k.txs + cntV cntO k.dk.l + cntV cntE k.hist : Nat) : Int)) rfl) <| jA (jb rfl rfl) <| jE <| jB ?_
  by_cases h_5 : ((m + 2 * k.store.length + cntV cntX k.txs + cntV cntO k.dk.l + cntV cntE k.hist : Nat) : Int) < 0
  · refine jQ (cB (dT h_5)) <| jC <| jF <| jA (jG (v := iv (-1)) rfl) <| jE <| jB <| jK <| jO <| jN (.inl rfl) rfl (jJ (v := iv (-1)) rfl) (List.nil_sublist _) ?_
    exfalso
    omega
  refine jL (cB (dF h_5)) <| jM <| jB <| jC <| jF <| jA (jS fo32_7 rfl) <| jP (jU 0 (v := .slice k.a3 k.seen.length k.c3) rfl rfl kT rfl) <| jA (jD (v := iv ((m + 2 * k.store.length + cntV cntX k.txs + cntV cntO k.dk.l + cntV cntE k.hist : Nat) : Int)) rfl) ?_
  refine jI rfl (jR [] Tryz.call27 rfl (Y_heldStringS k.a3 k.c3 k.seen (m + 2 * k.store.length + cntV cntX k.txs + cntV cntO k.dk.l + cntV cntE k.hist) (by omega) (by omega)) rfl (fun w hw => hw.seeOut_ hsb nM)) ?_
  rintro _ _ ⟨_, ⟨rfl, rfl⟩, rfl⟩
  refine jA (jG (v := iv ((m + 2 * k.store.length + cntV cntX k.txs + cntV cntO k.dk.l + cntV cntE k.hist + k.seen.length : Nat) : Int)) rfl) <| jE <| jB <| jC <| jC <| jF <| jA (jD (v := iv ((m + 2 * k.store.length + cntV cntX k.txs + cntV cntO k.dk.l + cntV cntE k.hist + k.seen.length : Nat) : Int)) rfl) <| jA (jb rfl rfl) <| jE <| jB ?_
  by_cases h_6 : ((m + 2 * k.store.length + cntV cntX k.txs + cntV cntO k.dk.l + cntV cntE k.hist + k.seen.length : Nat) : Int) < 0
  · refine jQ (cB (dT h_6)) <| jC <| jF <| jA (jG (v := iv (-1)) rfl) <| jE <| jB <| jK <| jO <| jN (.inl rfl) rfl (jJ (v := iv (-1)) rfl) (List.nil_sublist _) ?_
    exfalso
    omega
  refine jL (cB (dF h_6)) <| jM <| jB <| jC <| jF <| jA (jD (v := iv ((m + 2 * k.store.length + cntV cntX k.txs + cntV cntO k.dk.l + cntV cntE k.hist + k.seen.length : Nat) : Int)) rfl) <| jA (jG (v := iv ((m + 2 * k.store.length + cntV cntX k.txs + cntV cntO k.dk.l + cntV cntE k.hist + k.seen.length : Nat) : Int)) rfl) <| jE <| jB <| jK ?_
  refine jN (.inl rfl) rfl (jJ (v := iv ((m + 2 * k.store.length + cntV cntX k.txs + cntV cntO k.dk.l + cntV cntE k.hist + k.seen.length : Nat) : Int)) rfl) (List.nil_sublist _) ?_
  exact ⟨congrArg (Value.int .i64) (by omega), rfl⟩

end Go.Proofs.YtkmpmjficoohkaaGreatDoor

set_option linter.unusedSimpArgs false
set_option linter.unusedVariables false
set_option linter.unnecessarySimpa false
namespace Go.Proofs.YtkmpmjficoohkaaGreatDoor
open Go Go.RowKit

theorem Has.below {w w' : World} (h : Has [] w) (hb : Below w.heap.size w w') : St w (idsOf []) [] w' :=
  ⟨⟨fun _ hr => by simp at hr, by simp [idsOf], fun _ hi => by simp [idsOf] at hi, Nat.le_trans h.room hb.size, h.glob.keep fun k hk => hb.block k (Nat.lt_of_lt_of_le hk h.room)⟩, hb.os, hb.tape, hb.output, hb.size, fun _ hi => by simp [idsOf] at hi, fun k hk _ => hb.block k hk⟩
theorem below_grow (w : World) (k : Nat) (os : Array Obj) : Below w.heap.size w (Sort.grow (w.drewN k) os) :=
  ⟨rfl, rfl, rfl, by simp [Sort.grow, World.drewN], fun j hj => by
    simp only [Sort.grow, World.drewN]
    rw [Array.getElem?_append_left hj]⟩

end Go.Proofs.YtkmpmjficoohkaaGreatDoor

namespace Go.Proofs
open Go.Shelf
def Tryz.laysM171_ren : Go.Shelf.Ren := ⟨fun | 171 => 85 | 243 => 94 | 246 => 106 | 283 => 115 | 284 => 116 | 285 => 117 | 286 => 118 | 129 => 125 | 317 => 124 | 318 => 126 | 319 => 127 | 320 => 128 | 337 => 132 | 338 => 133 | n => n, fun | 3 => 3 | 9 => 9 | 2 => 2 | 4 => 4 | 171 => 140 | 0 => 0 | 53 => 141 | 37 => 95 | 5 => 5 | 173 => 144 | 212 => 155 | 51 => 156 | 20 => 20 | 213 => 157 | 46 => 148 | 232 => 167 | 233 => 168 | n => n, fun | 17 => 2 | 18 => 3 | 19 => 4 | n => n⟩
theorem Tryz.laysM171 : Go.Proofs.LaysM.n171 Tryz.prog Tryz.laysM171_ren := {
  mixed := by kernel_rfl
  f129 := Tryz.func125.trans (congrArg some (by kernel_rfl))
  f171 := Tryz.func85.trans (congrArg some (by kernel_rfl))
  f243 := Tryz.func94.trans (congrArg some (by kernel_rfl))
  f246 := Tryz.func106.trans (congrArg some (by kernel_rfl))
  f283 := Tryz.func115.trans (congrArg some (by kernel_rfl))
  f284 := Tryz.func116.trans (congrArg some (by kernel_rfl))
  f285 := Tryz.func117.trans (congrArg some (by kernel_rfl))
  f286 := Tryz.func118.trans (congrArg some (by kernel_rfl))
  f317 := Tryz.func124.trans (congrArg some (by kernel_rfl))
  f318 := Tryz.func126.trans (congrArg some (by kernel_rfl))
  f319 := Tryz.func127.trans (congrArg some (by kernel_rfl))
  f320 := Tryz.func128.trans (congrArg some (by kernel_rfl))
  f337 := Tryz.func132.trans (congrArg some (by kernel_rfl))
  f338 := Tryz.func133.trans (congrArg some (by kernel_rfl))
  t0 := Tryz.underlying0
  a0 := Tryz.isAgg0
  z0 := Tryz.sizeOf0
  v0 := Tryz.zeroValue0
  t2 := Tryz.underlying2
  a2 := Tryz.isAgg2
  z2 := Tryz.sizeOf2
  v2 := Tryz.zeroValue2
  t3 := Tryz.underlying3
  a3 := Tryz.isAgg3
  z3 := Tryz.sizeOf3
  v3 := Tryz.zeroValue3
  t4 := Tryz.underlying4
  a4 := Tryz.isAgg4
  z4 := Tryz.sizeOf4
  v4 := Tryz.zeroValue4
  t5 := Tryz.underlying5
  a5 := Tryz.isAgg5
  z5 := Tryz.sizeOf5
  v5 := Tryz.zeroValue5
  t9 := Tryz.underlying9
  a9 := Tryz.isAgg9
  z9 := Tryz.sizeOf9
  v9 := Tryz.zeroValue9
  t20 := Tryz.underlying20
  a20 := Tryz.isAgg20
  z20 := Tryz.sizeOf20
  v20 := Tryz.zeroValue20
  t37 := Tryz.underlying95
  a37 := Tryz.isAgg95
  z37 := Tryz.sizeOf95
  v37 := Tryz.zeroValue95
  t46 := Tryz.underlying148
  a46 := Tryz.isAgg148
  z46 := Tryz.sizeOf148
  v46 := Tryz.zeroValue148
  t51 := Tryz.underlying156
  a51 := Tryz.isAgg156
  z51 := Tryz.sizeOf156
  v51 := Tryz.zeroValue156
  t53 := Tryz.underlying141
  a53 := Tryz.isAgg141
  z53 := Tryz.sizeOf141
  v53 := Tryz.zeroValue141
  t171 := Tryz.underlying140
  a171 := Tryz.isAgg140
  z171 := Tryz.sizeOf140
  v171 := Tryz.zeroValue140
  t173 := Tryz.underlying144
  a173 := Tryz.isAgg144
  z173 := Tryz.sizeOf144
  v173 := Tryz.zeroValue144
  t212 := Tryz.underlying155
  a212 := Tryz.isAgg155
  z212 := Tryz.sizeOf155
  v212 := Tryz.zeroValue155
  t213 := Tryz.underlying157
  a213 := Tryz.isAgg157
  z213 := Tryz.sizeOf157
  t232 := Tryz.underlying167
  a232 := Tryz.isAgg167
  z232 := Tryz.sizeOf167
  v232 := Tryz.zeroValue167
  t233 := Tryz.underlying168
  a233 := Tryz.isAgg168
  z233 := Tryz.sizeOf168
  v233 := Tryz.zeroValue168
  g17 := by kernel_rfl
  g18 := by kernel_rfl
  g19 := by kernel_rfl
  i0 := by kernel_rfl
  i2 := by kernel_rfl
  i3 := by kernel_rfl
  i4 := by kernel_rfl
  i5 := by kernel_rfl
  i9 := by kernel_rfl
  i20 := by kernel_rfl
  i37 := by kernel_rfl
  i46 := by kernel_rfl
  i51 := by kernel_rfl
  i53 := by kernel_rfl
  i171 := by kernel_rfl
  i173 := by kernel_rfl
  i212 := by kernel_rfl
  i232 := by kernel_rfl
  i233 := by kernel_rfl
  m17 := by kernel_rfl
  m18 := by kernel_rfl
  m19 := by kernel_rfl }
open Go.RowKit Go.Sort Go.Lib in
theorem Tryz.strconv_Itoa (n : Int) (h0 : -9223372036854775808 ≤ n) (h1 : n ≤ 9223372036854775807) (w : World) (htab : Lib.TabIs Tryz.prog w "internal/strconv.uint64pow10" .u64 Lib.pow10Tab) :
    Calls Tryz.prog 85 #[.int .i64 n] w fun e w' => e = .returned (.string ⟨(Lib.itoa n).toArray⟩) ∧ ∃ k os, w' = grow (w.drewN k) os := Any.strconv_Itoa Tryz.laysM171 n h0 h1 w htab
def Tryz.laysC172_ren : Go.Shelf.Ren := ⟨fun | 172 => 89 | 244 => 101 | 245 => 102 | 247 => 109 | 279 => 110 | 280 => 111 | 281 => 112 | 282 => 113 | 287 => 120 | 316 => 121 | 171 => 85 | 205 => 122 | 321 => 130 | 322 => 131 | 243 => 94 | 246 => 106 | 283 => 115 | 284 => 116 | 285 => 117 | 286 => 118 | 129 => 125 | 317 => 124 | 318 => 126 | 319 => 127 | 320 => 128 | 337 => 132 | 338 => 133 | n => n, fun | 9 => 9 | 3 => 3 | 75 => 120 | 76 => 121 | 4 => 4 | 5 => 5 | 167 => 134 | 37 => 95 | 0 => 0 | 85 => 135 | 2 => 2 | 168 => 137 | 53 => 141 | 175 => 146 | 46 => 148 | 210 => 150 | 127 => 162 | 145 => 165 | 143 => 163 | 21 => 21 | 171 => 140 | 173 => 144 | 212 => 155 | 51 => 156 | 20 => 20 | 213 => 157 | 232 => 167 | 233 => 168 | 80 => 171 | n => n, fun | 15 => 0 | 16 => 1 | 17 => 2 | 18 => 3 | 19 => 4 | n => n⟩
theorem Tryz.laysC172 : Go.Proofs.LaysC.n172 Tryz.prog Tryz.laysC172_ren := {
  mixed := by kernel_rfl
  f129 := Tryz.func125.trans (congrArg some (by kernel_rfl))
  f171 := Tryz.func85.trans (congrArg some (by kernel_rfl))
  f172 := Tryz.func89.trans (congrArg some (by kernel_rfl))
  f205 := Tryz.func122.trans (congrArg some (by kernel_rfl))
  f243 := Tryz.func94.trans (congrArg some (by kernel_rfl))
  f244 := Tryz.func101.trans (congrArg some (by kernel_rfl))
  f245 := Tryz.func102.trans (congrArg some (by kernel_rfl))
  f246 := Tryz.func106.trans (congrArg some (by kernel_rfl))
  f247 := Tryz.func109.trans (congrArg some (by kernel_rfl))
  f279 := Tryz.func110.trans (congrArg some (by kernel_rfl))
  f280 := Tryz.func111.trans (congrArg some (by kernel_rfl))
  f281 := Tryz.func112.trans (congrArg some (by kernel_rfl))
  f282 := Tryz.func113.trans (congrArg some (by kernel_rfl))
  f283 := Tryz.func115.trans (congrArg some (by kernel_rfl))
  f284 := Tryz.func116.trans (congrArg some (by kernel_rfl))
  f285 := Tryz.func117.trans (congrArg some (by kernel_rfl))
  f286 := Tryz.func118.trans (congrArg some (by kernel_rfl))
  f287 := Tryz.func120.trans (congrArg some (by kernel_rfl))
  f316 := Tryz.func121.trans (congrArg some (by kernel_rfl))
  f317 := Tryz.func124.trans (congrArg some (by kernel_rfl))
  f318 := Tryz.func126.trans (congrArg some (by kernel_rfl))
  f319 := Tryz.func127.trans (congrArg some (by kernel_rfl))
  f320 := Tryz.func128.trans (congrArg some (by kernel_rfl))
  f321 := Tryz.func130.trans (congrArg some (by kernel_rfl))
  f322 := Tryz.func131.trans (congrArg some (by kernel_rfl))
  f337 := Tryz.func132.trans (congrArg some (by kernel_rfl))
  f338 := Tryz.func133.trans (congrArg some (by kernel_rfl))
  t0 := Tryz.underlying0
  a0 := Tryz.isAgg0
  z0 := Tryz.sizeOf0
  v0 := Tryz.zeroValue0
  t2 := Tryz.underlying2
  a2 := Tryz.isAgg2
  z2 := Tryz.sizeOf2
  v2 := Tryz.zeroValue2
  t3 := Tryz.underlying3
  a3 := Tryz.isAgg3
  z3 := Tryz.sizeOf3
  v3 := Tryz.zeroValue3
  t4 := Tryz.underlying4
  a4 := Tryz.isAgg4
  z4 := Tryz.sizeOf4
  v4 := Tryz.zeroValue4
  t5 := Tryz.underlying5
  a5 := Tryz.isAgg5
  z5 := Tryz.sizeOf5
  v5 := Tryz.zeroValue5
  t9 := Tryz.underlying9
  a9 := Tryz.isAgg9
  z9 := Tryz.sizeOf9
  v9 := Tryz.zeroValue9
  t20 := Tryz.underlying20
  a20 := Tryz.isAgg20
  z20 := Tryz.sizeOf20
  v20 := Tryz.zeroValue20
  t21 := Tryz.underlying21
  a21 := Tryz.isAgg21
  z21 := Tryz.sizeOf21
  v21 := Tryz.zeroValue21
  t37 := Tryz.underlying95
  a37 := Tryz.isAgg95
  z37 := Tryz.sizeOf95
  v37 := Tryz.zeroValue95
  t46 := Tryz.underlying148
  a46 := Tryz.isAgg148
  z46 := Tryz.sizeOf148
  v46 := Tryz.zeroValue148
  t51 := Tryz.underlying156
  a51 := Tryz.isAgg156
  z51 := Tryz.sizeOf156
  v51 := Tryz.zeroValue156
  t53 := Tryz.underlying141
  a53 := Tryz.isAgg141
  z53 := Tryz.sizeOf141
  v53 := Tryz.zeroValue141
  t75 := Tryz.underlying120
  a75 := Tryz.isAgg120
  z75 := Tryz.sizeOf120
  v75 := Tryz.zeroValue120
  t76 := Tryz.underlying121
  a76 := Tryz.isAgg121
  z76 := Tryz.sizeOf121
  v76 := Tryz.zeroValue121
  t85 := Tryz.underlying135
  a85 := Tryz.isAgg135
  z85 := Tryz.sizeOf135
  v85 := Tryz.zeroValue135
  t127 := Tryz.underlying162
  a127 := Tryz.isAgg162
  z127 := Tryz.sizeOf162
  v127 := Tryz.zeroValue162
  t143 := Tryz.underlying163
  a143 := Tryz.isAgg163
  z143 := Tryz.sizeOf163
  v143 := Tryz.zeroValue163
  t145 := Tryz.underlying165
  a145 := Tryz.isAgg165
  z145 := Tryz.sizeOf165
  v145 := Tryz.zeroValue165
  t167 := Tryz.underlying134
  a167 := Tryz.isAgg134
  z167 := Tryz.sizeOf134
  v167 := Tryz.zeroValue134
  t168 := Tryz.underlying137
  a168 := Tryz.isAgg137
  z168 := Tryz.sizeOf137
  v168 := Tryz.zeroValue137
  t171 := Tryz.underlying140
  a171 := Tryz.isAgg140
  z171 := Tryz.sizeOf140
  v171 := Tryz.zeroValue140
  t173 := Tryz.underlying144
  a173 := Tryz.isAgg144
  z173 := Tryz.sizeOf144
  v173 := Tryz.zeroValue144
  t175 := Tryz.underlying146
  a175 := Tryz.isAgg146
  z175 := Tryz.sizeOf146
  v175 := Tryz.zeroValue146
  t210 := Tryz.underlying150
  a210 := Tryz.isAgg150
  z210 := Tryz.sizeOf150
  v210 := Tryz.zeroValue150
  t212 := Tryz.underlying155
  a212 := Tryz.isAgg155
  z212 := Tryz.sizeOf155
  v212 := Tryz.zeroValue155
  t213 := Tryz.underlying157
  a213 := Tryz.isAgg157
  z213 := Tryz.sizeOf157
  t232 := Tryz.underlying167
  a232 := Tryz.isAgg167
  z232 := Tryz.sizeOf167
  v232 := Tryz.zeroValue167
  t233 := Tryz.underlying168
  a233 := Tryz.isAgg168
  z233 := Tryz.sizeOf168
  v233 := Tryz.zeroValue168
  g15 := by kernel_rfl
  g16 := by kernel_rfl
  g17 := by kernel_rfl
  g18 := by kernel_rfl
  g19 := by kernel_rfl
  t80 := Tryz.underlying171
  a80 := Tryz.isAgg171
  z80 := Tryz.sizeOf171
  v80 := Tryz.zeroValue171
  i0 := by kernel_rfl
  i2 := by kernel_rfl
  i3 := by kernel_rfl
  i4 := by kernel_rfl
  i5 := by kernel_rfl
  i9 := by kernel_rfl
  i20 := by kernel_rfl
  i21 := by kernel_rfl
  i37 := by kernel_rfl
  i46 := by kernel_rfl
  i51 := by kernel_rfl
  i53 := by kernel_rfl
  i75 := by kernel_rfl
  i76 := by kernel_rfl
  i80 := by kernel_rfl
  i85 := by kernel_rfl
  i127 := by kernel_rfl
  i143 := by kernel_rfl
  i145 := by kernel_rfl
  i167 := by kernel_rfl
  i168 := by kernel_rfl
  i171 := by kernel_rfl
  i173 := by kernel_rfl
  i175 := by kernel_rfl
  i210 := by kernel_rfl
  i212 := by kernel_rfl
  i232 := by kernel_rfl
  i233 := by kernel_rfl
  m15 := by kernel_rfl
  m16 := by kernel_rfl
  m17 := by kernel_rfl
  m18 := by kernel_rfl
  m19 := by kernel_rfl
  c0 := by kernel_rfl
  c2 := by kernel_rfl
  c3 := by kernel_rfl
  c4 := by kernel_rfl
  c5 := by kernel_rfl
  c9 := by kernel_rfl
  c20 := by kernel_rfl
  c21 := by kernel_rfl
  c37 := by kernel_rfl
  c46 := by kernel_rfl
  c51 := by kernel_rfl
  c53 := by kernel_rfl
  c75 := by kernel_rfl
  c76 := by kernel_rfl
  c80 := by kernel_rfl
  c85 := by kernel_rfl
  c127 := by kernel_rfl
  c143 := by kernel_rfl
  c145 := by kernel_rfl
  c167 := by kernel_rfl
  c168 := by kernel_rfl
  c171 := by kernel_rfl
  c173 := by kernel_rfl
  c175 := by kernel_rfl
  c210 := by kernel_rfl
  c212 := by kernel_rfl
  c213 := by kernel_rfl
  c232 := by kernel_rfl
  c233 := by kernel_rfl }
open Go.RowKit in
theorem Tryz.strconv_Atoi_ok (s : ByteArray) (hmax : s.size ≤ 9223372036854775806) (v : Int) (h : Lib.atoiAll s.data.toList = .ok v) (w : World) :
    Calls Tryz.prog 89 #[.string s] w fun e w' => e = .returned (.tuple #[.int .i64 v, .nilIface]) ∧ (w' = w ∨ ∃ t, w' = Lib.bytesWorld w 5 t) := Any.strconv_Atoi_ok Tryz.laysC172 s hmax v h w
open Go.RowKit in
theorem Tryz.strconv_Atoi_range_var (s : ByteArray) (hlim : s.size ≤ 281474976710656) (h : Lib.atoiAll s.data.toList = .range) (tp : TypeId) (p : Value) (w : World) (hvar : w.var? Tryz.prog "strconv.ErrRange" = some #[.iface tp p]) :
    Calls Tryz.prog 89 #[.string s] w fun e w' => ∃ N, e = .returned (.tuple #[.int .i64 (Lib.atoiSat s.data.toList), .iface 137 (.pointer (some ⟨N, 0, none⟩))]) ∧ w.heap.size ≤ N ∧ w'.heap[N]? = some (.cells #[.string ⟨#[65, 116, 111, 105]⟩, .string s, .iface tp p] 150 (0, 0)) ∧ Below w.heap.size w w' := Any.strconv_Atoi_range_var Tryz.laysC172 s hlim h tp p w hvar
end Go.Proofs

set_option linter.unusedSimpArgs false
set_option linter.unusedVariables false
set_option linter.unnecessarySimpa false
namespace Go.Proofs.YtkmpmjficoohkaaGreatDoor
open Go Go.RowKit

theorem hasPrefix_eq (s p : Str) : Lib.hasPrefix s p = prefixB s p := by
  unfold Lib.hasPrefix prefixB
  rw [Bool.eq_iff_iff]
  simp only [List.isPrefixOf_iff_prefix, Bool.and_eq_true, decide_eq_true_eq]
  constructor
  · rintro ⟨t, rfl⟩; simp
  · rintro ⟨h1, h2⟩; exact ⟨s.drop p.length, (congrArg (fun q => q ++ s.drop p.length) h2).symm.trans (List.take_append_drop _ _)⟩
def suffixB (s p : Str) : Bool := decide (p.length ≤ s.length) && decide (s.drop (s.length - p.length) = p)
theorem hasSuffix_eq (s p : Str) : Lib.hasSuffix s p = suffixB s p := by
  unfold Lib.hasSuffix suffixB
  rw [Bool.eq_iff_iff]
  simp only [List.isSuffixOf_iff_suffix, Bool.and_eq_true, decide_eq_true_eq]
  constructor
  · rintro ⟨t, rfl⟩; simp
  · rintro ⟨h1, h2⟩; exact ⟨s.take (s.length - p.length), (congrArg (fun q => s.take (s.length - p.length) ++ q) h2).symm.trans (List.take_append_drop _ _)⟩
def cutPre (s p : Str) : Str × Bool := if prefixB s p = true then (s.drop p.length, true) else (s, false)
def cutSuf (s p : Str) : Str × Bool := if suffixB s p = true then (s.take (s.length - p.length), true) else (s, false)
theorem cutPre_lib (s p : Str) : cutPre s p = (Lib.trimPrefix s p, Lib.hasPrefix s p) := by
  unfold cutPre Lib.trimPrefix
  rw [hasPrefix_eq]
  cases prefixB s p <;> rfl
theorem cutSuf_lib (s p : Str) : cutSuf s p = (Lib.trimSuffix s p, Lib.hasSuffix s p) := by
  unfold cutSuf Lib.trimSuffix
  rw [hasSuffix_eq]
  cases suffixB s p <;> rfl
theorem cutPre_len (s p : Str) : (cutPre s p).1.length ≤ s.length := by unfold cutPre; split <;> simp
theorem cutSuf_len (s p : Str) : (cutSuf s p).1.length ≤ s.length := by unfold cutSuf; split <;> simp [List.length_take]

end Go.Proofs.YtkmpmjficoohkaaGreatDoor

set_option linter.unusedSimpArgs false
set_option linter.unusedVariables false
set_option linter.unnecessarySimpa false
namespace Go.Proofs.YtkmpmjficoohkaaGreatDoor
open Go Go.RowKit

theorem C_itoa (n : Int) (h0 : -9223372036854775808 ≤ n) (h1 : n ≤ 9223372036854775807) : Ct Tryz.prog 85 [.int .i64 n] [] (fun _ => True) (fun v A' => v = str (dec n) ∧ A' = []) := fun w hA _ => by
  refine (Tryz.strconv_Itoa n h0 h1 w hA.glob.1).mono fun e w' h => ?_
  obtain ⟨rfl, k, os, rfl⟩ := h
  exact ⟨_, [], rfl, ⟨rfl, rfl⟩, hA.below (below_grow w k os)⟩

/-- What Atoi says. -/
def atoiPost (t : Str) (v : Value) : Prop := (∃ n, Lib.atoiAll t = .ok n ∧ v = .tuple #[.int .i64 n, .nilIface]) ∨ ((∀ n, Lib.atoiAll t ≠ .ok n) ∧ ∃ n te pe, v = .tuple #[.int .i64 n, .iface te pe])
theorem C_atoi (t : Str) (ht : t.length ≤ 281474976710656) : Ct Tryz.prog 89 [str t] [] (fun _ => True) (fun v A' => atoiPost t v ∧ A' = []) := fun w hA _ => by
  have hs : (ByteArray.mk t.toArray).size = t.length := size_mk t
  have hl : (ByteArray.mk t.toArray).data.toList = t := by simp
  obtain ⟨tp, p, hv1⟩ := hA.glob.two
  obtain ⟨tp', p', hv2⟩ := hA.glob.three
  rcases hat : Lib.atoiAll t with n | _ | _
  · skip
    refine (Tryz.strconv_Atoi_ok ⟨t.toArray⟩ (by rw [hs]; omega) n (by rw [hl]; exact hat) w).mono fun e w' h => ?_
    obtain ⟨rfl, h⟩ := h
    have hb : Below w.heap.size w w' := by
      rcases h with rfl | ⟨q, rfl⟩
      · exact Below.refl _ _
      · exact ⟨rfl, rfl, rfl, by rw [Lib.bytesWorld_size]; omega, fun k hk => Lib.bytesWorld_at_old w _ _ k hk⟩
    exact ⟨_, [], rfl, ⟨.inl ⟨n, hat, rfl⟩, rfl⟩, hA.below hb⟩
  · skip
    refine (Any.strconv_Atoi_syntax_var Tryz.laysC172 ⟨t.toArray⟩ (by rw [hs]; omega) (by rw [hl]; exact hat) tp p w hv1).mono fun e w' h => ?_
    obtain ⟨N, rfl, _, _, hb⟩ := h
    exact ⟨_, [], rfl, ⟨.inr ⟨fun n hn => by rw [hat] at hn; simp at hn, _, _, _, rfl⟩, rfl⟩, hA.below hb⟩
  · skip
    refine (Tryz.strconv_Atoi_range_var ⟨t.toArray⟩ (by rw [hs]; omega) (by rw [hl]; exact hat) tp' p' w hv2).mono fun e w' h => ?_
    obtain ⟨N, rfl, _, _, hb⟩ := h
    exact ⟨_, [], rfl, ⟨.inr ⟨fun n hn => by rw [hat] at hn; simp at hn, _, _, _, rfl⟩, rfl⟩, hA.below hb⟩
end Go.Proofs.YtkmpmjficoohkaaGreatDoor
