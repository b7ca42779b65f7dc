/-
  Texts of the walk, joined: what each one proves stands at its theorems.
-/
import Derived.Test.YtkmpmjficoohkaaGreatS40DEEP
import Derived.Test.YtkmpmjficoohkaaGreatFlat
import Derived.Test.YtkmpmjficoohkaaGreatDatX
import Derived.Lib.SmallJoins
import Derived.Shelf.LaysM
import Derived.Shelf.LaysC
import Derived.Shelf.Strconv.Itoa3
import Derived.Shelf.Strconv.AtoiAll
import Derived.Shelf.Strconv.ErrVarAll
import Derived.Shelf.Small.Wraps
import Derived.Shelf.Strings.Prefix
import Derived.Test.YtkmpmjficoohkaaGreatProg
import Derived.Lib.Strings
set_option linter.unusedSimpArgs false
set_option linter.unusedVariables false
set_option linter.unnecessarySimpa false
namespace Go.Proofs.YtkmpmjficoohkaaGreat
open Go Go.RowKit
attribute [local irreducible] JL JC JQ JO LO PO JA JX Ct

theorem Z_cloneK (a : Option Addr) (c : Nat) (s : List CL) (hn : s.length ≤ 1000000000000) :
    Ct Tryz.prog 116 [.slice a s.length c] [] (fun w_ => Sees w_ (.slice a s.length c) 6 s.length (s.flatMap encK)) (fun v A' => ∃ a' c', v = .slice a' s.length c' ∧ A' = [.row (.slice a' s.length c') 152 6 s.length (s.flatMap encK)]) := by
  refine Ct.intro Tryz.func116 rfl Tryz.ntmps116 (lb rfl) fun w0 hpre => ?_
  have hs_a : Sees w0 _ _ _ _ := hpre
  refine jC <| jE <| jA (jG (v := .slice none 0 0) rfl) <| jD <| jB <| jC <| jC <| jE <| jA (jF (v := .slice a s.length c) rfl) <| jA (PO.eqNil ki rfl rfl) ?_
  refine jD <| jB ?_
  rcases Bool.eq_false_or_eq_true (a.isNone) with h_1 | h_1
  · refine jS (cB h_1) <| jC <| jE <| jA (jG (v := .slice none 0 0) rfl) <| jD <| jB <| jJ <| jO <| JQ.nilrow 152 6 <| jL (.inl rfl) rfl (jM (v := .slice none 0 0) rfl) (List.Sublist.refl _) ?_
    have ha : a = none := by simpa using h_1
    have hz : s.length = 0 := sees_none (ha ▸ hpre)
    have hs0 : s = [] := List.length_eq_zero_iff.1 hz
    subst hs0
    exact ⟨none, 0, rfl, rfl⟩
  refine jP (cB h_1) <| jQ <| jB <| jC <| jE ?_
  refine jH rfl (kK (ps := []) (cur := #[]) ki kp Tryz.zeroValue152 rfl (by kernel_rfl) (by decide) (by decide)) ?_
  rintro _ _ ⟨a_2, rfl, rfl⟩
  refine jA (jF (v := .slice a s.length c) rfl) ?_
  refine jH rfl (kN 0 (q := s.length) (news := s.flatMap encK) (n' := s.length) (cs' := s.flatMap encK) rfl ki ki Tryz.typeInfo152 rfl (by' := 72) rfl rfl rfl rfl rfl (fun w hw => Src.sees (hw.seeOut_ hs_a nM) (oneK _)) (by (try simp only [LE]); omega) (by (try simp only [LE]); omega) (by (try simp only [List.length_take, List.length_drop]); first | rfl | omega) rfl) ?_
  rintro _ _ ⟨a_3, c_4, rfl, rfl⟩
  refine jA (jG (v := .slice a_3 s.length c_4) rfl) <| jD <| jB <| jJ <| jL (.inl rfl) rfl (jM (v := .slice a_3 s.length c_4) rfl) (List.Sublist.refl _) ?_
  exact ⟨_, _, rfl, rfl⟩

theorem Z_cloneA (a : Option Addr) (c : Nat) (s : List AN) (hn : s.length ≤ 1000000000000) :
    Ct Tryz.prog 117 [.slice a s.length c] [] (fun w_ => Sees w_ (.slice a s.length c) 3 s.length (s.flatMap encA)) (fun v A' => ∃ a' c', v = .slice a' s.length c' ∧ A' = [.row (.slice a' s.length c') 154 3 s.length (s.flatMap encA)]) := by
  refine Ct.intro Tryz.func117 rfl Tryz.ntmps117 (lb rfl) fun w0 hpre => ?_
  have hs_a : Sees w0 _ _ _ _ := hpre
  refine jC <| jE <| jA (jG (v := .slice none 0 0) rfl) <| jD <| jB <| jC <| jC <| jE <| jA (jF (v := .slice a s.length c) rfl) <| jA (PO.eqNil km rfl rfl) ?_
  refine jD <| jB ?_
  rcases Bool.eq_false_or_eq_true (a.isNone) with h_1 | h_1
  · refine jS (cB h_1) <| jC <| jE <| jA (jG (v := .slice none 0 0) rfl) <| jD <| jB <| jJ <| jO <| JQ.nilrow 154 3 <| jL (.inl rfl) rfl (jM (v := .slice none 0 0) rfl) (List.Sublist.refl _) ?_
    have ha : a = none := by simpa using h_1
    have hz : s.length = 0 := sees_none (ha ▸ hpre)
    have hs0 : s = [] := List.length_eq_zero_iff.1 hz
    subst hs0
    exact ⟨none, 0, rfl, rfl⟩
  refine jP (cB h_1) <| jQ <| jB <| jC <| jE ?_
  refine jH rfl (kK (ps := []) (cur := #[]) km ku Tryz.zeroValue154 rfl (by kernel_rfl) (by decide) (by decide)) ?_
  rintro _ _ ⟨a_2, rfl, rfl⟩
  refine jA (jF (v := .slice a s.length c) rfl) ?_
  refine jH rfl (kN 0 (q := s.length) (news := s.flatMap encA) (n' := s.length) (cs' := s.flatMap encA) rfl km km Tryz.typeInfo154 rfl (by' := 32) rfl rfl rfl rfl rfl (fun w hw => Src.sees (hw.seeOut_ hs_a nM) (oneA _)) (by (try simp only [LE]); omega) (by (try simp only [LE]); omega) (by (try simp only [List.length_take, List.length_drop]); first | rfl | omega) rfl) ?_
  rintro _ _ ⟨a_3, c_4, rfl, rfl⟩
  refine jA (jG (v := .slice a_3 s.length c_4) rfl) <| jD <| jB <| jJ <| jL (.inl rfl) rfl (jM (v := .slice a_3 s.length c_4) rfl) (List.Sublist.refl _) ?_
  exact ⟨_, _, rfl, rfl⟩

theorem Z_cloneP (a : Option Addr) (c : Nat) (s : List SP) (hn : s.length ≤ 1000000000000) :
    Ct Tryz.prog 142 [.slice a s.length c] [] (fun w_ => Sees w_ (.slice a s.length c) 7 s.length (s.flatMap encP)) (fun v A' => ∃ a' c', v = .slice a' s.length c' ∧ A' = [.row (.slice a' s.length c') 179 7 s.length (s.flatMap encP)]) := by
  refine Ct.intro Tryz.func142 rfl Tryz.ntmps142 (lb rfl) fun w0 hpre => ?_
  have hs_a : Sees w0 _ _ _ _ := hpre
  refine jC <| jE <| jA (jG (v := .slice none 0 0) rfl) <| jD <| jB <| jC <| jC <| jE <| jA (jF (v := .slice a s.length c) rfl) <| jA (PO.eqNil ko rfl rfl) ?_
  refine jD <| jB ?_
  rcases Bool.eq_false_or_eq_true (a.isNone) with h_1 | h_1
  · refine jS (cB h_1) <| jC <| jE <| jA (jG (v := .slice none 0 0) rfl) <| jD <| jB <| jJ <| jO <| JQ.nilrow 179 7 <| jL (.inl rfl) rfl (jM (v := .slice none 0 0) rfl) (List.Sublist.refl _) ?_
    have ha : a = none := by simpa using h_1
    have hz : s.length = 0 := sees_none (ha ▸ hpre)
    have hs0 : s = [] := List.length_eq_zero_iff.1 hz
    subst hs0
    exact ⟨none, 0, rfl, rfl⟩
  refine jP (cB h_1) <| jQ <| jB <| jC <| jE ?_
  refine jH rfl (kK (ps := []) (cur := #[]) ko kt Tryz.zeroValue179 rfl (by kernel_rfl) (by decide) (by decide)) ?_
  rintro _ _ ⟨a_2, rfl, rfl⟩
  refine jA (jF (v := .slice a s.length c) rfl) ?_
  refine jH rfl (kN 0 (q := s.length) (news := s.flatMap encP) (n' := s.length) (cs' := s.flatMap encP) rfl ko ko Tryz.typeInfo179 rfl (by' := 80) rfl rfl rfl rfl rfl (fun w hw => Src.sees (hw.seeOut_ hs_a nM) (oneP _)) (by (try simp only [LE]); omega) (by (try simp only [LE]); omega) (by (try simp only [List.length_take, List.length_drop]); first | rfl | omega) rfl) ?_
  rintro _ _ ⟨a_3, c_4, rfl, rfl⟩
  refine jA (jG (v := .slice a_3 s.length c_4) rfl) <| jD <| jB <| jJ <| jL (.inl rfl) rfl (jM (v := .slice a_3 s.length c_4) rfl) (List.Sublist.refl _) ?_
  exact ⟨_, _, rfl, rfl⟩

theorem Z_cloneI (a : Option Addr) (c : Nat) (s : List Int) (hn : s.length ≤ 1000000000000) :
    Ct Tryz.prog 118 [.slice a s.length c] [] (fun w_ => Sees w_ (.slice a s.length c) 1 s.length (s.map (Value.int .i64))) (fun v A' => ∃ a' c', v = .slice a' s.length c' ∧ A' = [.row (.slice a' s.length c') 3 1 s.length (s.map (Value.int .i64))]) := by
  refine Ct.intro Tryz.func118 rfl Tryz.ntmps118 (lb rfl) fun w0 hpre => ?_
  have hs_a : Sees w0 _ _ _ _ := hpre
  refine jC <| jE <| jA (jG (v := .slice none 0 0) rfl) <| jD <| jB <| jC <| jC <| jE <| jA (jF (v := .slice a s.length c) rfl) <| jA (PO.eqNil ke rfl rfl) ?_
  refine jD <| jB ?_
  rcases Bool.eq_false_or_eq_true (a.isNone) with h_1 | h_1
  · refine jS (cB h_1) <| jC <| jE <| jA (jG (v := .slice none 0 0) rfl) <| jD <| jB <| jJ <| jO <| JQ.nilrow 3 1 <| jL (.inl rfl) rfl (jM (v := .slice none 0 0) rfl) (List.Sublist.refl _) ?_
    have ha : a = none := by simpa using h_1
    have hz : s.length = 0 := sees_none (ha ▸ hpre)
    have hs0 : s = [] := List.length_eq_zero_iff.1 hz
    subst hs0
    exact ⟨none, 0, rfl, rfl⟩
  refine jP (cB h_1) <| jQ <| jB <| jC <| jE ?_
  refine jH rfl (kK (ps := []) (cur := #[]) ke kW Tryz.zeroValue3 rfl (by kernel_rfl) (by decide) (by decide)) ?_
  rintro _ _ ⟨a_2, rfl, rfl⟩
  refine jA (jF (v := .slice a s.length c) rfl) ?_
  refine jH rfl (kN 0 (q := s.length) (news := s.map (Value.int .i64)) (n' := s.length) (cs' := s.map (Value.int .i64)) rfl ke ke Tryz.typeInfo3 rfl (by' := 8) rfl rfl rfl rfl rfl (fun w hw => Src.sees (hw.seeOut_ hs_a nM) (oneI _)) (by (try simp only [LE]); omega) (by (try simp only [LE]); omega) (by (try simp only [List.length_take, List.length_drop]); first | rfl | omega) rfl) ?_
  rintro _ _ ⟨a_3, c_4, rfl, rfl⟩
  refine jA (jG (v := .slice a_3 s.length c_4) rfl) <| jD <| jB <| jJ <| jL (.inl rfl) rfl (jM (v := .slice a_3 s.length c_4) rfl) (List.Sublist.refl _) ?_
  exact ⟨_, _, rfl, rfl⟩

theorem Z_cloneO (a : Option Addr) (c : Nat) (s : List OX) (hn : s.length ≤ 1000000000000) :
    Ct Tryz.prog 140 [.slice a s.length c] [] (fun w_ => Sees w_ (.slice a s.length c) 3 s.length (s.flatMap encO)) (fun v A' => ∃ a' c', v = .slice a' s.length c' ∧ A' = [.row (.slice a' s.length c') 173 3 s.length (s.flatMap encO)]) := by
  refine Ct.intro Tryz.func140 rfl Tryz.ntmps140 (lb rfl) fun w0 hpre => ?_
  have hs_a : Sees w0 _ _ _ _ := hpre
  refine jC <| jE <| jA (jG (v := .slice none 0 0) rfl) <| jD <| jB <| jC <| jC <| jE <| jA (jF (v := .slice a s.length c) rfl) <| jA (PO.eqNil kY rfl rfl) ?_
  refine jD <| jB ?_
  rcases Bool.eq_false_or_eq_true (a.isNone) with h_1 | h_1
  · refine jS (cB h_1) <| jC <| jE <| jA (jG (v := .slice none 0 0) rfl) <| jD <| jB <| jJ <| jO <| JQ.nilrow 173 3 <| jL (.inl rfl) rfl (jM (v := .slice none 0 0) rfl) (List.Sublist.refl _) ?_
    have ha : a = none := by simpa using h_1
    have hz : s.length = 0 := sees_none (ha ▸ hpre)
    have hs0 : s = [] := List.length_eq_zero_iff.1 hz
    subst hs0
    exact ⟨none, 0, rfl, rfl⟩
  refine jP (cB h_1) <| jQ <| jB <| jC <| jE ?_
  refine jH rfl (kK (ps := []) (cur := #[]) kY kd Tryz.zeroValue173 rfl (by kernel_rfl) (by decide) (by decide)) ?_
  rintro _ _ ⟨a_2, rfl, rfl⟩
  refine jA (jF (v := .slice a s.length c) rfl) ?_
  refine jH rfl (kN 0 (q := s.length) (news := s.flatMap encO) (n' := s.length) (cs' := s.flatMap encO) rfl kY kY Tryz.typeInfo173 rfl (by' := 40) rfl rfl rfl rfl rfl (fun w hw => Src.sees (hw.seeOut_ hs_a nM) (oneO _)) (by (try simp only [LE]); omega) (by (try simp only [LE]); omega) (by (try simp only [List.length_take, List.length_drop]); first | rfl | omega) rfl) ?_
  rintro _ _ ⟨a_3, c_4, rfl, rfl⟩
  refine jA (jG (v := .slice a_3 s.length c_4) rfl) <| jD <| jB <| jJ <| jL (.inl rfl) rfl (jM (v := .slice a_3 s.length c_4) rfl) (List.Sublist.refl _) ?_
  exact ⟨_, _, rfl, rfl⟩

theorem Z_cloneE (a : Option Addr) (c : Nat) (s : List EX) (hn : s.length ≤ 1000000000000) :
    Ct Tryz.prog 141 [.slice a s.length c] [] (fun w_ => Sees w_ (.slice a s.length c) 8 s.length (s.flatMap encE)) (fun v A' => ∃ a' c', v = .slice a' s.length c' ∧ A' = [.row (.slice a' s.length c') 129 8 s.length (s.flatMap encE)]) := by
  refine Ct.intro Tryz.func141 rfl Tryz.ntmps141 (lb rfl) fun w0 hpre => ?_
  have hs_a : Sees w0 _ _ _ _ := hpre
  refine jC <| jE <| jA (jG (v := .slice none 0 0) rfl) <| jD <| jB <| jC <| jC <| jE <| jA (jF (v := .slice a s.length c) rfl) <| jA (PO.eqNil kc rfl rfl) ?_
  refine jD <| jB ?_
  rcases Bool.eq_false_or_eq_true (a.isNone) with h_1 | h_1
  · refine jS (cB h_1) <| jC <| jE <| jA (jG (v := .slice none 0 0) rfl) <| jD <| jB <| jJ <| jO <| JQ.nilrow 129 8 <| jL (.inl rfl) rfl (jM (v := .slice none 0 0) rfl) (List.Sublist.refl _) ?_
    have ha : a = none := by simpa using h_1
    have hz : s.length = 0 := sees_none (ha ▸ hpre)
    have hs0 : s = [] := List.length_eq_zero_iff.1 hz
    subst hs0
    exact ⟨none, 0, rfl, rfl⟩
  refine jP (cB h_1) <| jQ <| jB <| jC <| jE ?_
  refine jH rfl (kK (ps := []) (cur := #[]) kc kf Tryz.zeroValue129 rfl (by kernel_rfl) (by decide) (by decide)) ?_
  rintro _ _ ⟨a_2, rfl, rfl⟩
  refine jA (jF (v := .slice a s.length c) rfl) ?_
  refine jH rfl (kN 0 (q := s.length) (news := s.flatMap encE) (n' := s.length) (cs' := s.flatMap encE) rfl kc kc Tryz.typeInfo129 rfl (by' := 96) rfl rfl rfl rfl rfl (fun w hw => Src.sees (hw.seeOut_ hs_a nM) (oneE _)) (by (try simp only [LE]); omega) (by (try simp only [LE]); omega) (by (try simp only [List.length_take, List.length_drop]); first | rfl | omega) rfl) ?_
  rintro _ _ ⟨a_3, c_4, rfl, rfl⟩
  refine jA (jG (v := .slice a_3 s.length c_4) rfl) <| jD <| jB <| jJ <| jL (.inl rfl) rfl (jM (v := .slice a_3 s.length c_4) rfl) (List.Sublist.refl _) ?_
  exact ⟨_, _, rfl, rfl⟩

theorem Z_cloneTouch (a1 a2 : Option Addr) (ac1 ac2 : Nat) (r w : List Str) (hr : r.length ≤ 1000000000) (hw_ : w.length ≤ 1000000000) :
    Ct Tryz.prog 119 [.agg #[.slice a1 r.length ac1, .slice a2 w.length ac2]] [] (fun w_ => Sees w_ (.slice a1 r.length ac1) 1 r.length (r.map str) ∧ Sees w_ (.slice a2 w.length ac2) 1 w.length (w.map str)) (fun v A' => ∃ b1 d1 b2 d2, v = .agg #[.slice b1 r.length d1, .slice b2 w.length d2] ∧ A' = [.row (.slice b1 r.length d1) 9 1 r.length (r.map str), .row (.slice b2 w.length d2) 9 1 w.length (w.map str)]) := by
  refine Ct.intro Tryz.func119 rfl Tryz.ntmps119 (lb rfl) fun w0 hpre => ?_
  refine jC <| jE ?_
  refine jH rfl (jm (cs := [.slice a1 r.length ac1, .slice a2 w.length ac2]) rfl rfl) ?_
  rintro _ _ ⟨b_1, rfl, rfl⟩
  refine jH rfl (kB (z := .agg #[.slice none 0 0, .slice none 0 0]) (cs := [.slice none 0 0, .slice none 0 0]) Tryz.zeroValue59 rfl) ?_
  rintro _ _ ⟨b_2, rfl, rfl⟩
  refine jD <| jB <| jC <| kG [bk b_2 59 [.slice none 0 0, .slice none 0 0], bk b_1 59 [.slice a1 r.length ac1, .slice a2 w.length ac2]] 7 mixed (by simp) <| jT 0 rfl (jI fo59_0 rfl) <| jw 1 rfl (jR 1 (v := .slice a1 r.length ac1) rfl rfl ka rfl) <| jT 3 rfl (jI fo59_1 rfl) <| jw 4 rfl (jR 1 (v := .slice a2 w.length ac2) rfl rfl ka rfl) <| jq (i := 2) ?_
  refine kA rfl rfl (jU [] Tryz.call96 rfl (C_cloneS a1 ac1 r (by omega)) rfl (fun w hw => hw.seeOut_ hpre.1 nM)) ?_
  rintro _ _ ⟨_, ⟨a_9, c_10, rfl, rfl⟩, rfl⟩
  refine ⟨by simp, ?_⟩
  refine jq (i := 5) ?_
  refine kA rfl rfl (jU [] Tryz.call96 rfl (C_cloneS a2 ac2 w (by omega)) rfl (fun w hw => hw.seeOut_ hpre.2 nM)) ?_
  rintro _ _ ⟨_, ⟨a_13, c_14, rfl, rfl⟩, rfl⟩
  refine ⟨by simp, ?_⟩
  refine jT 6 rfl (PO.build (ps := [(0, .slice a_9 r.length c_10), (1, .slice a_13 w.length c_14)]) (cs := [.slice a_9 r.length c_10, .slice a_13 w.length c_14]) rfl (by kernel_rfl)) <| jq (i := 7) ?_
  refine JX.ls rfl (jd 2 (vs := [.slice a_9 r.length c_10, .slice a_13 w.length c_14]) (cs' := [.slice a_9 r.length c_10, .slice a_13 w.length c_14]) rfl rfl rfl rfl kv rfl rfl (lb rfl) rfl) ?_
  rintro _ _ rfl
  refine jB <| jJ <| JQ.perm (pick_perm [1, 0] (A := [rS a_9 c_10 r, rS a_13 c_14 w]) (F := [bk b_2 59 [.slice a_9 r.length c_10, .slice a_13 w.length c_14], bk b_1 59 [.slice a1 r.length ac1, .slice a2 w.length ac2]]) rfl).symm <| jL (.inl rfl) rfl (kI (jg 2 (vs := [.slice a_9 r.length c_10, .slice a_13 w.length c_14]) rfl rfl gE kv rfl rfl) ⟨_, rfl⟩) (tS 2 _) ?_
  exact ⟨_, _, _, _, rfl, rfl⟩

theorem Z_implTxclone (p : TX) (hl : p.t.lim 1000000000) :
    Ct Tryz.prog 65 [.agg #[.int .i64 p.t.id, .int .i64 p.t.age, .int .i64 p.t.proc, .int .i64 p.t.began, .slice p.x.a0 p.t.calls.length p.x.c0, .slice p.x.a1 p.t.ans.length p.x.c1, .slice p.x.a2 p.t.rd.length p.x.c2, .slice p.x.a3 p.t.wr.length p.x.c3, .slice p.x.a4 p.t.marks.length p.x.c4, .int .i64 p.t.state]] [] (fun w => SeesA w (rdsX p)) (fun v A' => ∃ y : TX, y.t = p.t ∧ v = .agg #[.int .i64 y.t.id, .int .i64 y.t.age, .int .i64 y.t.proc, .int .i64 y.t.began, .slice y.x.a0 y.t.calls.length y.x.c0, .slice y.x.a1 y.t.ans.length y.x.c1, .slice y.x.a2 y.t.rd.length y.x.c2, .slice y.x.a3 y.t.wr.length y.x.c3, .slice y.x.a4 y.t.marks.length y.x.c4, .int .i64 y.t.state] ∧ A' = [.rows (rdsX y)]) := by
  obtain ⟨hb0, hb1, hb2, hb3, hb4⟩ := hl
  refine Ct.intro Tryz.func65 rfl Tryz.ntmps65 (lb rfl) fun w0 hpre => ?_
  obtain ⟨hs_1, hs_2, hs_3, hs_4, hs_5⟩ := seesX hpre
  refine jC <| jE ?_
  refine jH rfl (jm (cs := [iv p.t.id, iv p.t.age, iv p.t.proc, iv p.t.began, .slice p.x.a0 p.t.calls.length p.x.c0, .slice p.x.a1 p.t.ans.length p.x.c1, .slice p.x.a2 p.t.rd.length p.x.c2, .slice p.x.a3 p.t.wr.length p.x.c3, .slice p.x.a4 p.t.marks.length p.x.c4, iv p.t.state]) rfl rfl) ?_
  rintro _ _ ⟨b_6, rfl, rfl⟩
  refine jH rfl (kB (z := .agg #[iv 0, iv 0, iv 0, iv 0, .slice none 0 0, .slice none 0 0, .slice none 0 0, .slice none 0 0, .slice none 0 0, iv 0]) (cs := [iv 0, iv 0, iv 0, iv 0, .slice none 0 0, .slice none 0 0, .slice none 0 0, .slice none 0 0, .slice none 0 0, iv 0]) gC rfl) ?_
  rintro _ _ ⟨b_7, rfl, rfl⟩
  refine jD <| jB <| jC <| kG [bk b_7 61 [iv 0, iv 0, iv 0, iv 0, .slice none 0 0, .slice none 0 0, .slice none 0 0, .slice none 0 0, .slice none 0 0, iv 0], bk b_6 61 [iv p.t.id, iv p.t.age, iv p.t.proc, iv p.t.began, .slice p.x.a0 p.t.calls.length p.x.c0, .slice p.x.a1 p.t.ans.length p.x.c1, .slice p.x.a2 p.t.rd.length p.x.c2, .slice p.x.a3 p.t.wr.length p.x.c3, .slice p.x.a4 p.t.marks.length p.x.c4, iv p.t.state]] 12 mixed (by simp) <| jT 0 rfl (jI fo61_4 rfl) <| jw 1 rfl (jR 1 (v := .slice p.x.a0 p.t.calls.length p.x.c0) rfl rfl Tryz.isAgg57 rfl) <| jT 3 rfl (jI fo61_5 rfl) <| jw 4 rfl (jR 1 (v := .slice p.x.a1 p.t.ans.length p.x.c1) rfl rfl gB rfl) <| jT 6 rfl (jI fo61_7 rfl) <| jw 7 rfl (jR 1 (v := .slice p.x.a4 p.t.marks.length p.x.c4) rfl rfl gA rfl) ?_
  refine jT 9 rfl (jI fo61_6 rfl) <| jw 10 rfl (jg 1 (vs := [.slice p.x.a2 p.t.rd.length p.x.c2, .slice p.x.a3 p.t.wr.length p.x.c3]) rfl rfl gE kv rfl rfl) <| jq (i := 2) ?_
  refine kA rfl rfl (jU [] Tryz.call116 rfl (Z_cloneK p.x.a0 p.x.c0 p.t.calls (by omega)) rfl (fun w hw => hw.seeOut_ hs_1 nM)) ?_
  rintro _ _ ⟨_, ⟨a_22, c_23, rfl, rfl⟩, rfl⟩
  refine ⟨by simp, ?_⟩
  refine jT 12 rfl (jI fo61_4 rfl) <| jq (i := 5) ?_
  refine kA rfl rfl (jU [] Tryz.call117 rfl (Z_cloneA p.x.a1 p.x.c1 p.t.ans (by omega)) rfl (fun w hw => hw.seeOut_ hs_2 nM)) ?_
  rintro _ _ ⟨_, ⟨a_28, c_29, rfl, rfl⟩, rfl⟩
  refine ⟨by simp, ?_⟩
  refine jq (i := 8) ?_
  refine kA rfl rfl (jU [] Tryz.call118 rfl (Z_cloneI p.x.a4 p.x.c4 p.t.marks (by omega)) rfl (fun w hw => hw.seeOut_ hs_5 nM)) ?_
  rintro _ _ ⟨_, ⟨a_32, c_33, rfl, rfl⟩, rfl⟩
  refine ⟨by simp, ?_⟩
  refine jq (i := 11) ?_
  refine kA rfl rfl (jU [] Tryz.call119 rfl (Z_cloneTouch p.x.a2 p.x.a3 p.x.c2 p.x.c3 p.t.rd p.t.wr (by omega) (by omega)) rfl (fun w hw => ⟨hw.seeOut_ hs_3 nM, hw.seeOut_ hs_4 nM⟩)) ?_
  rintro _ _ ⟨_, ⟨a_38, c_39, a_40, c_41, rfl, rfl⟩, rfl⟩
  refine ⟨by simp, ?_⟩
  refine jq (i := 13) ?_
  refine JX.lt rfl (jd 6 (vs := [.slice a_22 p.t.calls.length c_23]) (cs' := [iv p.t.id, iv p.t.age, iv p.t.proc, iv p.t.began, .slice a_22 p.t.calls.length c_23, .slice p.x.a1 p.t.ans.length p.x.c1, .slice p.x.a2 p.t.rd.length p.x.c2, .slice p.x.a3 p.t.wr.length p.x.c3, .slice p.x.a4 p.t.marks.length p.x.c4, iv p.t.state]) rfl rfl rfl rfl Tryz.sizeOf57 rfl rfl (lb rfl) rfl) ?_
  rintro _ _ rfl
  refine jT 14 rfl (jI fo61_5 rfl) <| jq (i := 15) ?_
  refine JX.lt rfl (jd 6 (vs := [.slice a_28 p.t.ans.length c_29]) (cs' := [iv p.t.id, iv p.t.age, iv p.t.proc, iv p.t.began, .slice a_22 p.t.calls.length c_23, .slice a_28 p.t.ans.length c_29, .slice p.x.a2 p.t.rd.length p.x.c2, .slice p.x.a3 p.t.wr.length p.x.c3, .slice p.x.a4 p.t.marks.length p.x.c4, iv p.t.state]) rfl rfl rfl rfl Tryz.sizeOf58 rfl rfl (lb rfl) rfl) ?_
  rintro _ _ rfl
  refine jT 16 rfl (jI fo61_7 rfl) <| jq (i := 17) ?_
  refine JX.lt rfl (jd 6 (vs := [.slice a_32 p.t.marks.length c_33]) (cs' := [iv p.t.id, iv p.t.age, iv p.t.proc, iv p.t.began, .slice a_22 p.t.calls.length c_23, .slice a_28 p.t.ans.length c_29, .slice p.x.a2 p.t.rd.length p.x.c2, .slice p.x.a3 p.t.wr.length p.x.c3, .slice a_32 p.t.marks.length c_33, iv p.t.state]) rfl rfl rfl rfl Tryz.sizeOf52 rfl rfl (lb rfl) rfl) ?_
  rintro _ _ rfl
  refine jT 18 rfl (jI fo61_6 rfl) <| jq (i := 19) ?_
  refine JX.ls rfl (jd 6 (vs := [.slice a_38 p.t.rd.length c_39, .slice a_40 p.t.wr.length c_41]) (cs' := [iv p.t.id, iv p.t.age, iv p.t.proc, iv p.t.began, .slice a_22 p.t.calls.length c_23, .slice a_28 p.t.ans.length c_29, .slice a_38 p.t.rd.length c_39, .slice a_40 p.t.wr.length c_41, .slice a_32 p.t.marks.length c_33, iv p.t.state]) rfl rfl rfl rfl kv rfl rfl (lb rfl) rfl) ?_
  rintro _ _ rfl
  refine jB <| jC <| jE <| jK (jg 6 (vs := [iv p.t.id, iv p.t.age, iv p.t.proc, iv p.t.began, .slice a_22 p.t.calls.length c_23, .slice a_28 p.t.ans.length c_29, .slice a_38 p.t.rd.length c_39, .slice a_40 p.t.wr.length c_41, .slice a_32 p.t.marks.length c_33, iv p.t.state]) rfl rfl kg kS rfl rfl) ?_
  refine jH rfl (jd 5 (vs := [iv p.t.id, iv p.t.age, iv p.t.proc, iv p.t.began, .slice a_22 p.t.calls.length c_23, .slice a_28 p.t.ans.length c_29, .slice a_38 p.t.rd.length c_39, .slice a_40 p.t.wr.length c_41, .slice a_32 p.t.marks.length c_33, iv p.t.state]) (cs' := [iv p.t.id, iv p.t.age, iv p.t.proc, iv p.t.began, .slice a_22 p.t.calls.length c_23, .slice a_28 p.t.ans.length c_29, .slice a_38 p.t.rd.length c_39, .slice a_40 p.t.wr.length c_41, .slice a_32 p.t.marks.length c_33, iv p.t.state]) rfl rfl rfl rfl kS rfl rfl (lb rfl) rfl) ?_
  rintro _ _ rfl
  refine jD <| jB <| jJ <| jv (L' := [Res.rows (rdsX (⟨⟨a_22, c_23, a_28, c_29, a_38, c_39, a_40, c_41, a_32, c_33⟩, p.t⟩ : TX)), bk b_7 61 [iv p.t.id, iv p.t.age, iv p.t.proc, iv p.t.began, .slice a_22 p.t.calls.length c_23, .slice a_28 p.t.ans.length c_29, .slice a_38 p.t.rd.length c_39, .slice a_40 p.t.wr.length c_41, .slice a_32 p.t.marks.length c_33, iv p.t.state], bk b_6 61 [iv p.t.id, iv p.t.age, iv p.t.proc, iv p.t.began, .slice a_22 p.t.calls.length c_23, .slice a_28 p.t.ans.length c_29, .slice a_38 p.t.rd.length c_39, .slice a_40 p.t.wr.length c_41, .slice a_32 p.t.marks.length c_33, iv p.t.state]]) (fun w hw => hw.closeR (A := rdsX (⟨⟨a_22, c_23, a_28, c_29, a_38, c_39, a_40, c_41, a_32, c_33⟩, p.t⟩ : TX)) [4, 3, 0, 0, 0] rfl) <| jL (.inl rfl) rfl (kI (jg 1 (vs := [iv p.t.id, iv p.t.age, iv p.t.proc, iv p.t.began, .slice a_22 p.t.calls.length c_23, .slice a_28 p.t.ans.length c_29, .slice a_38 p.t.rd.length c_39, .slice a_40 p.t.wr.length c_41, .slice a_32 p.t.marks.length c_33, iv p.t.state]) rfl rfl kg kS rfl rfl) ⟨_, rfl⟩) (tS 1 _) ?_
  exact ⟨(⟨⟨a_22, c_23, a_28, c_29, a_38, c_39, a_40, c_41, a_32, c_33⟩, p.t⟩ : TX), rfl, rfl, rfl⟩

theorem Z_specl17Copy (p : TX) (hl : p.t.lim 1000000000) :
    Ct Tryz.prog 59 [.agg #[.int .i64 p.t.id, .int .i64 p.t.age, .int .i64 p.t.proc, .int .i64 p.t.began, .slice p.x.a0 p.t.calls.length p.x.c0, .slice p.x.a1 p.t.ans.length p.x.c1, .slice p.x.a2 p.t.rd.length p.x.c2, .slice p.x.a3 p.t.wr.length p.x.c3, .slice p.x.a4 p.t.marks.length p.x.c4, .int .i64 p.t.state]] [] (fun w => SeesA w (rdsX p)) (fun v A' => ∃ y : TX, y.t = p.t ∧ v = .agg #[.int .i64 y.t.id, .int .i64 y.t.age, .int .i64 y.t.proc, .int .i64 y.t.began, .slice y.x.a0 y.t.calls.length y.x.c0, .slice y.x.a1 y.t.ans.length y.x.c1, .slice y.x.a2 y.t.rd.length y.x.c2, .slice y.x.a3 y.t.wr.length y.x.c3, .slice y.x.a4 y.t.marks.length y.x.c4, .int .i64 y.t.state] ∧ A' = [.rows (rdsX y)]) := by
  obtain ⟨hb0, hb1, hb2, hb3, hb4⟩ := hl
  refine Ct.intro Tryz.func59 rfl Tryz.ntmps59 (lb rfl) fun w0 hpre => ?_
  obtain ⟨hs_1, hs_2, hs_3, hs_4, hs_5⟩ := seesX hpre
  refine jC <| jE ?_
  refine jH rfl (jm (cs := [iv p.t.id, iv p.t.age, iv p.t.proc, iv p.t.began, .slice p.x.a0 p.t.calls.length p.x.c0, .slice p.x.a1 p.t.ans.length p.x.c1, .slice p.x.a2 p.t.rd.length p.x.c2, .slice p.x.a3 p.t.wr.length p.x.c3, .slice p.x.a4 p.t.marks.length p.x.c4, iv p.t.state]) rfl rfl) ?_
  rintro _ _ ⟨b_6, rfl, rfl⟩
  refine jH rfl (kB (z := .agg #[iv 0, iv 0, iv 0, iv 0, .slice none 0 0, .slice none 0 0, .slice none 0 0, .slice none 0 0, .slice none 0 0, iv 0]) (cs := [iv 0, iv 0, iv 0, iv 0, .slice none 0 0, .slice none 0 0, .slice none 0 0, .slice none 0 0, .slice none 0 0, iv 0]) gC rfl) ?_
  rintro _ _ ⟨b_7, rfl, rfl⟩
  refine jD <| jB <| jC <| jE ?_
  refine jH rfl (kK (ps := []) (cur := #[]) ki kp Tryz.zeroValue152 rfl (by kernel_rfl) (by decide) (by decide)) ?_
  rintro _ _ ⟨a_8, rfl, rfl⟩
  refine jA (jI fo61_4 rfl) <| jK (jR 2 (v := .slice p.x.a0 p.t.calls.length p.x.c0) rfl rfl Tryz.isAgg57 rfl) ?_
  refine jH rfl (kN 0 (q := p.t.calls.length) (news := p.t.calls.flatMap encK) (n' := p.t.calls.length) (cs' := p.t.calls.flatMap encK) rfl ki ki Tryz.typeInfo152 rfl (by' := 72) rfl rfl rfl rfl rfl (fun w hw => Src.sees (hw.seeOut_ hs_1 nM) (oneK _)) (by (try simp only [LE]); omega) (by (try simp only [LE]); omega) (by (try simp only [List.length_take, List.length_drop]); first | rfl | omega) rfl) ?_
  rintro _ _ ⟨a_9, c_10, rfl, rfl⟩
  refine jA (jI fo61_4 rfl) ?_
  refine jH rfl (jd 2 (vs := [.slice a_9 p.t.calls.length c_10]) (cs' := [iv p.t.id, iv p.t.age, iv p.t.proc, iv p.t.began, .slice a_9 p.t.calls.length c_10, .slice p.x.a1 p.t.ans.length p.x.c1, .slice p.x.a2 p.t.rd.length p.x.c2, .slice p.x.a3 p.t.wr.length p.x.c3, .slice p.x.a4 p.t.marks.length p.x.c4, iv p.t.state]) rfl rfl rfl rfl Tryz.sizeOf57 rfl rfl (lb rfl) rfl) ?_
  rintro _ _ rfl
  refine jD <| jB <| jC <| jE ?_
  refine jH rfl (kK (ps := []) (cur := #[]) km ku Tryz.zeroValue154 rfl (by kernel_rfl) (by decide) (by decide)) ?_
  rintro _ _ ⟨a_11, rfl, rfl⟩
  refine jA (jI fo61_5 rfl) <| jK (jR 3 (v := .slice p.x.a1 p.t.ans.length p.x.c1) rfl rfl gB rfl) ?_
  refine jH rfl (kN 0 (q := p.t.ans.length) (news := p.t.ans.flatMap encA) (n' := p.t.ans.length) (cs' := p.t.ans.flatMap encA) rfl km km Tryz.typeInfo154 rfl (by' := 32) rfl rfl rfl rfl rfl (fun w hw => Src.sees (hw.seeOut_ hs_2 nM) (oneA _)) (by (try simp only [LE]); omega) (by (try simp only [LE]); omega) (by (try simp only [List.length_take, List.length_drop]); first | rfl | omega) rfl) ?_
  rintro _ _ ⟨a_12, c_13, rfl, rfl⟩
  refine jA (jI fo61_5 rfl) ?_
  refine jH rfl (jd 3 (vs := [.slice a_12 p.t.ans.length c_13]) (cs' := [iv p.t.id, iv p.t.age, iv p.t.proc, iv p.t.began, .slice a_9 p.t.calls.length c_10, .slice a_12 p.t.ans.length c_13, .slice p.x.a2 p.t.rd.length p.x.c2, .slice p.x.a3 p.t.wr.length p.x.c3, .slice p.x.a4 p.t.marks.length p.x.c4, iv p.t.state]) rfl rfl rfl rfl Tryz.sizeOf58 rfl rfl (lb rfl) rfl) ?_
  rintro _ _ rfl
  refine jD <| jB <| jC <| kG [Res.row (.slice a_12 p.t.ans.length c_13) 154 3 p.t.ans.length (p.t.ans.flatMap encA), Res.row (.slice a_9 p.t.calls.length c_10) 152 6 p.t.calls.length (p.t.calls.flatMap encK), bk b_7 61 [iv 0, iv 0, iv 0, iv 0, .slice none 0 0, .slice none 0 0, .slice none 0 0, .slice none 0 0, .slice none 0 0, iv 0], bk b_6 61 [iv p.t.id, iv p.t.age, iv p.t.proc, iv p.t.began, .slice a_9 p.t.calls.length c_10, .slice a_12 p.t.ans.length c_13, .slice p.x.a2 p.t.rd.length p.x.c2, .slice p.x.a3 p.t.wr.length p.x.c3, .slice p.x.a4 p.t.marks.length p.x.c4, iv p.t.state]] 11 mixed (by simp) <| jT 1 rfl (jI fo61_6 rfl) <| jT 2 rfl (jI fo59_0 rfl) <| jw 3 rfl (jR 3 (v := .slice p.x.a2 p.t.rd.length p.x.c2) rfl rfl ka rfl) <| jT 6 rfl (jI fo61_6 rfl) <| jT 7 rfl (jI fo59_1 rfl) <| jw 8 rfl (jR 3 (v := .slice p.x.a3 p.t.wr.length p.x.c3) rfl rfl ka rfl) ?_
  refine JA.two (i := 0) (j := 5) (by kernel_rfl) ?_ ?_
  · refine kA rfl rfl (kK (ps := []) (cur := #[]) kV kZ Tryz.zeroValue9 rfl (by kernel_rfl) (by decide) (by decide)) ?_
    rintro _ _ ⟨a_25, rfl, rfl⟩
    refine ⟨by simp, ?_⟩
    refine JA.two (i := 4) (j := 5) (by kernel_rfl) ?_ ?_
    · refine kA rfl rfl (kN 0 (q := p.t.rd.length) (news := p.t.rd.map str) (n' := p.t.rd.length) (cs' := p.t.rd.map str) rfl kV kV Tryz.typeInfo9 rfl (by' := 16) rfl rfl rfl rfl rfl (fun w hw => Src.sees (hw.seeOut_ hs_3 nM) (oneS _)) (by (try simp only [LE]); omega) (by (try simp only [LE]); omega) (by (try simp only [List.length_take, List.length_drop]); first | rfl | omega) rfl) ?_
      rintro _ _ ⟨a_29, c_30, rfl, rfl⟩
      refine ⟨by simp, ?_⟩
      refine jq (i := 5) ?_
      refine kA rfl rfl (kK (ps := []) (cur := #[]) kV kZ Tryz.zeroValue9 rfl (by kernel_rfl) (by decide) (by decide)) ?_
      rintro _ _ ⟨a_32, rfl, rfl⟩
      refine ⟨by simp, ?_⟩
      refine jq (i := 9) ?_
      refine kA rfl rfl (kN 0 (q := p.t.wr.length) (news := p.t.wr.map str) (n' := p.t.wr.length) (cs' := p.t.wr.map str) rfl kV kV Tryz.typeInfo9 rfl (by' := 16) rfl rfl rfl rfl rfl (fun w hw => Src.sees (hw.seeOut_ hs_4 nM) (oneS _)) (by (try simp only [LE]); omega) (by (try simp only [LE]); omega) (by (try simp only [List.length_take, List.length_drop]); first | rfl | omega) rfl) ?_
      rintro _ _ ⟨a_35, c_36, rfl, rfl⟩
      refine ⟨by simp, ?_⟩
      refine jT 10 rfl (PO.build (ps := [(0, .slice a_29 p.t.rd.length c_30), (1, .slice a_35 p.t.wr.length c_36)]) (cs := [.slice a_29 p.t.rd.length c_30, .slice a_35 p.t.wr.length c_36]) rfl (by kernel_rfl)) <| jT 11 rfl (jI fo61_6 rfl) <| jq (i := 12) ?_
      refine JX.ls rfl (jd 5 (vs := [.slice a_29 p.t.rd.length c_30, .slice a_35 p.t.wr.length c_36]) (cs' := [iv p.t.id, iv p.t.age, iv p.t.proc, iv p.t.began, .slice a_9 p.t.calls.length c_10, .slice a_12 p.t.ans.length c_13, .slice a_29 p.t.rd.length c_30, .slice a_35 p.t.wr.length c_36, .slice p.x.a4 p.t.marks.length p.x.c4, iv p.t.state]) rfl rfl rfl rfl kv rfl rfl (lb rfl) rfl) ?_
      rintro _ _ rfl
      refine jB <| jC <| jE ?_
      refine jH rfl (kK (ps := []) (cur := #[]) ke kW Tryz.zeroValue3 rfl (by kernel_rfl) (by decide) (by decide)) ?_
      rintro _ _ ⟨a_37, rfl, rfl⟩
      refine jA (jI fo61_7 rfl) <| jK (jR 6 (v := .slice p.x.a4 p.t.marks.length p.x.c4) rfl rfl gA rfl) ?_
      refine jH rfl (kN 0 (q := p.t.marks.length) (news := p.t.marks.map (Value.int .i64)) (n' := p.t.marks.length) (cs' := p.t.marks.map (Value.int .i64)) rfl ke ke Tryz.typeInfo3 rfl (by' := 8) rfl rfl rfl rfl rfl (fun w hw => Src.sees (hw.seeOut_ hs_5 nM) (oneI _)) (by (try simp only [LE]); omega) (by (try simp only [LE]); omega) (by (try simp only [List.length_take, List.length_drop]); first | rfl | omega) rfl) ?_
      rintro _ _ ⟨a_38, c_39, rfl, rfl⟩
      refine jA (jI fo61_7 rfl) ?_
      refine jH rfl (jd 6 (vs := [.slice a_38 p.t.marks.length c_39]) (cs' := [iv p.t.id, iv p.t.age, iv p.t.proc, iv p.t.began, .slice a_9 p.t.calls.length c_10, .slice a_12 p.t.ans.length c_13, .slice a_29 p.t.rd.length c_30, .slice a_35 p.t.wr.length c_36, .slice a_38 p.t.marks.length c_39, iv p.t.state]) rfl rfl rfl rfl Tryz.sizeOf52 rfl rfl (lb rfl) rfl) ?_
      rintro _ _ rfl
      refine jD <| jB <| jC <| jE <| jK (jg 6 (vs := [iv p.t.id, iv p.t.age, iv p.t.proc, iv p.t.began, .slice a_9 p.t.calls.length c_10, .slice a_12 p.t.ans.length c_13, .slice a_29 p.t.rd.length c_30, .slice a_35 p.t.wr.length c_36, .slice a_38 p.t.marks.length c_39, iv p.t.state]) rfl rfl kg kS rfl rfl) ?_
      refine jH rfl (jd 5 (vs := [iv p.t.id, iv p.t.age, iv p.t.proc, iv p.t.began, .slice a_9 p.t.calls.length c_10, .slice a_12 p.t.ans.length c_13, .slice a_29 p.t.rd.length c_30, .slice a_35 p.t.wr.length c_36, .slice a_38 p.t.marks.length c_39, iv p.t.state]) (cs' := [iv p.t.id, iv p.t.age, iv p.t.proc, iv p.t.began, .slice a_9 p.t.calls.length c_10, .slice a_12 p.t.ans.length c_13, .slice a_29 p.t.rd.length c_30, .slice a_35 p.t.wr.length c_36, .slice a_38 p.t.marks.length c_39, iv p.t.state]) rfl rfl rfl rfl kS rfl rfl (lb rfl) rfl) ?_
      rintro _ _ rfl
      refine jD <| jB <| jJ <| jv (L' := [Res.rows (rdsX (⟨⟨a_9, c_10, a_12, c_13, a_29, c_30, a_35, c_36, a_38, c_39⟩, p.t⟩ : TX)), bk b_7 61 [iv p.t.id, iv p.t.age, iv p.t.proc, iv p.t.began, .slice a_9 p.t.calls.length c_10, .slice a_12 p.t.ans.length c_13, .slice a_29 p.t.rd.length c_30, .slice a_35 p.t.wr.length c_36, .slice a_38 p.t.marks.length c_39, iv p.t.state], bk b_6 61 [iv p.t.id, iv p.t.age, iv p.t.proc, iv p.t.began, .slice a_9 p.t.calls.length c_10, .slice a_12 p.t.ans.length c_13, .slice a_29 p.t.rd.length c_30, .slice a_35 p.t.wr.length c_36, .slice a_38 p.t.marks.length c_39, iv p.t.state]]) (fun w hw => hw.closeR (A := rdsX (⟨⟨a_9, c_10, a_12, c_13, a_29, c_30, a_35, c_36, a_38, c_39⟩, p.t⟩ : TX)) [4, 3, 2, 1, 0] rfl) <| jL (.inl rfl) rfl (kI (jg 1 (vs := [iv p.t.id, iv p.t.age, iv p.t.proc, iv p.t.began, .slice a_9 p.t.calls.length c_10, .slice a_12 p.t.ans.length c_13, .slice a_29 p.t.rd.length c_30, .slice a_35 p.t.wr.length c_36, .slice a_38 p.t.marks.length c_39, iv p.t.state]) rfl rfl kg kS rfl rfl) ⟨_, rfl⟩) (tS 1 _) ?_
      exact ⟨(⟨⟨a_9, c_10, a_12, c_13, a_29, c_30, a_35, c_36, a_38, c_39⟩, p.t⟩ : TX), rfl, rfl, rfl⟩
    refine kA rfl rfl (kK (ps := []) (cur := #[]) kV kZ Tryz.zeroValue9 rfl (by kernel_rfl) (by decide) (by decide)) ?_
    rintro _ _ ⟨a_40, rfl, rfl⟩
    refine ⟨by simp, ?_⟩
    refine jq (i := 4) ?_
    refine kA rfl rfl (kN 1 (q := p.t.rd.length) (news := p.t.rd.map str) (n' := p.t.rd.length) (cs' := p.t.rd.map str) rfl kV kV Tryz.typeInfo9 rfl (by' := 16) rfl rfl rfl rfl rfl (fun w hw => Src.sees (hw.seeOut_ hs_3 nM) (oneS _)) (by (try simp only [LE]); omega) (by (try simp only [LE]); omega) (by (try simp only [List.length_take, List.length_drop]); first | rfl | omega) rfl) ?_
    rintro _ _ ⟨a_43, c_44, rfl, rfl⟩
    refine ⟨by simp, ?_⟩
    refine jq (i := 9) ?_
    refine kA rfl rfl (kN 0 (q := p.t.wr.length) (news := p.t.wr.map str) (n' := p.t.wr.length) (cs' := p.t.wr.map str) rfl kV kV Tryz.typeInfo9 rfl (by' := 16) rfl rfl rfl rfl rfl (fun w hw => Src.sees (hw.seeOut_ hs_4 nM) (oneS _)) (by (try simp only [LE]); omega) (by (try simp only [LE]); omega) (by (try simp only [List.length_take, List.length_drop]); first | rfl | omega) rfl) ?_
    rintro _ _ ⟨a_47, c_48, rfl, rfl⟩
    refine ⟨by simp, ?_⟩
    refine jT 10 rfl (PO.build (ps := [(0, .slice a_43 p.t.rd.length c_44), (1, .slice a_47 p.t.wr.length c_48)]) (cs := [.slice a_43 p.t.rd.length c_44, .slice a_47 p.t.wr.length c_48]) rfl (by kernel_rfl)) <| jT 11 rfl (jI fo61_6 rfl) <| jq (i := 12) ?_
    refine JX.ls rfl (jd 5 (vs := [.slice a_43 p.t.rd.length c_44, .slice a_47 p.t.wr.length c_48]) (cs' := [iv p.t.id, iv p.t.age, iv p.t.proc, iv p.t.began, .slice a_9 p.t.calls.length c_10, .slice a_12 p.t.ans.length c_13, .slice a_43 p.t.rd.length c_44, .slice a_47 p.t.wr.length c_48, .slice p.x.a4 p.t.marks.length p.x.c4, iv p.t.state]) rfl rfl rfl rfl kv rfl rfl (lb rfl) rfl) ?_
    rintro _ _ rfl
    refine jB <| jC <| jE ?_
    refine jH rfl (kK (ps := []) (cur := #[]) ke kW Tryz.zeroValue3 rfl (by kernel_rfl) (by decide) (by decide)) ?_
    rintro _ _ ⟨a_49, rfl, rfl⟩
    refine jA (jI fo61_7 rfl) <| jK (jR 6 (v := .slice p.x.a4 p.t.marks.length p.x.c4) rfl rfl gA rfl) ?_
    refine jH rfl (kN 0 (q := p.t.marks.length) (news := p.t.marks.map (Value.int .i64)) (n' := p.t.marks.length) (cs' := p.t.marks.map (Value.int .i64)) rfl ke ke Tryz.typeInfo3 rfl (by' := 8) rfl rfl rfl rfl rfl (fun w hw => Src.sees (hw.seeOut_ hs_5 nM) (oneI _)) (by (try simp only [LE]); omega) (by (try simp only [LE]); omega) (by (try simp only [List.length_take, List.length_drop]); first | rfl | omega) rfl) ?_
    rintro _ _ ⟨a_50, c_51, rfl, rfl⟩
    refine jA (jI fo61_7 rfl) ?_
    refine jH rfl (jd 6 (vs := [.slice a_50 p.t.marks.length c_51]) (cs' := [iv p.t.id, iv p.t.age, iv p.t.proc, iv p.t.began, .slice a_9 p.t.calls.length c_10, .slice a_12 p.t.ans.length c_13, .slice a_43 p.t.rd.length c_44, .slice a_47 p.t.wr.length c_48, .slice a_50 p.t.marks.length c_51, iv p.t.state]) rfl rfl rfl rfl Tryz.sizeOf52 rfl rfl (lb rfl) rfl) ?_
    rintro _ _ rfl
    refine jD <| jB <| jC <| jE <| jK (jg 6 (vs := [iv p.t.id, iv p.t.age, iv p.t.proc, iv p.t.began, .slice a_9 p.t.calls.length c_10, .slice a_12 p.t.ans.length c_13, .slice a_43 p.t.rd.length c_44, .slice a_47 p.t.wr.length c_48, .slice a_50 p.t.marks.length c_51, iv p.t.state]) rfl rfl kg kS rfl rfl) ?_
    refine jH rfl (jd 5 (vs := [iv p.t.id, iv p.t.age, iv p.t.proc, iv p.t.began, .slice a_9 p.t.calls.length c_10, .slice a_12 p.t.ans.length c_13, .slice a_43 p.t.rd.length c_44, .slice a_47 p.t.wr.length c_48, .slice a_50 p.t.marks.length c_51, iv p.t.state]) (cs' := [iv p.t.id, iv p.t.age, iv p.t.proc, iv p.t.began, .slice a_9 p.t.calls.length c_10, .slice a_12 p.t.ans.length c_13, .slice a_43 p.t.rd.length c_44, .slice a_47 p.t.wr.length c_48, .slice a_50 p.t.marks.length c_51, iv p.t.state]) rfl rfl rfl rfl kS rfl rfl (lb rfl) rfl) ?_
    rintro _ _ rfl
    refine jD <| jB <| jJ <| jv (L' := [Res.rows (rdsX (⟨⟨a_9, c_10, a_12, c_13, a_43, c_44, a_47, c_48, a_50, c_51⟩, p.t⟩ : TX)), bk b_7 61 [iv p.t.id, iv p.t.age, iv p.t.proc, iv p.t.began, .slice a_9 p.t.calls.length c_10, .slice a_12 p.t.ans.length c_13, .slice a_43 p.t.rd.length c_44, .slice a_47 p.t.wr.length c_48, .slice a_50 p.t.marks.length c_51, iv p.t.state], bk b_6 61 [iv p.t.id, iv p.t.age, iv p.t.proc, iv p.t.began, .slice a_9 p.t.calls.length c_10, .slice a_12 p.t.ans.length c_13, .slice a_43 p.t.rd.length c_44, .slice a_47 p.t.wr.length c_48, .slice a_50 p.t.marks.length c_51, iv p.t.state]]) (fun w hw => hw.closeR (A := rdsX (⟨⟨a_9, c_10, a_12, c_13, a_43, c_44, a_47, c_48, a_50, c_51⟩, p.t⟩ : TX)) [4, 3, 2, 1, 0] rfl) <| jL (.inl rfl) rfl (kI (jg 1 (vs := [iv p.t.id, iv p.t.age, iv p.t.proc, iv p.t.began, .slice a_9 p.t.calls.length c_10, .slice a_12 p.t.ans.length c_13, .slice a_43 p.t.rd.length c_44, .slice a_47 p.t.wr.length c_48, .slice a_50 p.t.marks.length c_51, iv p.t.state]) rfl rfl kg kS rfl rfl) ⟨_, rfl⟩) (tS 1 _) ?_
    exact ⟨(⟨⟨a_9, c_10, a_12, c_13, a_43, c_44, a_47, c_48, a_50, c_51⟩, p.t⟩ : TX), rfl, rfl, rfl⟩
  refine kA rfl rfl (kK (ps := []) (cur := #[]) kV kZ Tryz.zeroValue9 rfl (by kernel_rfl) (by decide) (by decide)) ?_
  rintro _ _ ⟨a_52, rfl, rfl⟩
  refine ⟨by simp, ?_⟩
  refine jq (i := 0) ?_
  refine kA rfl rfl (kK (ps := []) (cur := #[]) kV kZ Tryz.zeroValue9 rfl (by kernel_rfl) (by decide) (by decide)) ?_
  rintro _ _ ⟨a_54, rfl, rfl⟩
  refine ⟨by simp, ?_⟩
  refine jq (i := 4) ?_
  refine kA rfl rfl (kN 0 (q := p.t.rd.length) (news := p.t.rd.map str) (n' := p.t.rd.length) (cs' := p.t.rd.map str) rfl kV kV Tryz.typeInfo9 rfl (by' := 16) rfl rfl rfl rfl rfl (fun w hw => Src.sees (hw.seeOut_ hs_3 nM) (oneS _)) (by (try simp only [LE]); omega) (by (try simp only [LE]); omega) (by (try simp only [List.length_take, List.length_drop]); first | rfl | omega) rfl) ?_
  rintro _ _ ⟨a_57, c_58, rfl, rfl⟩
  refine ⟨by simp, ?_⟩
  refine jq (i := 9) ?_
  refine kA rfl rfl (kN 1 (q := p.t.wr.length) (news := p.t.wr.map str) (n' := p.t.wr.length) (cs' := p.t.wr.map str) rfl kV kV Tryz.typeInfo9 rfl (by' := 16) rfl rfl rfl rfl rfl (fun w hw => Src.sees (hw.seeOut_ hs_4 nM) (oneS _)) (by (try simp only [LE]); omega) (by (try simp only [LE]); omega) (by (try simp only [List.length_take, List.length_drop]); first | rfl | omega) rfl) ?_
  rintro _ _ ⟨a_61, c_62, rfl, rfl⟩
  refine ⟨by simp, ?_⟩
  refine jT 10 rfl (PO.build (ps := [(0, .slice a_57 p.t.rd.length c_58), (1, .slice a_61 p.t.wr.length c_62)]) (cs := [.slice a_57 p.t.rd.length c_58, .slice a_61 p.t.wr.length c_62]) rfl (by kernel_rfl)) <| jT 11 rfl (jI fo61_6 rfl) <| jq (i := 12) ?_
  refine JX.ls rfl (jd 5 (vs := [.slice a_57 p.t.rd.length c_58, .slice a_61 p.t.wr.length c_62]) (cs' := [iv p.t.id, iv p.t.age, iv p.t.proc, iv p.t.began, .slice a_9 p.t.calls.length c_10, .slice a_12 p.t.ans.length c_13, .slice a_57 p.t.rd.length c_58, .slice a_61 p.t.wr.length c_62, .slice p.x.a4 p.t.marks.length p.x.c4, iv p.t.state]) rfl rfl rfl rfl kv rfl rfl (lb rfl) rfl) ?_
  rintro _ _ rfl
  refine jB <| jC <| jE ?_
  refine jH rfl (kK (ps := []) (cur := #[]) ke kW Tryz.zeroValue3 rfl (by kernel_rfl) (by decide) (by decide)) ?_
  rintro _ _ ⟨a_63, rfl, rfl⟩
  refine jA (jI fo61_7 rfl) <| jK (jR 6 (v := .slice p.x.a4 p.t.marks.length p.x.c4) rfl rfl gA rfl) ?_
  refine jH rfl (kN 0 (q := p.t.marks.length) (news := p.t.marks.map (Value.int .i64)) (n' := p.t.marks.length) (cs' := p.t.marks.map (Value.int .i64)) rfl ke ke Tryz.typeInfo3 rfl (by' := 8) rfl rfl rfl rfl rfl (fun w hw => Src.sees (hw.seeOut_ hs_5 nM) (oneI _)) (by (try simp only [LE]); omega) (by (try simp only [LE]); omega) (by (try simp only [List.length_take, List.length_drop]); first | rfl | omega) rfl) ?_
  rintro _ _ ⟨a_64, c_65, rfl, rfl⟩
  refine jA (jI fo61_7 rfl) ?_
  refine jH rfl (jd 6 (vs := [.slice a_64 p.t.marks.length c_65]) (cs' := [iv p.t.id, iv p.t.age, iv p.t.proc, iv p.t.began, .slice a_9 p.t.calls.length c_10, .slice a_12 p.t.ans.length c_13, .slice a_57 p.t.rd.length c_58, .slice a_61 p.t.wr.length c_62, .slice a_64 p.t.marks.length c_65, iv p.t.state]) rfl rfl rfl rfl Tryz.sizeOf52 rfl rfl (lb rfl) rfl) ?_
  rintro _ _ rfl
  refine jD <| jB <| jC <| jE <| jK (jg 6 (vs := [iv p.t.id, iv p.t.age, iv p.t.proc, iv p.t.began, .slice a_9 p.t.calls.length c_10, .slice a_12 p.t.ans.length c_13, .slice a_57 p.t.rd.length c_58, .slice a_61 p.t.wr.length c_62, .slice a_64 p.t.marks.length c_65, iv p.t.state]) rfl rfl kg kS rfl rfl) ?_
  refine jH rfl (jd 5 (vs := [iv p.t.id, iv p.t.age, iv p.t.proc, iv p.t.began, .slice a_9 p.t.calls.length c_10, .slice a_12 p.t.ans.length c_13, .slice a_57 p.t.rd.length c_58, .slice a_61 p.t.wr.length c_62, .slice a_64 p.t.marks.length c_65, iv p.t.state]) (cs' := [iv p.t.id, iv p.t.age, iv p.t.proc, iv p.t.began, .slice a_9 p.t.calls.length c_10, .slice a_12 p.t.ans.length c_13, .slice a_57 p.t.rd.length c_58, .slice a_61 p.t.wr.length c_62, .slice a_64 p.t.marks.length c_65, iv p.t.state]) rfl rfl rfl rfl kS rfl rfl (lb rfl) rfl) ?_
  rintro _ _ rfl
  refine jD <| jB <| jJ <| jv (L' := [Res.rows (rdsX (⟨⟨a_9, c_10, a_12, c_13, a_57, c_58, a_61, c_62, a_64, c_65⟩, p.t⟩ : TX)), bk b_7 61 [iv p.t.id, iv p.t.age, iv p.t.proc, iv p.t.began, .slice a_9 p.t.calls.length c_10, .slice a_12 p.t.ans.length c_13, .slice a_57 p.t.rd.length c_58, .slice a_61 p.t.wr.length c_62, .slice a_64 p.t.marks.length c_65, iv p.t.state], bk b_6 61 [iv p.t.id, iv p.t.age, iv p.t.proc, iv p.t.began, .slice a_9 p.t.calls.length c_10, .slice a_12 p.t.ans.length c_13, .slice a_57 p.t.rd.length c_58, .slice a_61 p.t.wr.length c_62, .slice a_64 p.t.marks.length c_65, iv p.t.state]]) (fun w hw => hw.closeR (A := rdsX (⟨⟨a_9, c_10, a_12, c_13, a_57, c_58, a_61, c_62, a_64, c_65⟩, p.t⟩ : TX)) [4, 3, 1, 1, 0] rfl) <| jL (.inl rfl) rfl (kI (jg 1 (vs := [iv p.t.id, iv p.t.age, iv p.t.proc, iv p.t.began, .slice a_9 p.t.calls.length c_10, .slice a_12 p.t.ans.length c_13, .slice a_57 p.t.rd.length c_58, .slice a_61 p.t.wr.length c_62, .slice a_64 p.t.marks.length c_65, iv p.t.state]) rfl rfl kg kS rfl rfl) ⟨_, rfl⟩) (tS 1 _) ?_
  exact ⟨(⟨⟨a_9, c_10, a_12, c_13, a_57, c_58, a_61, c_62, a_64, c_65⟩, p.t⟩ : TX), rfl, rfl, rfl⟩

theorem Z_specl26Entry (p : EX) (hl : p.t.lim 1000000000) :
    Ct Tryz.prog 88 [.agg #[.int .i64 p.t.seq, .int .i64 p.t.kind, .int .i64 p.t.tx, .slice p.x.a0 p.t.steps.length p.x.c0, .slice p.x.a1 p.t.ans.length p.x.c1, .int .i64 p.t.began, .int .i64 p.t.ended, .bool p.t.laid]] [] (fun w => SeesA w (rdsE p)) (fun v A' => ∃ y : EX, y.t = p.t ∧ v = .agg #[.int .i64 y.t.seq, .int .i64 y.t.kind, .int .i64 y.t.tx, .slice y.x.a0 y.t.steps.length y.x.c0, .slice y.x.a1 y.t.ans.length y.x.c1, .int .i64 y.t.began, .int .i64 y.t.ended, .bool y.t.laid] ∧ A' = [.rows (rdsE y)]) := by
  obtain ⟨hb0, hb1⟩ := hl
  refine Ct.intro Tryz.func88 rfl Tryz.ntmps88 (lb rfl) fun w0 hpre => ?_
  obtain ⟨hs_1, hs_2⟩ := seesE hpre
  refine jC <| jE ?_
  refine jH rfl (jm (cs := [iv p.t.seq, iv p.t.kind, iv p.t.tx, .slice p.x.a0 p.t.steps.length p.x.c0, .slice p.x.a1 p.t.ans.length p.x.c1, iv p.t.began, iv p.t.ended, .bool p.t.laid]) rfl rfl) ?_
  rintro _ _ ⟨b_3, rfl, rfl⟩
  refine jH rfl (kB (z := .agg #[iv 0, iv 0, iv 0, .slice none 0 0, .slice none 0 0, iv 0, iv 0, .bool false]) (cs := [iv 0, iv 0, iv 0, .slice none 0 0, .slice none 0 0, iv 0, iv 0, .bool false]) Tryz.zeroValue129 rfl) ?_
  rintro _ _ ⟨b_4, rfl, rfl⟩
  refine jD <| jB <| jC <| jE ?_
  refine jH rfl (kK (ps := []) (cur := #[]) ko kt Tryz.zeroValue179 rfl (by kernel_rfl) (by decide) (by decide)) ?_
  rintro _ _ ⟨a_5, rfl, rfl⟩
  refine jA (jI fo129_3 rfl) <| jK (jR 2 (v := .slice p.x.a0 p.t.steps.length p.x.c0) rfl rfl Tryz.isAgg127 rfl) ?_
  refine jH rfl (kN 0 (q := p.t.steps.length) (news := p.t.steps.flatMap encP) (n' := p.t.steps.length) (cs' := p.t.steps.flatMap encP) rfl ko ko Tryz.typeInfo179 rfl (by' := 80) rfl rfl rfl rfl rfl (fun w hw => Src.sees (hw.seeOut_ hs_1 nM) (oneP _)) (by (try simp only [LE]); omega) (by (try simp only [LE]); omega) (by (try simp only [List.length_take, List.length_drop]); first | rfl | omega) rfl) ?_
  rintro _ _ ⟨a_6, c_7, rfl, rfl⟩
  refine jA (jI fo129_3 rfl) ?_
  refine jH rfl (jd 2 (vs := [.slice a_6 p.t.steps.length c_7]) (cs' := [iv p.t.seq, iv p.t.kind, iv p.t.tx, .slice a_6 p.t.steps.length c_7, .slice p.x.a1 p.t.ans.length p.x.c1, iv p.t.began, iv p.t.ended, .bool p.t.laid]) rfl rfl rfl rfl Tryz.sizeOf127 rfl rfl (lb rfl) rfl) ?_
  rintro _ _ rfl
  refine jD <| jB <| jC <| jE ?_
  refine jH rfl (kK (ps := []) (cur := #[]) km ku Tryz.zeroValue154 rfl (by kernel_rfl) (by decide) (by decide)) ?_
  rintro _ _ ⟨a_8, rfl, rfl⟩
  refine jA (jI fo129_4 rfl) <| jK (jR 3 (v := .slice p.x.a1 p.t.ans.length p.x.c1) rfl rfl gB rfl) ?_
  refine jH rfl (kN 0 (q := p.t.ans.length) (news := p.t.ans.flatMap encA) (n' := p.t.ans.length) (cs' := p.t.ans.flatMap encA) rfl km km Tryz.typeInfo154 rfl (by' := 32) rfl rfl rfl rfl rfl (fun w hw => Src.sees (hw.seeOut_ hs_2 nM) (oneA _)) (by (try simp only [LE]); omega) (by (try simp only [LE]); omega) (by (try simp only [List.length_take, List.length_drop]); first | rfl | omega) rfl) ?_
  rintro _ _ ⟨a_9, c_10, rfl, rfl⟩
  refine jA (jI fo129_4 rfl) ?_
  refine jH rfl (jd 3 (vs := [.slice a_9 p.t.ans.length c_10]) (cs' := [iv p.t.seq, iv p.t.kind, iv p.t.tx, .slice a_6 p.t.steps.length c_7, .slice a_9 p.t.ans.length c_10, iv p.t.began, iv p.t.ended, .bool p.t.laid]) rfl rfl rfl rfl Tryz.sizeOf58 rfl rfl (lb rfl) rfl) ?_
  rintro _ _ rfl
  refine jD <| jB <| jC <| jE <| jK (jg 3 (vs := [iv p.t.seq, iv p.t.kind, iv p.t.tx, .slice a_6 p.t.steps.length c_7, .slice a_9 p.t.ans.length c_10, iv p.t.began, iv p.t.ended, .bool p.t.laid]) rfl rfl Tryz.isAgg129 kf rfl rfl) ?_
  refine jH rfl (jd 2 (vs := [iv p.t.seq, iv p.t.kind, iv p.t.tx, .slice a_6 p.t.steps.length c_7, .slice a_9 p.t.ans.length c_10, iv p.t.began, iv p.t.ended, .bool p.t.laid]) (cs' := [iv p.t.seq, iv p.t.kind, iv p.t.tx, .slice a_6 p.t.steps.length c_7, .slice a_9 p.t.ans.length c_10, iv p.t.began, iv p.t.ended, .bool p.t.laid]) rfl rfl rfl rfl kf rfl rfl (lb rfl) rfl) ?_
  rintro _ _ rfl
  refine jD <| jB <| jJ <| jv (L' := [Res.rows (rdsE (⟨⟨a_6, c_7, a_9, c_10⟩, p.t⟩ : EX)), bk b_4 129 [iv p.t.seq, iv p.t.kind, iv p.t.tx, .slice a_6 p.t.steps.length c_7, .slice a_9 p.t.ans.length c_10, iv p.t.began, iv p.t.ended, .bool p.t.laid], bk b_3 129 [iv p.t.seq, iv p.t.kind, iv p.t.tx, .slice a_6 p.t.steps.length c_7, .slice a_9 p.t.ans.length c_10, iv p.t.began, iv p.t.ended, .bool p.t.laid]]) (fun w hw => hw.closeR (A := rdsE (⟨⟨a_6, c_7, a_9, c_10⟩, p.t⟩ : EX)) [1, 0] rfl) <| jL (.inl rfl) rfl (kI (jg 1 (vs := [iv p.t.seq, iv p.t.kind, iv p.t.tx, .slice a_6 p.t.steps.length c_7, .slice a_9 p.t.ans.length c_10, iv p.t.began, iv p.t.ended, .bool p.t.laid]) rfl rfl Tryz.isAgg129 kf rfl rfl) ⟨_, rfl⟩) (tS 1 _) ?_
  exact ⟨(⟨⟨a_6, c_7, a_9, c_10⟩, p.t⟩ : EX), rfl, rfl, rfl⟩

theorem Z_impltxsCopy (a : Option Addr) (c : Nat) (s : List TX) (hn : s.length ≤ 1000000000) (hl : ∀ q ∈ s, q.t.lim 1000000000) :
    Ct Tryz.prog 94 [.slice a s.length c] [] (fun w => SeesA w (rdsXS a c s)) (fun r A' => ∃ a' c' y, y.map TX.t = s.map TX.t ∧ r = .slice a' y.length c' ∧ A' = [.rows (rdsXS a' c' y)]) := by
  refine Ct.intro Tryz.func94 rfl Tryz.ntmps94 (lb rfl) fun w0 hpre => ?_
  have hs_1 : Sees w0 (.slice a s.length c) 10 s.length (s.flatMap encX) := (hpre).head
  have hi_2 : SeesA w0 (s.flatMap rdsX) := (hpre).tail
  refine jC <| jE <| jA (jG (v := .slice none 0 0) rfl) <| jD <| jB <| jC <| jE <| jA (jG (v := .slice none 0 0) rfl) <| jD <| jB ?_
  refine jC <| jC <| jE <| jA (jF (v := .slice a s.length c) rfl) <| jA (jf kU rfl) <| jA (jF (v := iv 0) rfl) <| jD <| jB <| jZ <| JC.nilRow 61 10 ?_
  refine kP (L' := [Res.rows (([] : List TX).flatMap rdsX), Res.row (.slice none 0 0) 61 10 0 (([] : List TX).flatMap encX)]) (fun w hw => hw.nilR (α := TX) (f := rdsX) [0] (B := [Res.row (.slice none 0 0) 61 10 0 (([] : List TX).flatMap encX)]) (F := []) rfl) <| jp (fun k_ e_ L_ => ∃ j : Nat, ∃ ya : Option Addr, ∃ yc : Nat, ∃ y : List TX, (j ≤ s.length) ∧ (y.map TX.t = (s.take j).map TX.t) ∧ (y.length = j) ∧ e_ 2 = .slice none 0 0 ∧ e_ 3 = .slice ya y.length yc ∧ e_ 6 = .slice a s.length c ∧ e_ 7 = nv s.length ∧ e_ 8 = nv j ∧ L_ = [Res.rows (y.flatMap rdsX), Res.row (.slice ya y.length yc) 61 10 y.length (y.flatMap encX)] ∧ k_ = s.length - j) _ ⟨0, none, 0, [], by omega, rfl, rfl, rfl, rfl, rfl, rfl, rfl, rfl, rfl⟩ ?_
  rintro _ e_3 _ ⟨j, ya, yc, y, hj, hd, hyl, he_4, he_5, he_6, he_7, he_8, rfl, rfl⟩
  refine jC <| jE <| jA (jc he_8 he_7) <| jD <| jB <| jC ?_
  by_cases h_9 : ((j : Nat) : Int) < ((s.length : Nat) : Int)
  · have hlt : j < s.length := by omega
    refine jS (cB (dT h_9)) <| jQ <| jB <| jC <| jZ <| jC <| jE ?_
    obtain ⟨hr_10, hr_10b, -⟩ := sees_some hs_1 (by omega)
    refine jA (jX (i := j) kU kS hr_10 hr_10b he_6 he_8 (by omega)) ?_
    have hi_11 := SeesA.elem hi_2 x0 (show j < s.length by omega)
    obtain ⟨hs_12, hs_13, hs_14, hs_15, hs_16⟩ := seesX hi_11
    refine jK (kF (vs := [iv ((s.getD j x0).t.id), iv ((s.getD j x0).t.age), iv ((s.getD j x0).t.proc), iv ((s.getD j x0).t.began), .slice ((s.getD j x0).x.a0) ((s.getD j x0).t.calls.length) ((s.getD j x0).x.c0), .slice ((s.getD j x0).x.a1) ((s.getD j x0).t.ans.length) ((s.getD j x0).x.c1), .slice ((s.getD j x0).x.a2) ((s.getD j x0).t.rd.length) ((s.getD j x0).x.c2), .slice ((s.getD j x0).x.a3) ((s.getD j x0).t.wr.length) ((s.getD j x0).x.c3), .slice ((s.getD j x0).x.a4) ((s.getD j x0).t.marks.length) ((s.getD j x0).x.c4), iv ((s.getD j x0).t.state)]) hs_1 nM rfl kg kS (flat_take encX_len x0 s j (by omega)) rfl (by decide)) ?_
    refine jH rfl (kB (z := .agg #[iv 0, iv 0, iv 0, iv 0, .slice none 0 0, .slice none 0 0, .slice none 0 0, .slice none 0 0, .slice none 0 0, iv 0]) (cs := [iv 0, iv 0, iv 0, iv 0, .slice none 0 0, .slice none 0 0, .slice none 0 0, .slice none 0 0, .slice none 0 0, iv 0]) gC rfl) ?_
    rintro _ _ ⟨b_17, rfl, rfl⟩
    refine jH rfl (jd 0 (vs := [iv ((s.getD j x0).t.id), iv ((s.getD j x0).t.age), iv ((s.getD j x0).t.proc), iv ((s.getD j x0).t.began), .slice ((s.getD j x0).x.a0) ((s.getD j x0).t.calls.length) ((s.getD j x0).x.c0), .slice ((s.getD j x0).x.a1) ((s.getD j x0).t.ans.length) ((s.getD j x0).x.c1), .slice ((s.getD j x0).x.a2) ((s.getD j x0).t.rd.length) ((s.getD j x0).x.c2), .slice ((s.getD j x0).x.a3) ((s.getD j x0).t.wr.length) ((s.getD j x0).x.c3), .slice ((s.getD j x0).x.a4) ((s.getD j x0).t.marks.length) ((s.getD j x0).x.c4), iv ((s.getD j x0).t.state)]) (cs' := [iv ((s.getD j x0).t.id), iv ((s.getD j x0).t.age), iv ((s.getD j x0).t.proc), iv ((s.getD j x0).t.began), .slice ((s.getD j x0).x.a0) ((s.getD j x0).t.calls.length) ((s.getD j x0).x.c0), .slice ((s.getD j x0).x.a1) ((s.getD j x0).t.ans.length) ((s.getD j x0).x.c1), .slice ((s.getD j x0).x.a2) ((s.getD j x0).t.rd.length) ((s.getD j x0).x.c2), .slice ((s.getD j x0).x.a3) ((s.getD j x0).t.wr.length) ((s.getD j x0).x.c3), .slice ((s.getD j x0).x.a4) ((s.getD j x0).t.marks.length) ((s.getD j x0).x.c4), iv ((s.getD j x0).t.state)]) rfl rfl rfl rfl kS rfl rfl (lb rfl) rfl) ?_
    rintro _ _ rfl
    refine jD <| jB <| jE <| jA (jF (v := .slice ya y.length yc) he_5) <| jK (jg 0 (vs := [iv ((s.getD j x0).t.id), iv ((s.getD j x0).t.age), iv ((s.getD j x0).t.proc), iv ((s.getD j x0).t.began), .slice ((s.getD j x0).x.a0) ((s.getD j x0).t.calls.length) ((s.getD j x0).x.c0), .slice ((s.getD j x0).x.a1) ((s.getD j x0).t.ans.length) ((s.getD j x0).x.c1), .slice ((s.getD j x0).x.a2) ((s.getD j x0).t.rd.length) ((s.getD j x0).x.c2), .slice ((s.getD j x0).x.a3) ((s.getD j x0).t.wr.length) ((s.getD j x0).x.c3), .slice ((s.getD j x0).x.a4) ((s.getD j x0).t.marks.length) ((s.getD j x0).x.c4), iv ((s.getD j x0).t.state)]) rfl rfl kg kS rfl rfl) ?_
    refine jH rfl (jU [] Tryz.call65 rfl (Z_implTxclone (s.getD j x0) (hl _ (getD_mem (show j < s.length by omega)))) rfl (fun w hw => hw.seeOutA hi_11 nMA)) ?_
    rintro _ _ ⟨_, ⟨y_18, hy_19, rfl, rfl⟩, rfl⟩
    refine jH rfl (kK (ps := [(0, .agg #[iv y_18.t.id, iv y_18.t.age, iv y_18.t.proc, iv y_18.t.began, .slice y_18.x.a0 y_18.t.calls.length y_18.x.c0, .slice y_18.x.a1 y_18.t.ans.length y_18.x.c1, .slice y_18.x.a2 y_18.t.rd.length y_18.x.c2, .slice y_18.x.a3 y_18.t.wr.length y_18.x.c3, .slice y_18.x.a4 y_18.t.marks.length y_18.x.c4, iv y_18.t.state])]) (cur := #[iv y_18.t.id, iv y_18.t.age, iv y_18.t.proc, iv y_18.t.began, .slice y_18.x.a0 y_18.t.calls.length y_18.x.c0, .slice y_18.x.a1 y_18.t.ans.length y_18.x.c1, .slice y_18.x.a2 y_18.t.rd.length y_18.x.c2, .slice y_18.x.a3 y_18.t.wr.length y_18.x.c3, .slice y_18.x.a4 y_18.t.marks.length y_18.x.c4, iv y_18.t.state]) kU kS gC rfl (by kernel_rfl) (by decide) (by decide)) ?_
    rintro _ _ ⟨a_20, rfl, rfl⟩
    refine jH rfl (kN 4 (q := 1) (news := ([y_18] : List TX).flatMap encX) (n' := (y ++ ([y_18] : List TX)).length) (cs' := (y ++ ([y_18] : List TX)).flatMap encX) rfl kU kU Tryz.typeInfo61 rfl (by' := 160) rfl rfl rfl rfl rfl (fun w hw => Src.sees (hw.see (i := 0) rfl) (oneX _)) (by (try simp only [LE]); omega) (by (try simp only [LE]); omega) (by simp only [List.length_append, List.length_take, List.length_drop, List.length_cons, List.length_nil] <;> first | rfl | omega) (by simp only [List.flatMap_append])) ?_
    rintro _ _ ⟨a_21, c_22, rfl, rfl⟩
    refine jA (jG (v := .slice a_21 ((y ++ ([y_18] : List TX)).length) c_22) rfl) <| jD <| jk <| jB <| jE <| jA (ja (c := ((j + 1 : Nat) : Int)) he_8 rfl (wr (by omega))) <| jA (jF (v := iv ((j + 1 : Nat) : Int)) rfl) <| jD <| jv (L' := [Res.rows ((y ++ [y_18]).flatMap rdsX), Res.row (.slice a_20 1 1) 61 10 1 (([y_18] : List TX).flatMap encX), bk b_17 61 [iv ((s.getD j x0).t.id), iv ((s.getD j x0).t.age), iv ((s.getD j x0).t.proc), iv ((s.getD j x0).t.began), .slice ((s.getD j x0).x.a0) ((s.getD j x0).t.calls.length) ((s.getD j x0).x.c0), .slice ((s.getD j x0).x.a1) ((s.getD j x0).t.ans.length) ((s.getD j x0).x.c1), .slice ((s.getD j x0).x.a2) ((s.getD j x0).t.rd.length) ((s.getD j x0).x.c2), .slice ((s.getD j x0).x.a3) ((s.getD j x0).t.wr.length) ((s.getD j x0).x.c3), .slice ((s.getD j x0).x.a4) ((s.getD j x0).t.marks.length) ((s.getD j x0).x.c4), iv ((s.getD j x0).t.state)], Res.row (.slice a_21 ((y ++ ([y_18] : List TX)).length) c_22) 61 10 ((y ++ ([y_18] : List TX)).length) ((y ++ ([y_18] : List TX)).flatMap encX)]) (fun w hw => hw.addR [3, 1] rfl flatMap_snoc) <| kL [0, 2] (A := [Res.rows ((y ++ [y_18]).flatMap rdsX), Res.row (.slice a_21 ((y ++ ([y_18] : List TX)).length) c_22) 61 10 ((y ++ [y_18]).length) ((y ++ [y_18]).flatMap encX)]) rfl ?_
    refine jl (s.length - (j + 1)) (by omega) ⟨j + 1, a_21, c_22, (y ++ [y_18]), by omega, (map_take_succ x0 hd hlt hy_19), (by rw [List.length_append, hyl]; rfl), he_4, rfl, he_6, he_7, rfl, rfl, rfl⟩
  refine jP (cB (dF h_9)) <| jn <| jb <| jb <| jo <| jB <| jC <| jE <| jA (jF (v := .slice ya y.length yc) he_5) <| jA (jG (v := .slice ya y.length yc) rfl) ?_
  refine jD <| jB <| jJ <| jv (L' := [Res.rows (rdsXS ya yc y)]) (fun w hw => hw.consR (r := ⟨.slice ya y.length yc, 61, 10, y.length, y.flatMap encX⟩) (A := y.flatMap rdsX) [1, 0] rfl) <| jL (.inl rfl) rfl (jM (v := .slice ya y.length yc) rfl) (List.Sublist.refl _) ?_
  exact ⟨_, _, y, map_all hd (by omega), rfl, rfl⟩

theorem Z_specl19Copy (a : Option Addr) (c : Nat) (s : List TX) (hn : s.length ≤ 1000000000) (hl : ∀ q ∈ s, q.t.lim 1000000000) :
    Ct Tryz.prog 86 [.slice a s.length c] [] (fun w => SeesA w (rdsXS a c s)) (fun r A' => ∃ a' c' y, y.map TX.t = s.map TX.t ∧ r = .slice a' y.length c' ∧ A' = [.rows (rdsXS a' c' y)]) := by
  refine Ct.intro Tryz.func86 rfl Tryz.ntmps86 (lb rfl) fun w0 hpre => ?_
  have hs_1 : Sees w0 (.slice a s.length c) 10 s.length (s.flatMap encX) := (hpre).head
  have hi_2 : SeesA w0 (s.flatMap rdsX) := (hpre).tail
  refine jC <| jE <| jA (jG (v := .slice none 0 0) rfl) <| jD <| jB <| jC <| jE ?_
  refine jH rfl (kK (ps := []) (cur := #[]) kU kS gC rfl (by kernel_rfl) (by decide) (by decide)) ?_
  rintro _ _ ⟨a_3, rfl, rfl⟩
  refine jA (jG (v := .slice a_3 0 0) rfl) <| jD <| jB <| jC <| jC <| jE <| jA (jG (v := iv 0) rfl) <| jD <| jB <| jZ ?_
  refine kP (L' := [Res.rows (([] : List TX).flatMap rdsX), Res.row (.slice a_3 0 0) 61 10 0 (([] : List TX).flatMap encX)]) (fun w hw => hw.nilR (α := TX) (f := rdsX) [0] (B := [Res.row (.slice a_3 0 0) 61 10 0 (([] : List TX).flatMap encX)]) (F := []) rfl) <| jp (fun k_ e_ L_ => ∃ j : Nat, ∃ ya : Option Addr, ∃ yc : Nat, ∃ y : List TX, (j ≤ s.length) ∧ (y.map TX.t = (s.take j).map TX.t) ∧ (y.length = j) ∧ e_ 0 = .slice a s.length c ∧ e_ 2 = .slice none 0 0 ∧ e_ 3 = .slice ya y.length yc ∧ e_ 4 = nv j ∧ L_ = [Res.rows (y.flatMap rdsX), Res.row (.slice ya y.length yc) 61 10 y.length (y.flatMap encX)] ∧ k_ = s.length - j) _ ⟨0, a_3, 0, [], by omega, rfl, rfl, rfl, rfl, rfl, rfl, rfl, rfl⟩ ?_
  rintro _ e_4 _ ⟨j, ya, yc, y, hj, hd, hyl, he_5, he_6, he_7, he_8, rfl, rfl⟩
  refine jC <| jC <| jE <| jA (jF (v := nv j) he_8) <| jA (jF (v := .slice a s.length c) he_5) <| jA (jf kU rfl) <| jA (jc rfl rfl) <| jD <| jB ?_
  by_cases h_9 : ((j : Nat) : Int) < ((s.length : Nat) : Int)
  · have hlt : j < s.length := by omega
    refine jS (cB (dT h_9)) <| jQ <| jB <| jC <| jZ <| jE <| jA (jF (v := .slice ya y.length yc) he_7) <| jA (jF (v := .slice a s.length c) he_5) <| jA (jF (v := nv j) he_8) ?_
    obtain ⟨hr_10, hr_10b, -⟩ := sees_some hs_1 (by omega)
    refine jA (jX (i := j) kU kS hr_10 hr_10b rfl rfl (by omega)) ?_
    have hi_11 := SeesA.elem hi_2 x0 (show j < s.length by omega)
    obtain ⟨hs_12, hs_13, hs_14, hs_15, hs_16⟩ := seesX hi_11
    refine jK (kF (vs := [iv ((s.getD j x0).t.id), iv ((s.getD j x0).t.age), iv ((s.getD j x0).t.proc), iv ((s.getD j x0).t.began), .slice ((s.getD j x0).x.a0) ((s.getD j x0).t.calls.length) ((s.getD j x0).x.c0), .slice ((s.getD j x0).x.a1) ((s.getD j x0).t.ans.length) ((s.getD j x0).x.c1), .slice ((s.getD j x0).x.a2) ((s.getD j x0).t.rd.length) ((s.getD j x0).x.c2), .slice ((s.getD j x0).x.a3) ((s.getD j x0).t.wr.length) ((s.getD j x0).x.c3), .slice ((s.getD j x0).x.a4) ((s.getD j x0).t.marks.length) ((s.getD j x0).x.c4), iv ((s.getD j x0).t.state)]) hs_1 nM rfl kg kS (flat_take encX_len x0 s j (by omega)) rfl (by decide)) ?_
    refine jH rfl (jU [] Tryz.call59 rfl (Z_specl17Copy (s.getD j x0) (hl _ (getD_mem (show j < s.length by omega)))) rfl (fun w hw => hw.seeOutA hi_11 nMA)) ?_
    rintro _ _ ⟨_, ⟨y_17, hy_18, rfl, rfl⟩, rfl⟩
    refine jH rfl (kK (ps := [(0, .agg #[iv y_17.t.id, iv y_17.t.age, iv y_17.t.proc, iv y_17.t.began, .slice y_17.x.a0 y_17.t.calls.length y_17.x.c0, .slice y_17.x.a1 y_17.t.ans.length y_17.x.c1, .slice y_17.x.a2 y_17.t.rd.length y_17.x.c2, .slice y_17.x.a3 y_17.t.wr.length y_17.x.c3, .slice y_17.x.a4 y_17.t.marks.length y_17.x.c4, iv y_17.t.state])]) (cur := #[iv y_17.t.id, iv y_17.t.age, iv y_17.t.proc, iv y_17.t.began, .slice y_17.x.a0 y_17.t.calls.length y_17.x.c0, .slice y_17.x.a1 y_17.t.ans.length y_17.x.c1, .slice y_17.x.a2 y_17.t.rd.length y_17.x.c2, .slice y_17.x.a3 y_17.t.wr.length y_17.x.c3, .slice y_17.x.a4 y_17.t.marks.length y_17.x.c4, iv y_17.t.state]) kU kS gC rfl (by kernel_rfl) (by decide) (by decide)) ?_
    rintro _ _ ⟨a_19, rfl, rfl⟩
    refine jH rfl (kN 3 (q := 1) (news := ([y_17] : List TX).flatMap encX) (n' := (y ++ ([y_17] : List TX)).length) (cs' := (y ++ ([y_17] : List TX)).flatMap encX) rfl kU kU Tryz.typeInfo61 rfl (by' := 160) rfl rfl rfl rfl rfl (fun w hw => Src.sees (hw.see (i := 0) rfl) (oneX _)) (by (try simp only [LE]); omega) (by (try simp only [LE]); omega) (by simp only [List.length_append, List.length_take, List.length_drop, List.length_cons, List.length_nil] <;> first | rfl | omega) (by simp only [List.flatMap_append])) ?_
    rintro _ _ ⟨a_20, c_21, rfl, rfl⟩
    refine jA (jG (v := .slice a_20 ((y ++ ([y_17] : List TX)).length) c_21) rfl) <| jD <| jk <| jB <| jE <| jA (jF (v := nv j) he_8) <| jA (ja (c := ((j + 1 : Nat) : Int)) rfl rfl (wr (by omega))) <| jA (jG (v := iv ((j + 1 : Nat) : Int)) rfl) <| jD <| jv (L' := [Res.rows ((y ++ [y_17]).flatMap rdsX), Res.row (.slice a_19 1 1) 61 10 1 (([y_17] : List TX).flatMap encX), Res.row (.slice a_20 ((y ++ ([y_17] : List TX)).length) c_21) 61 10 ((y ++ ([y_17] : List TX)).length) ((y ++ ([y_17] : List TX)).flatMap encX)]) (fun w hw => hw.addR [2, 1] rfl flatMap_snoc) ?_
    refine kL [0, 1] (A := [Res.rows ((y ++ [y_17]).flatMap rdsX), Res.row (.slice a_20 ((y ++ ([y_17] : List TX)).length) c_21) 61 10 ((y ++ [y_17]).length) ((y ++ [y_17]).flatMap encX)]) rfl ?_
    refine jl (s.length - (j + 1)) (by omega) ⟨j + 1, a_20, c_21, (y ++ [y_17]), by omega, (map_take_succ x0 hd hlt hy_18), (by rw [List.length_append, hyl]; rfl), he_5, he_6, rfl, rfl, rfl, rfl⟩
  refine jP (cB (dF h_9)) <| jn <| jb <| jb <| jo <| jB <| jC <| jE <| jA (jF (v := .slice ya y.length yc) he_7) <| jA (jG (v := .slice ya y.length yc) rfl) ?_
  refine jD <| jB <| jJ <| jv (L' := [Res.rows (rdsXS ya yc y)]) (fun w hw => hw.consR (r := ⟨.slice ya y.length yc, 61, 10, y.length, y.flatMap encX⟩) (A := y.flatMap rdsX) [1, 0] rfl) <| jL (.inl rfl) rfl (jM (v := .slice ya y.length yc) rfl) (List.Sublist.refl _) ?_
  exact ⟨_, _, y, map_all hd (by omega), rfl, rfl⟩

set_option maxRecDepth 4000 in
set_option maxHeartbeats 1000000 in
theorem Z_entriesCopy (a : Option Addr) (c : Nat) (s : List EX) (hn : s.length ≤ 1000000000) (hl : ∀ q ∈ s, q.t.lim 1000000000) :
    Ct Tryz.prog 97 [.slice a s.length c] [] (fun w => SeesA w (rdsES a c s)) (fun r A' => ∃ a' c' y, y.map EX.t = s.map EX.t ∧ r = .slice a' y.length c' ∧ A' = [.rows (rdsES a' c' y)]) := by
  refine Ct.intro Tryz.func97 rfl Tryz.ntmps97 (lb rfl) fun w0 hpre => ?_
  have hs_1 : Sees w0 (.slice a s.length c) 8 s.length (s.flatMap encE) := (hpre).head
  have hi_2 : SeesA w0 (s.flatMap rdsE) := (hpre).tail
  refine jC <| jE <| jA (jG (v := .slice none 0 0) rfl) <| jD <| jB <| jC <| jE <| jA (jF (v := .slice a s.length c) rfl) ?_
  refine jH rfl (jU [] Tryz.call141 rfl (Z_cloneE a c s (by omega)) rfl (fun w hw => hw.seeOut_ hs_1 nM)) ?_
  rintro _ _ ⟨_, ⟨a_3, c_4, rfl, rfl⟩, rfl⟩
  refine jA (jG (v := .slice a_3 s.length c_4) rfl) <| jD <| jB <| jC <| jC <| jE <| jA (jF (v := .slice a_3 s.length c_4) rfl) <| jA (jf kc rfl) <| jA (jF (v := iv 0) rfl) <| jD ?_
  refine jB <| jZ <| kP (L' := [Res.rows (([] : List EX).flatMap rdsE), Res.row (.slice a_3 s.length c_4) 129 8 s.length (s.flatMap encE)]) (fun w hw => hw.nilR (α := EX) (f := rdsE) [0] (B := [Res.row (.slice a_3 s.length c_4) 129 8 s.length (s.flatMap encE)]) (F := []) rfl) <| jp (fun k_ e_ L_ => ∃ j : Nat, ∃ y : List EX, (j ≤ s.length) ∧ (y.map EX.t = (s.take j).map EX.t) ∧ (y.length = j) ∧ e_ 2 = .slice none 0 0 ∧ e_ 3 = .slice a_3 s.length c_4 ∧ e_ 8 = nv s.length ∧ e_ 9 = nv j ∧ L_ = [Res.rows (y.flatMap rdsE), Res.row (.slice a_3 s.length c_4) 129 8 s.length ((y ++ s.drop j).flatMap encE)] ∧ k_ = s.length - j) _ ⟨0, [], by omega, rfl, rfl, rfl, rfl, rfl, rfl, rfl, rfl⟩ ?_
  rintro _ e_5 _ ⟨j, y, hj, hd, hyl, he_6, he_7, he_8, he_9, rfl, rfl⟩
  refine jC <| jE <| jA (jc he_9 he_8) <| jD <| jB <| jC ?_
  by_cases h_10 : ((j : Nat) : Int) < ((s.length : Nat) : Int)
  · have hlt : j < s.length := by omega
    refine kP (L' := [Res.row (.slice a_3 s.length c_4) 129 8 s.length (mid encE y [iv ((s.getD j e0).t.seq), iv ((s.getD j e0).t.kind), iv ((s.getD j e0).t.tx), .slice ((s.getD j e0).x.a0) ((s.getD j e0).t.steps.length) ((s.getD j e0).x.c0), .slice ((s.getD j e0).x.a1) ((s.getD j e0).t.ans.length) ((s.getD j e0).x.c1), iv ((s.getD j e0).t.began), iv ((s.getD j e0).t.ended), .bool ((s.getD j e0).t.laid)] (s.drop (j + 1))), Res.rows (y.flatMap rdsE)]) (fun w hw => hw.midR 1 rfl e0 hlt) ?_
    have hi_11 := SeesA.elem hi_2 e0 hlt
    obtain ⟨hs_12, hs_13⟩ := seesE hi_11
    obtain ⟨hb_14, hb_15⟩ : (s.getD j e0).t.lim 1000000000 := (hl _ (getD_mem (show j < s.length by omega)))
    refine jS (cB (dT h_10)) <| jQ <| jB <| jC <| jZ <| jC <| jE <| jA (jF (v := nv j) he_9) <| jA (jG (v := nv j) rfl) <| jD ?_
    refine jB <| kG [Res.row (.slice a_3 s.length c_4) 129 8 s.length (mid encE y [iv ((s.getD j e0).t.seq), iv ((s.getD j e0).t.kind), iv ((s.getD j e0).t.tx), .slice ((s.getD j e0).x.a0) ((s.getD j e0).t.steps.length) ((s.getD j e0).x.c0), .slice ((s.getD j e0).x.a1) ((s.getD j e0).t.ans.length) ((s.getD j e0).x.c1), iv ((s.getD j e0).t.began), iv ((s.getD j e0).t.ended), .bool ((s.getD j e0).t.laid)] (s.drop (j + 1))), Res.rows (y.flatMap rdsE)] 16 mixed (by simp) <| jT 0 rfl (jF (v := .slice a_3 s.length c_4) he_7) <| jT 1 rfl (jF (v := nv j) rfl) <| jT 2 rfl (jF (v := .slice a_3 s.length c_4) he_7) <| jT 3 rfl (jF (v := nv j) rfl) <| jT 4 rfl (jF (v := .slice a_3 s.length c_4) he_7) <| jT 5 rfl (jF (v := nv j) rfl) ?_
    refine JA.facts fun hst => ?_
    obtain ⟨hr_16, hr_16b, -⟩ := row_some 0 rfl (by omega) hst
    refine jT 6 rfl (jX (i := j) kc kf hr_16 hr_16b rfl rfl (by omega)) <| jT 7 rfl (ji fo129_3 hr_16 rfl) <| jw 8 rfl (LO.loadR1 0 (v := .slice ((s.getD j e0).x.a0) ((s.getD j e0).t.steps.length) ((s.getD j e0).x.c0)) rfl rfl Tryz.isAgg127 (mid_at encE_len rfl hyl 3 (by decide))) <| jT 10 rfl (jF (v := .slice a_3 s.length c_4) he_7) <| jT 11 rfl (jF (v := nv j) rfl) <| jT 12 rfl (jX (i := j) kc kf hr_16 hr_16b rfl rfl (by omega)) <| jT 13 rfl (ji fo129_4 hr_16 rfl) <| jw 14 rfl (LO.loadR1 0 (v := .slice ((s.getD j e0).x.a1) ((s.getD j e0).t.ans.length) ((s.getD j e0).x.c1)) rfl rfl gB (mid_at encE_len rfl hyl 4 (by decide))) <| jq (i := 9) ?_
    refine kA rfl rfl (jU [] Tryz.call142 rfl (Z_cloneP (s.getD j e0).x.a0 ((s.getD j e0).x.c0) ((s.getD j e0).t.steps) (by omega)) rfl (fun w hw => hw.seeOut_ hs_12 nM)) ?_
    rintro _ _ ⟨_, ⟨a_29, c_30, rfl, rfl⟩, rfl⟩
    refine ⟨by simp, ?_⟩
    refine jq (i := 15) ?_
    refine kA rfl rfl (jU [] Tryz.call117 rfl (Z_cloneA (s.getD j e0).x.a1 ((s.getD j e0).x.c1) ((s.getD j e0).t.ans) (by omega)) rfl (fun w hw => hw.seeOut_ hs_13 nM)) ?_
    rintro _ _ ⟨_, ⟨a_33, c_34, rfl, rfl⟩, rfl⟩
    refine ⟨by simp, ?_⟩
    refine jT 16 rfl (jX (i := j) kc kf hr_16 hr_16b rfl rfl (by omega)) <| jT 17 rfl (ji fo129_3 hr_16 rfl) <| jq (i := 18) ?_
    refine JX.lt rfl (kD 2 (vs := [.slice a_29 (((s.getD j e0).t.steps).length) c_30]) (cs' := mid encE y [iv ((s.getD j e0).t.seq), iv ((s.getD j e0).t.kind), iv ((s.getD j e0).t.tx), .slice a_29 (((s.getD j e0).t.steps).length) c_30, .slice ((s.getD j e0).x.a1) ((s.getD j e0).t.ans.length) ((s.getD j e0).x.c1), iv ((s.getD j e0).t.began), iv ((s.getD j e0).t.ended), .bool ((s.getD j e0).t.laid)] (s.drop (j + 1))) rfl rfl rfl rfl Tryz.sizeOf127 rfl rfl (by decide) (mid_fit encE_len rfl hyl (f := 3) (lb rfl)) (mid_set encE_len rfl hyl 3 [.slice a_29 (((s.getD j e0).t.steps).length) c_30] (lb rfl))) ?_
    rintro _ _ rfl
    refine jT 19 rfl (jX (i := j) kc kf hr_16 hr_16b rfl rfl (by omega)) <| jT 20 rfl (ji fo129_4 hr_16 rfl) <| jq (i := 21) ?_
    refine JX.ls rfl (kD 2 (vs := [.slice a_33 (((s.getD j e0).t.ans).length) c_34]) (cs' := mid encE y [iv ((s.getD j e0).t.seq), iv ((s.getD j e0).t.kind), iv ((s.getD j e0).t.tx), .slice a_29 (((s.getD j e0).t.steps).length) c_30, .slice a_33 (((s.getD j e0).t.ans).length) c_34, iv ((s.getD j e0).t.began), iv ((s.getD j e0).t.ended), .bool ((s.getD j e0).t.laid)] (s.drop (j + 1))) rfl rfl rfl rfl Tryz.sizeOf58 rfl rfl (by decide) (mid_fit encE_len rfl hyl (f := 4) (lb rfl)) (mid_set encE_len rfl hyl 4 [.slice a_33 (((s.getD j e0).t.ans).length) c_34] (lb rfl))) ?_
    rintro _ _ rfl
    refine jk <| jB <| jE <| jA (ja (c := ((j + 1 : Nat) : Int)) he_9 rfl (wr (by omega))) <| jA (jF (v := iv ((j + 1 : Nat) : Int)) rfl) <| jD <| jv (L' := [Res.rows (rdsE (⟨⟨a_29, c_30, a_33, c_34⟩, (s.getD j e0).t⟩ : EX)), Res.row (.slice a_3 s.length c_4) 129 8 s.length (mid encE y [iv ((s.getD j e0).t.seq), iv ((s.getD j e0).t.kind), iv ((s.getD j e0).t.tx), .slice a_29 (((s.getD j e0).t.steps).length) c_30, .slice a_33 (((s.getD j e0).t.ans).length) c_34, iv ((s.getD j e0).t.began), iv ((s.getD j e0).t.ended), .bool ((s.getD j e0).t.laid)] (s.drop (j + 1))), Res.rows (y.flatMap rdsE)]) (fun w hw => hw.closeR (A := rdsE (⟨⟨a_29, c_30, a_33, c_34⟩, (s.getD j e0).t⟩ : EX)) [1, 0] rfl) <| jv (L' := [Res.rows ((y ++ [(⟨⟨a_29, c_30, a_33, c_34⟩, (s.getD j e0).t⟩ : EX)]).flatMap rdsE), Res.row (.slice a_3 s.length c_4) 129 8 s.length (((y ++ [(⟨⟨a_29, c_30, a_33, c_34⟩, (s.getD j e0).t⟩ : EX)]) ++ s.drop (j + 1)).flatMap encE)]) (fun w hw => St.addR [2, 1] rfl flatMap_snoc (hw.unmid 1 rfl (q := (⟨⟨a_29, c_30, a_33, c_34⟩, (s.getD j e0).t⟩ : EX)) rfl)) <| kL [0, 0] (A := [Res.rows ((y ++ [(⟨⟨a_29, c_30, a_33, c_34⟩, (s.getD j e0).t⟩ : EX)]).flatMap rdsE), Res.row (.slice a_3 s.length c_4) 129 8 s.length (((y ++ [(⟨⟨a_29, c_30, a_33, c_34⟩, (s.getD j e0).t⟩ : EX)]) ++ s.drop (j + 1)).flatMap encE)]) rfl ?_
    refine jl (s.length - (j + 1)) (by omega) ⟨j + 1, (y ++ [(⟨⟨a_29, c_30, a_33, c_34⟩, (s.getD j e0).t⟩ : EX)]), by omega, (map_take_succ e0 hd hlt rfl), (by rw [List.length_append, hyl]; rfl), he_6, he_7, he_8, rfl, rfl, rfl⟩
  refine jP (cB (dF h_10)) <| jn <| jb <| jb <| jo <| jB <| jC <| jE <| jA (jF (v := .slice a_3 s.length c_4) he_7) <| jA (jG (v := .slice a_3 s.length c_4) rfl) ?_
  refine jD <| jB <| jJ ?_
  have hsl : s.length = y.length := by omega
  refine jv (L' := [Res.rows (y.flatMap rdsE), Res.row (.slice a_3 y.length c_4) 129 8 y.length (y.flatMap encE)]) (fun w hw => hw.eqL (by rw [List.drop_of_length_le (by omega), List.append_nil, hsl] <;> rfl)) <| jv (L' := [Res.rows (rdsES a_3 c_4 y)]) (fun w hw => hw.consR (r := ⟨.slice a_3 y.length c_4, 129, 8, y.length, y.flatMap encE⟩) (A := y.flatMap rdsE) [1, 0] rfl) <| jL (.inl rfl) rfl (jM (v := .slice a_3 s.length c_4) rfl) (List.Sublist.refl _) ?_
  exact ⟨_, _, y, map_all hd (by omega), by rw [hsl], rfl⟩

set_option maxRecDepth 4000 in
set_option maxHeartbeats 1000000 in
theorem Z_implDiskclone (d : DX) (hl : d.dat.lim 1000000000) :
    Ct Tryz.prog 95 [.agg #[.slice d.a d.l.length d.c, str d.jt, .int .i64 d.js]] [] (fun w => SeesA w (rdsD d)) (fun v A' => ∃ y : DX, y.dat = d.dat ∧ v = .agg #[.slice y.a y.l.length y.c, str y.jt, .int .i64 y.js] ∧ A' = [.rows (rdsD y)]) := by
  refine Ct.intro Tryz.func95 rfl Tryz.ntmps95 (lb rfl) fun w0 hpre => ?_
  have hs_1 : Sees w0 (.slice d.a d.l.length d.c) 3 d.l.length (d.l.flatMap encO) := (hpre).head
  have hi_2 : SeesA w0 (d.l.flatMap rdsO) := (hpre).tail
  have hlm : d.l.length ≤ 1000000000 ∧ ∀ q ∈ d.l, q.t.lim 1000000000 := ⟨by have := hl.l0; simpa only [DX.dat, List.length_map] using this, fun q hq => hl.l1 _ (List.mem_map_of_mem hq)⟩
  have hlm0 := hlm.1
  refine jC <| jE ?_
  refine jH rfl (jm (cs := [.slice d.a d.l.length d.c, str d.jt, iv d.js]) rfl rfl) ?_
  rintro _ _ ⟨b_3, rfl, rfl⟩
  refine jH rfl (kB (z := .agg #[.slice none 0 0, str [], iv 0]) (cs := [.slice none 0 0, str [], iv 0]) Tryz.zeroValue39 rfl) ?_
  rintro _ _ ⟨b_4, rfl, rfl⟩
  refine jD <| jB <| jC <| kG [bk b_4 39 [.slice none 0 0, str [], iv 0], bk b_3 39 [.slice d.a d.l.length d.c, str d.jt, iv d.js]] 7 mixed (by simp) <| jT 0 rfl (jI fo39_0 rfl) <| jw 1 rfl (jR 1 (v := .slice d.a d.l.length d.c) rfl rfl ks rfl) <| jT 3 rfl (jI fo39_1 rfl) <| jw 4 rfl (jg 1 (vs := [str d.jt, iv d.js]) rfl rfl Tryz.isAgg37 Tryz.sizeOf37 rfl rfl) ?_
  refine JA.two (i := 2) (j := 6) (by kernel_rfl) ?_ ?_
  · refine kA rfl rfl (jU [] Tryz.call140 rfl (Z_cloneO d.a d.c d.l (by omega)) rfl (fun w hw => hw.seeOut_ hs_1 nM)) ?_
    rintro _ _ ⟨_, ⟨a_12, c_13, rfl, rfl⟩, rfl⟩
    refine ⟨by simp, ?_⟩
    refine jT 5 rfl (PO.build (ps := [(0, .slice a_12 d.l.length c_13), (1, .agg #[str d.jt, iv d.js])]) (cs := [.slice a_12 d.l.length c_13, str d.jt, iv d.js]) rfl (by kernel_rfl)) <| jq (i := 6) ?_
    refine kA rfl rfl (kB (z := .agg #[.slice none 0 0, str [], iv 0]) (cs := [.slice none 0 0, str [], iv 0]) Tryz.zeroValue39 rfl) ?_
    rintro _ _ ⟨b_15, rfl, rfl⟩
    refine ⟨by simp, ?_⟩
    refine jq (i := 7) ?_
    refine JX.ls rfl (jd 0 (vs := [.slice a_12 d.l.length c_13, str d.jt, iv d.js]) (cs' := [.slice a_12 d.l.length c_13, str d.jt, iv d.js]) rfl rfl rfl rfl kq rfl rfl (lb rfl) rfl) ?_
    rintro _ _ rfl
    refine jB <| jC <| jC <| jE <| jA (jI fo39_0 rfl) <| jK (jR 0 (v := .slice a_12 d.l.length c_13) rfl rfl ks rfl) <| jA (jf kY rfl) <| jA (jF (v := iv 0) rfl) <| jD <| jB ?_
    refine jZ <| kP (L' := [Res.rows (([] : List OX).flatMap rdsO), Res.row (.slice a_12 d.l.length c_13) 173 3 d.l.length (d.l.flatMap encO), bk b_15 39 [.slice a_12 d.l.length c_13, str d.jt, iv d.js], bk b_4 39 [.slice none 0 0, str [], iv 0], bk b_3 39 [.slice d.a d.l.length d.c, str d.jt, iv d.js]]) (fun w hw => hw.nilR (α := OX) (f := rdsO) [1] (B := [Res.row (.slice a_12 d.l.length c_13) 173 3 d.l.length (d.l.flatMap encO)]) (F := [bk b_15 39 [.slice a_12 d.l.length c_13, str d.jt, iv d.js], bk b_4 39 [.slice none 0 0, str [], iv 0], bk b_3 39 [.slice d.a d.l.length d.c, str d.jt, iv d.js]]) rfl) <| jp (fun k_ e_ L_ => ∃ j : Nat, ∃ y : List OX, (j ≤ d.l.length) ∧ (y.map OX.t = (d.l.take j).map OX.t) ∧ (y.length = j) ∧ e_ 2 = .pointer (some ⟨b_4, 0, none⟩) ∧ e_ 3 = .pointer (some ⟨b_15, 0, none⟩) ∧ e_ 13 = nv d.l.length ∧ e_ 14 = nv j ∧ L_ = [Res.rows (y.flatMap rdsO), Res.row (.slice a_12 d.l.length c_13) 173 3 d.l.length ((y ++ d.l.drop j).flatMap encO), bk b_15 39 [.slice a_12 d.l.length c_13, str d.jt, iv d.js], bk b_4 39 [.slice none 0 0, str [], iv 0], bk b_3 39 [.slice d.a d.l.length d.c, str d.jt, iv d.js]] ∧ k_ = d.l.length - j) _ ⟨0, [], by omega, rfl, rfl, rfl, rfl, rfl, rfl, rfl, rfl⟩ ?_
    rintro _ e_16 _ ⟨j, y, hj, hd, hyl, he_17, he_18, he_19, he_20, rfl, rfl⟩
    refine jC <| jE <| jA (jc he_20 he_19) <| jD <| jB <| jC ?_
    by_cases h_21 : ((j : Nat) : Int) < ((d.l.length : Nat) : Int)
    · have hlt : j < d.l.length := by omega
      refine kP (L' := [Res.row (.slice a_12 d.l.length c_13) 173 3 d.l.length (mid encO y [iv ((d.l.getD j o0).t.seq), .slice ((d.l.getD j o0).x.a0) ((d.l.getD j o0).t.cells.length) ((d.l.getD j o0).x.c0), .bool ((d.l.getD j o0).t.whole)] (d.l.drop (j + 1))), Res.rows (y.flatMap rdsO), bk b_15 39 [.slice a_12 d.l.length c_13, str d.jt, iv d.js], bk b_4 39 [.slice none 0 0, str [], iv 0], bk b_3 39 [.slice d.a d.l.length d.c, str d.jt, iv d.js]]) (fun w hw => hw.midR 1 rfl o0 hlt) ?_
      have hi_22 := SeesA.elem hi_2 o0 hlt
      have hs_23 := seesO hi_22
      obtain ⟨hb_24⟩ : (d.l.getD j o0).t.lim 1000000000 := (hlm.2 _ (getD_mem (show j < d.l.length by omega)))
      refine jS (cB (dT h_21)) <| jQ <| jB <| jC <| jZ <| jC <| jE <| jA (jF (v := nv j) he_20) <| jA (jG (v := nv j) rfl) <| jD ?_
      refine jB <| kG [Res.row (.slice a_12 d.l.length c_13) 173 3 d.l.length (mid encO y [iv ((d.l.getD j o0).t.seq), .slice ((d.l.getD j o0).x.a0) ((d.l.getD j o0).t.cells.length) ((d.l.getD j o0).x.c0), .bool ((d.l.getD j o0).t.whole)] (d.l.drop (j + 1))), Res.rows (y.flatMap rdsO), bk b_15 39 [.slice a_12 d.l.length c_13, str d.jt, iv d.js], bk b_4 39 [.slice none 0 0, str [], iv 0], bk b_3 39 [.slice d.a d.l.length d.c, str d.jt, iv d.js]] 10 mixed (by simp) <| jT 0 rfl (jI fo39_0 he_18) <| jw 1 rfl (jR 2 (v := .slice a_12 d.l.length c_13) rfl rfl ks rfl) <| jT 2 rfl (jF (v := nv j) rfl) <| jT 3 rfl (jI fo39_0 he_18) <| jw 4 rfl (jR 2 (v := .slice a_12 d.l.length c_13) rfl rfl ks rfl) <| jT 5 rfl (jF (v := nv j) rfl) ?_
      refine JA.facts fun hst => ?_
      obtain ⟨hr_25, hr_25b, -⟩ := row_some 0 rfl (by omega) hst
      refine jT 6 rfl (jX (i := j) kY kd hr_25 hr_25b rfl rfl (by omega)) <| jT 7 rfl (ji fo173_1 hr_25 rfl) <| jw 8 rfl (LO.loadR1 0 (v := .slice ((d.l.getD j o0).x.a0) ((d.l.getD j o0).t.cells.length) ((d.l.getD j o0).x.c0)) rfl rfl kx (mid_at encO_len rfl hyl 1 (by decide))) <| jq (i := 9) ?_
      refine kA rfl rfl (jU [] Tryz.call93 rfl (C_cloneC (d.l.getD j o0).x.a0 ((d.l.getD j o0).x.c0) ((d.l.getD j o0).t.cells) (by omega)) rfl (fun w hw => hw.seeOut_ hs_23 nM)) ?_
      rintro _ _ ⟨_, ⟨a_28, c_29, rfl, rfl⟩, rfl⟩
      refine ⟨by simp, ?_⟩
      refine jT 10 rfl (jX (i := j) kY kd hr_25 hr_25b rfl rfl (by omega)) <| jT 11 rfl (ji fo173_1 hr_25 rfl) <| jq (i := 12) ?_
      refine JX.ls rfl (kD 1 (vs := [.slice a_28 (((d.l.getD j o0).t.cells).length) c_29]) (cs' := mid encO y [iv ((d.l.getD j o0).t.seq), .slice a_28 (((d.l.getD j o0).t.cells).length) c_29, .bool ((d.l.getD j o0).t.whole)] (d.l.drop (j + 1))) rfl rfl rfl rfl Tryz.sizeOf34 rfl rfl (by decide) (mid_fit encO_len rfl hyl (f := 1) (lb rfl)) (mid_set encO_len rfl hyl 1 [.slice a_28 (((d.l.getD j o0).t.cells).length) c_29] (lb rfl))) ?_
      rintro _ _ rfl
      refine jk <| jB <| jE <| jA (ja (c := ((j + 1 : Nat) : Int)) he_20 rfl (wr (by omega))) <| jA (jF (v := iv ((j + 1 : Nat) : Int)) rfl) <| jD <| jv (L' := [Res.rows (rdsO (⟨⟨a_28, c_29⟩, (d.l.getD j o0).t⟩ : OX)), Res.row (.slice a_12 d.l.length c_13) 173 3 d.l.length (mid encO y [iv ((d.l.getD j o0).t.seq), .slice a_28 (((d.l.getD j o0).t.cells).length) c_29, .bool ((d.l.getD j o0).t.whole)] (d.l.drop (j + 1))), Res.rows (y.flatMap rdsO), bk b_15 39 [.slice a_12 d.l.length c_13, str d.jt, iv d.js], bk b_4 39 [.slice none 0 0, str [], iv 0], bk b_3 39 [.slice d.a d.l.length d.c, str d.jt, iv d.js]]) (fun w hw => hw.closeR (A := rdsO (⟨⟨a_28, c_29⟩, (d.l.getD j o0).t⟩ : OX)) [0] rfl) <| jv (L' := [Res.rows ((y ++ [(⟨⟨a_28, c_29⟩, (d.l.getD j o0).t⟩ : OX)]).flatMap rdsO), Res.row (.slice a_12 d.l.length c_13) 173 3 d.l.length (((y ++ [(⟨⟨a_28, c_29⟩, (d.l.getD j o0).t⟩ : OX)]) ++ d.l.drop (j + 1)).flatMap encO), bk b_15 39 [.slice a_12 d.l.length c_13, str d.jt, iv d.js], bk b_4 39 [.slice none 0 0, str [], iv 0], bk b_3 39 [.slice d.a d.l.length d.c, str d.jt, iv d.js]]) (fun w hw => St.addR [2, 1] rfl flatMap_snoc (hw.unmid 1 rfl (q := (⟨⟨a_28, c_29⟩, (d.l.getD j o0).t⟩ : OX)) rfl)) <| kL [0, 0, 0, 0, 0] (A := [Res.rows ((y ++ [(⟨⟨a_28, c_29⟩, (d.l.getD j o0).t⟩ : OX)]).flatMap rdsO), Res.row (.slice a_12 d.l.length c_13) 173 3 d.l.length (((y ++ [(⟨⟨a_28, c_29⟩, (d.l.getD j o0).t⟩ : OX)]) ++ d.l.drop (j + 1)).flatMap encO), bk b_15 39 [.slice a_12 d.l.length c_13, str d.jt, iv d.js], bk b_4 39 [.slice none 0 0, str [], iv 0], bk b_3 39 [.slice d.a d.l.length d.c, str d.jt, iv d.js]]) rfl ?_
      refine jl (d.l.length - (j + 1)) (by omega) ⟨j + 1, (y ++ [(⟨⟨a_28, c_29⟩, (d.l.getD j o0).t⟩ : OX)]), by omega, (map_take_succ o0 hd hlt rfl), (by rw [List.length_append, hyl]; rfl), he_17, he_18, he_19, rfl, rfl, rfl⟩
    refine jP (cB (dF h_21)) <| jn <| jb <| jb <| jo <| jB <| jC <| jE <| jK (jg 2 (vs := [.slice a_12 d.l.length c_13, str d.jt, iv d.js]) rfl he_18 kz kq rfl rfl) ?_
    refine jH rfl (jd 3 (vs := [.slice a_12 d.l.length c_13, str d.jt, iv d.js]) (cs' := [.slice a_12 d.l.length c_13, str d.jt, iv d.js]) rfl he_17 rfl rfl kq rfl rfl (lb rfl) rfl) ?_
    rintro _ _ rfl
    refine jD <| jB <| jJ ?_
    have hsl : d.l.length = y.length := by omega
    refine jv (L' := [Res.rows (y.flatMap rdsO), Res.row (.slice a_12 y.length c_13) 173 3 y.length (y.flatMap encO), bk b_15 39 [.slice a_12 d.l.length c_13, str d.jt, iv d.js], bk b_4 39 [.slice a_12 d.l.length c_13, str d.jt, iv d.js], bk b_3 39 [.slice d.a d.l.length d.c, str d.jt, iv d.js]]) (fun w hw => hw.eqL (by rw [List.drop_of_length_le (by omega), List.append_nil, hsl] <;> rfl)) <| jv (L' := [Res.rows (rdsOS a_12 c_13 y), bk b_15 39 [.slice a_12 d.l.length c_13, str d.jt, iv d.js], bk b_4 39 [.slice a_12 d.l.length c_13, str d.jt, iv d.js], bk b_3 39 [.slice d.a d.l.length d.c, str d.jt, iv d.js]]) (fun w hw => hw.consR (r := ⟨.slice a_12 y.length c_13, 173, 3, y.length, y.flatMap encO⟩) (A := y.flatMap rdsO) [1, 0] rfl) <| jL (.inl rfl) rfl (kI (jg 2 (vs := [.slice a_12 d.l.length c_13, str d.jt, iv d.js]) rfl he_17 kz kq rfl rfl) ⟨_, he_17⟩) (tS 1 _) ?_
    have hda := map_all hd (show d.l.length ≤ j by omega)
    exact ⟨⟨a_12, c_13, y, d.jt, d.js⟩, by simp only [DX.dat, hda], by rw [hsl], rfl⟩
  refine kA rfl rfl (kB (z := .agg #[.slice none 0 0, str [], iv 0]) (cs := [.slice none 0 0, str [], iv 0]) Tryz.zeroValue39 rfl) ?_
  rintro _ _ ⟨b_30, rfl, rfl⟩
  refine ⟨by simp, ?_⟩
  refine jq (i := 2) ?_
  refine kA rfl rfl (jU [] Tryz.call140 rfl (Z_cloneO d.a d.c d.l (by omega)) rfl (fun w hw => hw.seeOut_ hs_1 nM)) ?_
  rintro _ _ ⟨_, ⟨a_33, c_34, rfl, rfl⟩, rfl⟩
  refine ⟨by simp, ?_⟩
  refine jT 5 rfl (PO.build (ps := [(0, .slice a_33 d.l.length c_34), (1, .agg #[str d.jt, iv d.js])]) (cs := [.slice a_33 d.l.length c_34, str d.jt, iv d.js]) rfl (by kernel_rfl)) <| jq (i := 7) ?_
  refine JX.ls rfl (jd 1 (vs := [.slice a_33 d.l.length c_34, str d.jt, iv d.js]) (cs' := [.slice a_33 d.l.length c_34, str d.jt, iv d.js]) rfl rfl rfl rfl kq rfl rfl (lb rfl) rfl) ?_
  rintro _ _ rfl
  refine jB <| jC <| jC <| jE <| jA (jI fo39_0 rfl) <| jK (jR 1 (v := .slice a_33 d.l.length c_34) rfl rfl ks rfl) <| jA (jf kY rfl) <| jA (jF (v := iv 0) rfl) <| jD <| jB ?_
  refine jZ <| kP (L' := [Res.rows (([] : List OX).flatMap rdsO), Res.row (.slice a_33 d.l.length c_34) 173 3 d.l.length (d.l.flatMap encO), bk b_30 39 [.slice a_33 d.l.length c_34, str d.jt, iv d.js], bk b_4 39 [.slice none 0 0, str [], iv 0], bk b_3 39 [.slice d.a d.l.length d.c, str d.jt, iv d.js]]) (fun w hw => hw.nilR (α := OX) (f := rdsO) [0] (B := [Res.row (.slice a_33 d.l.length c_34) 173 3 d.l.length (d.l.flatMap encO)]) (F := [bk b_30 39 [.slice a_33 d.l.length c_34, str d.jt, iv d.js], bk b_4 39 [.slice none 0 0, str [], iv 0], bk b_3 39 [.slice d.a d.l.length d.c, str d.jt, iv d.js]]) rfl) <| jp (fun k_ e_ L_ => ∃ j : Nat, ∃ y : List OX, (j ≤ d.l.length) ∧ (y.map OX.t = (d.l.take j).map OX.t) ∧ (y.length = j) ∧ e_ 2 = .pointer (some ⟨b_4, 0, none⟩) ∧ e_ 3 = .pointer (some ⟨b_30, 0, none⟩) ∧ e_ 13 = nv d.l.length ∧ e_ 14 = nv j ∧ L_ = [Res.rows (y.flatMap rdsO), Res.row (.slice a_33 d.l.length c_34) 173 3 d.l.length ((y ++ d.l.drop j).flatMap encO), bk b_30 39 [.slice a_33 d.l.length c_34, str d.jt, iv d.js], bk b_4 39 [.slice none 0 0, str [], iv 0], bk b_3 39 [.slice d.a d.l.length d.c, str d.jt, iv d.js]] ∧ k_ = d.l.length - j) _ ⟨0, [], by omega, rfl, rfl, rfl, rfl, rfl, rfl, rfl, rfl⟩ ?_
  rintro _ e_35 _ ⟨j, y, hj, hd, hyl, he_36, he_37, he_38, he_39, rfl, rfl⟩
  refine jC <| jE <| jA (jc he_39 he_38) <| jD <| jB <| jC ?_
  by_cases h_40 : ((j : Nat) : Int) < ((d.l.length : Nat) : Int)
  · have hlt : j < d.l.length := by omega
    refine kP (L' := [Res.row (.slice a_33 d.l.length c_34) 173 3 d.l.length (mid encO y [iv ((d.l.getD j o0).t.seq), .slice ((d.l.getD j o0).x.a0) ((d.l.getD j o0).t.cells.length) ((d.l.getD j o0).x.c0), .bool ((d.l.getD j o0).t.whole)] (d.l.drop (j + 1))), Res.rows (y.flatMap rdsO), bk b_30 39 [.slice a_33 d.l.length c_34, str d.jt, iv d.js], bk b_4 39 [.slice none 0 0, str [], iv 0], bk b_3 39 [.slice d.a d.l.length d.c, str d.jt, iv d.js]]) (fun w hw => hw.midR 1 rfl o0 hlt) ?_
    have hi_41 := SeesA.elem hi_2 o0 hlt
    have hs_42 := seesO hi_41
    obtain ⟨hb_43⟩ : (d.l.getD j o0).t.lim 1000000000 := (hlm.2 _ (getD_mem (show j < d.l.length by omega)))
    refine jS (cB (dT h_40)) <| jQ <| jB <| jC <| jZ <| jC <| jE <| jA (jF (v := nv j) he_39) <| jA (jG (v := nv j) rfl) <| jD ?_
    refine jB <| kG [Res.row (.slice a_33 d.l.length c_34) 173 3 d.l.length (mid encO y [iv ((d.l.getD j o0).t.seq), .slice ((d.l.getD j o0).x.a0) ((d.l.getD j o0).t.cells.length) ((d.l.getD j o0).x.c0), .bool ((d.l.getD j o0).t.whole)] (d.l.drop (j + 1))), Res.rows (y.flatMap rdsO), bk b_30 39 [.slice a_33 d.l.length c_34, str d.jt, iv d.js], bk b_4 39 [.slice none 0 0, str [], iv 0], bk b_3 39 [.slice d.a d.l.length d.c, str d.jt, iv d.js]] 10 mixed (by simp) <| jT 0 rfl (jI fo39_0 he_37) <| jw 1 rfl (jR 2 (v := .slice a_33 d.l.length c_34) rfl rfl ks rfl) <| jT 2 rfl (jF (v := nv j) rfl) <| jT 3 rfl (jI fo39_0 he_37) <| jw 4 rfl (jR 2 (v := .slice a_33 d.l.length c_34) rfl rfl ks rfl) <| jT 5 rfl (jF (v := nv j) rfl) ?_
    refine JA.facts fun hst => ?_
    obtain ⟨hr_44, hr_44b, -⟩ := row_some 0 rfl (by omega) hst
    refine jT 6 rfl (jX (i := j) kY kd hr_44 hr_44b rfl rfl (by omega)) <| jT 7 rfl (ji fo173_1 hr_44 rfl) <| jw 8 rfl (LO.loadR1 0 (v := .slice ((d.l.getD j o0).x.a0) ((d.l.getD j o0).t.cells.length) ((d.l.getD j o0).x.c0)) rfl rfl kx (mid_at encO_len rfl hyl 1 (by decide))) <| jq (i := 9) ?_
    refine kA rfl rfl (jU [] Tryz.call93 rfl (C_cloneC (d.l.getD j o0).x.a0 ((d.l.getD j o0).x.c0) ((d.l.getD j o0).t.cells) (by omega)) rfl (fun w hw => hw.seeOut_ hs_42 nM)) ?_
    rintro _ _ ⟨_, ⟨a_47, c_48, rfl, rfl⟩, rfl⟩
    refine ⟨by simp, ?_⟩
    refine jT 10 rfl (jX (i := j) kY kd hr_44 hr_44b rfl rfl (by omega)) <| jT 11 rfl (ji fo173_1 hr_44 rfl) <| jq (i := 12) ?_
    refine JX.ls rfl (kD 1 (vs := [.slice a_47 (((d.l.getD j o0).t.cells).length) c_48]) (cs' := mid encO y [iv ((d.l.getD j o0).t.seq), .slice a_47 (((d.l.getD j o0).t.cells).length) c_48, .bool ((d.l.getD j o0).t.whole)] (d.l.drop (j + 1))) rfl rfl rfl rfl Tryz.sizeOf34 rfl rfl (by decide) (mid_fit encO_len rfl hyl (f := 1) (lb rfl)) (mid_set encO_len rfl hyl 1 [.slice a_47 (((d.l.getD j o0).t.cells).length) c_48] (lb rfl))) ?_
    rintro _ _ rfl
    refine jk <| jB <| jE <| jA (ja (c := ((j + 1 : Nat) : Int)) he_39 rfl (wr (by omega))) <| jA (jF (v := iv ((j + 1 : Nat) : Int)) rfl) <| jD <| jv (L' := [Res.rows (rdsO (⟨⟨a_47, c_48⟩, (d.l.getD j o0).t⟩ : OX)), Res.row (.slice a_33 d.l.length c_34) 173 3 d.l.length (mid encO y [iv ((d.l.getD j o0).t.seq), .slice a_47 (((d.l.getD j o0).t.cells).length) c_48, .bool ((d.l.getD j o0).t.whole)] (d.l.drop (j + 1))), Res.rows (y.flatMap rdsO), bk b_30 39 [.slice a_33 d.l.length c_34, str d.jt, iv d.js], bk b_4 39 [.slice none 0 0, str [], iv 0], bk b_3 39 [.slice d.a d.l.length d.c, str d.jt, iv d.js]]) (fun w hw => hw.closeR (A := rdsO (⟨⟨a_47, c_48⟩, (d.l.getD j o0).t⟩ : OX)) [0] rfl) <| jv (L' := [Res.rows ((y ++ [(⟨⟨a_47, c_48⟩, (d.l.getD j o0).t⟩ : OX)]).flatMap rdsO), Res.row (.slice a_33 d.l.length c_34) 173 3 d.l.length (((y ++ [(⟨⟨a_47, c_48⟩, (d.l.getD j o0).t⟩ : OX)]) ++ d.l.drop (j + 1)).flatMap encO), bk b_30 39 [.slice a_33 d.l.length c_34, str d.jt, iv d.js], bk b_4 39 [.slice none 0 0, str [], iv 0], bk b_3 39 [.slice d.a d.l.length d.c, str d.jt, iv d.js]]) (fun w hw => St.addR [2, 1] rfl flatMap_snoc (hw.unmid 1 rfl (q := (⟨⟨a_47, c_48⟩, (d.l.getD j o0).t⟩ : OX)) rfl)) <| kL [0, 0, 0, 0, 0] (A := [Res.rows ((y ++ [(⟨⟨a_47, c_48⟩, (d.l.getD j o0).t⟩ : OX)]).flatMap rdsO), Res.row (.slice a_33 d.l.length c_34) 173 3 d.l.length (((y ++ [(⟨⟨a_47, c_48⟩, (d.l.getD j o0).t⟩ : OX)]) ++ d.l.drop (j + 1)).flatMap encO), bk b_30 39 [.slice a_33 d.l.length c_34, str d.jt, iv d.js], bk b_4 39 [.slice none 0 0, str [], iv 0], bk b_3 39 [.slice d.a d.l.length d.c, str d.jt, iv d.js]]) rfl ?_
    refine jl (d.l.length - (j + 1)) (by omega) ⟨j + 1, (y ++ [(⟨⟨a_47, c_48⟩, (d.l.getD j o0).t⟩ : OX)]), by omega, (map_take_succ o0 hd hlt rfl), (by rw [List.length_append, hyl]; rfl), he_36, he_37, he_38, rfl, rfl, rfl⟩
  refine jP (cB (dF h_40)) <| jn <| jb <| jb <| jo <| jB <| jC <| jE <| jK (jg 2 (vs := [.slice a_33 d.l.length c_34, str d.jt, iv d.js]) rfl he_37 kz kq rfl rfl) ?_
  refine jH rfl (jd 3 (vs := [.slice a_33 d.l.length c_34, str d.jt, iv d.js]) (cs' := [.slice a_33 d.l.length c_34, str d.jt, iv d.js]) rfl he_36 rfl rfl kq rfl rfl (lb rfl) rfl) ?_
  rintro _ _ rfl
  refine jD <| jB <| jJ ?_
  have hsl : d.l.length = y.length := by omega
  refine jv (L' := [Res.rows (y.flatMap rdsO), Res.row (.slice a_33 y.length c_34) 173 3 y.length (y.flatMap encO), bk b_30 39 [.slice a_33 d.l.length c_34, str d.jt, iv d.js], bk b_4 39 [.slice a_33 d.l.length c_34, str d.jt, iv d.js], bk b_3 39 [.slice d.a d.l.length d.c, str d.jt, iv d.js]]) (fun w hw => hw.eqL (by rw [List.drop_of_length_le (by omega), List.append_nil, hsl] <;> rfl)) <| jv (L' := [Res.rows (rdsOS a_33 c_34 y), bk b_30 39 [.slice a_33 d.l.length c_34, str d.jt, iv d.js], bk b_4 39 [.slice a_33 d.l.length c_34, str d.jt, iv d.js], bk b_3 39 [.slice d.a d.l.length d.c, str d.jt, iv d.js]]) (fun w hw => hw.consR (r := ⟨.slice a_33 y.length c_34, 173, 3, y.length, y.flatMap encO⟩) (A := y.flatMap rdsO) [1, 0] rfl) <| jL (.inl rfl) rfl (kI (jg 2 (vs := [.slice a_33 d.l.length c_34, str d.jt, iv d.js]) rfl he_36 kz kq rfl rfl) ⟨_, he_36⟩) (tS 1 _) ?_
  have hda := map_all hd (show d.l.length ≤ j by omega)
  exact ⟨⟨a_33, c_34, y, d.jt, d.js⟩, by simp only [DX.dat, hda], by rw [hsl], rfl⟩

set_option maxRecDepth 4000 in
set_option maxHeartbeats 1000000 in
theorem Z_specl23Copy (d : DX) (hl : d.dat.lim 1000000000) :
    Ct Tryz.prog 87 [.agg #[.slice d.a d.l.length d.c, str d.jt, .int .i64 d.js]] [] (fun w => SeesA w (rdsD d)) (fun v A' => ∃ y : DX, y.dat = d.dat ∧ v = .agg #[.slice y.a y.l.length y.c, str y.jt, .int .i64 y.js] ∧ A' = [.rows (rdsD y)]) := by
  refine Ct.intro Tryz.func87 rfl Tryz.ntmps87 (lb rfl) fun w0 hpre => ?_
  have hs_1 : Sees w0 (.slice d.a d.l.length d.c) 3 d.l.length (d.l.flatMap encO) := (hpre).head
  have hi_2 : SeesA w0 (d.l.flatMap rdsO) := (hpre).tail
  have hlm : d.l.length ≤ 1000000000 ∧ ∀ q ∈ d.l, q.t.lim 1000000000 := ⟨by have := hl.l0; simpa only [DX.dat, List.length_map] using this, fun q hq => hl.l1 _ (List.mem_map_of_mem hq)⟩
  have hlm0 := hlm.1
  refine jC <| jE ?_
  refine jH rfl (jm (cs := [.slice d.a d.l.length d.c, str d.jt, iv d.js]) rfl rfl) ?_
  rintro _ _ ⟨b_3, rfl, rfl⟩
  refine jH rfl (kB (z := .agg #[.slice none 0 0, str [], iv 0]) (cs := [.slice none 0 0, str [], iv 0]) Tryz.zeroValue39 rfl) ?_
  rintro _ _ ⟨b_4, rfl, rfl⟩
  refine jD <| jB <| jC <| jE <| jA (jI fo39_1 rfl) <| jK (jg 1 (vs := [str d.jt, iv d.js]) rfl rfl Tryz.isAgg37 Tryz.sizeOf37 rfl rfl) <| jA (PO.build (ps := [(1, .agg #[str d.jt, iv d.js])]) (cs := [.slice none 0 0, str d.jt, iv d.js]) rfl (by kernel_rfl)) ?_
  refine jH rfl (kB (z := .agg #[.slice none 0 0, str [], iv 0]) (cs := [.slice none 0 0, str [], iv 0]) Tryz.zeroValue39 rfl) ?_
  rintro _ _ ⟨b_5, rfl, rfl⟩
  refine jH rfl (jd 0 (vs := [.slice none 0 0, str d.jt, iv d.js]) (cs' := [.slice none 0 0, str d.jt, iv d.js]) rfl rfl rfl rfl kq rfl rfl (lb rfl) rfl) ?_
  rintro _ _ rfl
  refine jD <| jB <| jC <| jC <| jE <| jA (jG (v := iv 0) rfl) <| jD <| jB <| jZ <| JC.nilRow 173 3 ?_
  refine kP (L' := [Res.rows (([] : List OX).flatMap rdsO), Res.row (.slice none 0 0) 173 3 0 (([] : List OX).flatMap encO), bk b_5 39 [.slice none 0 0, str d.jt, iv d.js], bk b_4 39 [.slice none 0 0, str [], iv 0], bk b_3 39 [.slice d.a d.l.length d.c, str d.jt, iv d.js]]) (fun w hw => hw.nilR (α := OX) (f := rdsO) [0, 0] (B := [Res.row (.slice none 0 0) 173 3 0 (([] : List OX).flatMap encO), bk b_5 39 [.slice none 0 0, str d.jt, iv d.js]]) (F := [bk b_4 39 [.slice none 0 0, str [], iv 0], bk b_3 39 [.slice d.a d.l.length d.c, str d.jt, iv d.js]]) rfl) <| jp (fun k_ e_ L_ => ∃ j : Nat, ∃ ya : Option Addr, ∃ yc : Nat, ∃ y : List OX, (j ≤ d.l.length) ∧ (y.map OX.t = (d.l.take j).map OX.t) ∧ (y.length = j) ∧ e_ 1 = .pointer (some ⟨b_3, 0, none⟩) ∧ e_ 2 = .pointer (some ⟨b_4, 0, none⟩) ∧ e_ 3 = .pointer (some ⟨b_5, 0, none⟩) ∧ e_ 4 = nv j ∧ L_ = [Res.rows (y.flatMap rdsO), Res.row (.slice ya y.length yc) 173 3 y.length (y.flatMap encO), bk b_5 39 [.slice ya y.length yc, str d.jt, iv d.js], bk b_4 39 [.slice none 0 0, str [], iv 0], bk b_3 39 [.slice d.a d.l.length d.c, str d.jt, iv d.js]] ∧ k_ = d.l.length - j) _ ⟨0, none, 0, [], by omega, rfl, rfl, rfl, rfl, rfl, rfl, rfl, rfl⟩ ?_
  rintro _ e_6 _ ⟨j, ya, yc, y, hj, hd, hyl, he_7, he_8, he_9, he_10, rfl, rfl⟩
  refine jC <| jC <| jE <| jA (jF (v := nv j) he_10) <| jA (jI fo39_0 he_7) <| jK (jR 4 (v := .slice d.a d.l.length d.c) rfl rfl ks rfl) <| jA (jf kY rfl) <| jA (jc rfl rfl) <| jD <| jB ?_
  by_cases h_11 : ((j : Nat) : Int) < ((d.l.length : Nat) : Int)
  · have hlt : j < d.l.length := by omega
    have hb9 : (d.l.getD j o0).t.cells.length ≤ 1000000000 := (hlm.2 _ (getD_mem hlt)).l0
    refine jS (cB (dT h_11)) <| jQ <| jB <| jC <| jZ <| jC <| jE <| jA (jI fo39_0 he_7) <| jK (jR 4 (v := .slice d.a d.l.length d.c) rfl rfl ks rfl) <| jA (jF (v := nv j) he_10) ?_
    obtain ⟨hr_12, hr_12b, -⟩ := sees_some hs_1 (by omega)
    refine jA (jX (i := j) kY kd hr_12 hr_12b rfl rfl (by omega)) ?_
    have hi_13 := SeesA.elem hi_2 o0 (show j < d.l.length by omega)
    have hs_14 := seesO hi_13
    refine jK (kF (vs := [iv ((d.l.getD j o0).t.seq), .slice ((d.l.getD j o0).x.a0) ((d.l.getD j o0).t.cells.length) ((d.l.getD j o0).x.c0), .bool ((d.l.getD j o0).t.whole)]) hs_1 nM rfl Tryz.isAgg173 kd (flat_take encO_len o0 d.l j (by omega)) rfl (by decide)) ?_
    refine jH rfl (kB (z := .agg #[iv 0, .slice none 0 0, .bool false]) (cs := [iv 0, .slice none 0 0, .bool false]) Tryz.zeroValue173 rfl) ?_
    rintro _ _ ⟨b_15, rfl, rfl⟩
    refine jH rfl (jd 0 (vs := [iv ((d.l.getD j o0).t.seq), .slice ((d.l.getD j o0).x.a0) ((d.l.getD j o0).t.cells.length) ((d.l.getD j o0).x.c0), .bool ((d.l.getD j o0).t.whole)]) (cs' := [iv ((d.l.getD j o0).t.seq), .slice ((d.l.getD j o0).x.a0) ((d.l.getD j o0).t.cells.length) ((d.l.getD j o0).x.c0), .bool ((d.l.getD j o0).t.whole)]) rfl rfl rfl rfl kd rfl rfl (lb rfl) rfl) ?_
    rintro _ _ rfl
    refine jD <| jB <| jC <| jE ?_
    refine jH rfl (kK (ps := []) (cur := #[]) kh kr Tryz.zeroValue131 rfl (by kernel_rfl) (by decide) (by decide)) ?_
    rintro _ _ ⟨a_16, rfl, rfl⟩
    refine jA (jI fo173_1 rfl) <| jK (jR 1 (v := .slice ((d.l.getD j o0).x.a0) ((d.l.getD j o0).t.cells.length) ((d.l.getD j o0).x.c0)) rfl rfl kx rfl) ?_
    refine jH rfl (kN 0 (q := ((d.l.getD j o0).t.cells.length)) (news := ((d.l.getD j o0).t.cells).flatMap encC) (n' := ((d.l.getD j o0).t.cells).length) (cs' := ((d.l.getD j o0).t.cells).flatMap encC) rfl kh kh Tryz.typeInfo131 rfl (by' := 32) rfl rfl rfl rfl rfl (fun w hw => Src.sees (hw.seeOut_ hs_14 nM) (oneC _)) (by (try simp only [LE]); omega) (by (try simp only [LE]); omega) (by (try simp only [List.length_take, List.length_drop]); first | rfl | omega) rfl) ?_
    rintro _ _ ⟨a_17, c_18, rfl, rfl⟩
    refine jA (jI fo173_1 rfl) ?_
    refine jH rfl (jd 1 (vs := [.slice a_17 (((d.l.getD j o0).t.cells).length) c_18]) (cs' := [iv ((d.l.getD j o0).t.seq), .slice a_17 (((d.l.getD j o0).t.cells).length) c_18, .bool ((d.l.getD j o0).t.whole)]) rfl rfl rfl rfl Tryz.sizeOf34 rfl rfl (lb rfl) rfl) ?_
    rintro _ _ rfl
    refine jD <| jB <| jE <| jA (jI fo39_0 he_9) <| jK (jR 4 (v := .slice ya y.length yc) rfl rfl ks rfl) <| jK (jg 1 (vs := [iv ((d.l.getD j o0).t.seq), .slice a_17 (((d.l.getD j o0).t.cells).length) c_18, .bool ((d.l.getD j o0).t.whole)]) rfl rfl Tryz.isAgg173 kd rfl rfl) ?_
    refine jH rfl (kK (ps := [(0, .agg #[iv ((d.l.getD j o0).t.seq), .slice a_17 (((d.l.getD j o0).t.cells).length) c_18, .bool ((d.l.getD j o0).t.whole)])]) (cur := #[iv ((d.l.getD j o0).t.seq), .slice a_17 (((d.l.getD j o0).t.cells).length) c_18, .bool ((d.l.getD j o0).t.whole)]) kY kd Tryz.zeroValue173 rfl (by kernel_rfl) (by decide) (by decide)) ?_
    rintro _ _ ⟨a_19, rfl, rfl⟩
    refine jH rfl (kN 4 (q := 1) (news := ([(⟨⟨a_17, c_18⟩, ⟨(d.l.getD j o0).t.seq, (d.l.getD j o0).t.cells, (d.l.getD j o0).t.whole⟩⟩ : OX)] : List OX).flatMap encO) (n' := (y ++ ([(⟨⟨a_17, c_18⟩, ⟨(d.l.getD j o0).t.seq, (d.l.getD j o0).t.cells, (d.l.getD j o0).t.whole⟩⟩ : OX)] : List OX)).length) (cs' := (y ++ ([(⟨⟨a_17, c_18⟩, ⟨(d.l.getD j o0).t.seq, (d.l.getD j o0).t.cells, (d.l.getD j o0).t.whole⟩⟩ : OX)] : List OX)).flatMap encO) rfl kY kY Tryz.typeInfo173 rfl (by' := 40) rfl rfl rfl rfl rfl (fun w hw => Src.sees (hw.see (i := 0) rfl) (oneO _)) (by (try simp only [LE]); omega) (by (try simp only [LE]); omega) (by simp only [List.length_append, List.length_take, List.length_drop, List.length_cons, List.length_nil] <;> first | rfl | omega) (by simp only [List.flatMap_append])) ?_
    rintro _ _ ⟨a_20, c_21, rfl, rfl⟩
    refine jA (jI fo39_0 he_9) ?_
    refine jH rfl (jd 5 (vs := [.slice a_20 ((y ++ ([(⟨⟨a_17, c_18⟩, ⟨(d.l.getD j o0).t.seq, (d.l.getD j o0).t.cells, (d.l.getD j o0).t.whole⟩⟩ : OX)] : List OX)).length) c_21]) (cs' := [.slice a_20 ((y ++ ([(⟨⟨a_17, c_18⟩, ⟨(d.l.getD j o0).t.seq, (d.l.getD j o0).t.cells, (d.l.getD j o0).t.whole⟩⟩ : OX)] : List OX)).length) c_21, str d.jt, iv d.js]) rfl rfl rfl rfl Tryz.sizeOf36 rfl rfl (lb rfl) rfl) ?_
    rintro _ _ rfl
    refine jD <| jk <| jB <| jE <| jA (jF (v := nv j) he_10) <| jA (ja (c := ((j + 1 : Nat) : Int)) rfl rfl (wr (by omega))) <| jA (jG (v := iv ((j + 1 : Nat) : Int)) rfl) <| jD <| jv (L' := [Res.rows (rdsO (⟨⟨a_17, c_18⟩, ⟨(d.l.getD j o0).t.seq, (d.l.getD j o0).t.cells, (d.l.getD j o0).t.whole⟩⟩ : OX)), Res.row (.slice a_19 1 1) 173 3 1 (([(⟨⟨a_17, c_18⟩, ⟨(d.l.getD j o0).t.seq, (d.l.getD j o0).t.cells, (d.l.getD j o0).t.whole⟩⟩ : OX)] : List OX).flatMap encO), bk b_15 173 [iv ((d.l.getD j o0).t.seq), .slice a_17 (((d.l.getD j o0).t.cells).length) c_18, .bool ((d.l.getD j o0).t.whole)], Res.rows (y.flatMap rdsO), Res.row (.slice a_20 ((y ++ ([(⟨⟨a_17, c_18⟩, ⟨(d.l.getD j o0).t.seq, (d.l.getD j o0).t.cells, (d.l.getD j o0).t.whole⟩⟩ : OX)] : List OX)).length) c_21) 173 3 ((y ++ ([(⟨⟨a_17, c_18⟩, ⟨(d.l.getD j o0).t.seq, (d.l.getD j o0).t.cells, (d.l.getD j o0).t.whole⟩⟩ : OX)] : List OX)).length) ((y ++ ([(⟨⟨a_17, c_18⟩, ⟨(d.l.getD j o0).t.seq, (d.l.getD j o0).t.cells, (d.l.getD j o0).t.whole⟩⟩ : OX)] : List OX)).flatMap encO), bk b_5 39 [.slice a_20 ((y ++ ([(⟨⟨a_17, c_18⟩, ⟨(d.l.getD j o0).t.seq, (d.l.getD j o0).t.cells, (d.l.getD j o0).t.whole⟩⟩ : OX)] : List OX)).length) c_21, str d.jt, iv d.js], bk b_4 39 [.slice none 0 0, str [], iv 0], bk b_3 39 [.slice d.a d.l.length d.c, str d.jt, iv d.js]]) (fun w hw => hw.closeR (A := rdsO (⟨⟨a_17, c_18⟩, ⟨(d.l.getD j o0).t.seq, (d.l.getD j o0).t.cells, (d.l.getD j o0).t.whole⟩⟩ : OX)) [1] rfl) <| jv (L' := [Res.rows ((y ++ [(⟨⟨a_17, c_18⟩, ⟨(d.l.getD j o0).t.seq, (d.l.getD j o0).t.cells, (d.l.getD j o0).t.whole⟩⟩ : OX)]).flatMap rdsO), Res.row (.slice a_19 1 1) 173 3 1 (([(⟨⟨a_17, c_18⟩, ⟨(d.l.getD j o0).t.seq, (d.l.getD j o0).t.cells, (d.l.getD j o0).t.whole⟩⟩ : OX)] : List OX).flatMap encO), bk b_15 173 [iv ((d.l.getD j o0).t.seq), .slice a_17 (((d.l.getD j o0).t.cells).length) c_18, .bool ((d.l.getD j o0).t.whole)], Res.row (.slice a_20 ((y ++ ([(⟨⟨a_17, c_18⟩, ⟨(d.l.getD j o0).t.seq, (d.l.getD j o0).t.cells, (d.l.getD j o0).t.whole⟩⟩ : OX)] : List OX)).length) c_21) 173 3 ((y ++ ([(⟨⟨a_17, c_18⟩, ⟨(d.l.getD j o0).t.seq, (d.l.getD j o0).t.cells, (d.l.getD j o0).t.whole⟩⟩ : OX)] : List OX)).length) ((y ++ ([(⟨⟨a_17, c_18⟩, ⟨(d.l.getD j o0).t.seq, (d.l.getD j o0).t.cells, (d.l.getD j o0).t.whole⟩⟩ : OX)] : List OX)).flatMap encO), bk b_5 39 [.slice a_20 ((y ++ ([(⟨⟨a_17, c_18⟩, ⟨(d.l.getD j o0).t.seq, (d.l.getD j o0).t.cells, (d.l.getD j o0).t.whole⟩⟩ : OX)] : List OX)).length) c_21, str d.jt, iv d.js], bk b_4 39 [.slice none 0 0, str [], iv 0], bk b_3 39 [.slice d.a d.l.length d.c, str d.jt, iv d.js]]) (fun w hw => hw.addR [3, 0] rfl flatMap_snoc) ?_
    refine kL [0, 2, 2, 2, 2] (A := [Res.rows ((y ++ [(⟨⟨a_17, c_18⟩, ⟨(d.l.getD j o0).t.seq, (d.l.getD j o0).t.cells, (d.l.getD j o0).t.whole⟩⟩ : OX)]).flatMap rdsO), Res.row (.slice a_20 ((y ++ ([(⟨⟨a_17, c_18⟩, ⟨(d.l.getD j o0).t.seq, (d.l.getD j o0).t.cells, (d.l.getD j o0).t.whole⟩⟩ : OX)] : List OX)).length) c_21) 173 3 ((y ++ [(⟨⟨a_17, c_18⟩, ⟨(d.l.getD j o0).t.seq, (d.l.getD j o0).t.cells, (d.l.getD j o0).t.whole⟩⟩ : OX)]).length) ((y ++ [(⟨⟨a_17, c_18⟩, ⟨(d.l.getD j o0).t.seq, (d.l.getD j o0).t.cells, (d.l.getD j o0).t.whole⟩⟩ : OX)]).flatMap encO), bk b_5 39 [.slice a_20 ((y ++ ([(⟨⟨a_17, c_18⟩, ⟨(d.l.getD j o0).t.seq, (d.l.getD j o0).t.cells, (d.l.getD j o0).t.whole⟩⟩ : OX)] : List OX)).length) c_21, str d.jt, iv d.js], bk b_4 39 [.slice none 0 0, str [], iv 0], bk b_3 39 [.slice d.a d.l.length d.c, str d.jt, iv d.js]]) rfl ?_
    refine jl (d.l.length - (j + 1)) (by omega) ⟨j + 1, a_20, c_21, (y ++ [(⟨⟨a_17, c_18⟩, ⟨(d.l.getD j o0).t.seq, (d.l.getD j o0).t.cells, (d.l.getD j o0).t.whole⟩⟩ : OX)]), by omega, (map_take_succ o0 hd hlt rfl), (by rw [List.length_append, hyl]; rfl), he_7, he_8, he_9, rfl, rfl, rfl⟩
  refine jP (cB (dF h_11)) <| jn <| jb <| jb <| jo <| jB <| jC <| jE <| jK (jg 2 (vs := [.slice ya y.length yc, str d.jt, iv d.js]) rfl he_9 kz kq rfl rfl) ?_
  refine jH rfl (jd 3 (vs := [.slice ya y.length yc, str d.jt, iv d.js]) (cs' := [.slice ya y.length yc, str d.jt, iv d.js]) rfl he_8 rfl rfl kq rfl rfl (lb rfl) rfl) ?_
  rintro _ _ rfl
  refine jD <| jB <| jJ <| jv (L' := [Res.rows (rdsOS ya yc y), bk b_5 39 [.slice ya y.length yc, str d.jt, iv d.js], bk b_4 39 [.slice ya y.length yc, str d.jt, iv d.js], bk b_3 39 [.slice d.a d.l.length d.c, str d.jt, iv d.js]]) (fun w hw => hw.consR (r := ⟨.slice ya y.length yc, 173, 3, y.length, y.flatMap encO⟩) (A := y.flatMap rdsO) [1, 0] rfl) <| jL (.inl rfl) rfl (kI (jg 2 (vs := [.slice ya y.length yc, str d.jt, iv d.js]) rfl he_8 kz kq rfl rfl) ⟨_, he_8⟩) (tS 1 _) ?_
  have hda := map_all hd (show d.l.length ≤ j by omega)
  exact ⟨⟨ya, yc, y, d.jt, d.js⟩, by simp only [DX.dat, hda], rfl, rfl⟩

set_option maxRecDepth 4000 in
set_option maxHeartbeats 1000000 in
theorem Z_implKernelclone (k : KX) (hl : k.dat.lim 1000000000) :
    Ct Tryz.prog 38 [.agg #[.slice k.a0 k.store.length k.c0, .slice k.a1 k.txs.length k.c1, .slice k.dk.a k.dk.l.length k.dk.c, str k.dk.jt, .int .i64 k.dk.js, .int .i64 k.seq, .int .i64 k.next, .int .i64 k.time, .slice k.a2 k.hist.length k.c2, .slice k.a3 k.seen.length k.c3, .bool k.room]] [] (fun w => SeesA w (rdsN k)) (fun v A' => ∃ y : KX, y.dat = k.dat ∧ v = .agg #[.slice y.a0 y.store.length y.c0, .slice y.a1 y.txs.length y.c1, .slice y.dk.a y.dk.l.length y.dk.c, str y.dk.jt, .int .i64 y.dk.js, .int .i64 y.seq, .int .i64 y.next, .int .i64 y.time, .slice y.a2 y.hist.length y.c2, .slice y.a3 y.seen.length y.c3, .bool y.room] ∧ A' = [.rows (rdsN y)]) := by
  refine Ct.intro Tryz.func38 rfl Tryz.ntmps38 (lb rfl) fun w0 hpre => ?_
  obtain ⟨hs_1, hs_2, hs_3, hs_4, hs_5⟩ := seesN hpre
  have hs_6 : Sees w0 (.slice k.a1 k.txs.length k.c1) 10 k.txs.length (k.txs.flatMap encX) := (hs_3).head
  have hi_7 : SeesA w0 (k.txs.flatMap rdsX) := (hs_3).tail
  have hs_8 : Sees w0 (.slice k.dk.a k.dk.l.length k.dk.c) 3 k.dk.l.length (k.dk.l.flatMap encO) := (hs_4).head
  have hi_9 : SeesA w0 (k.dk.l.flatMap rdsO) := (hs_4).tail
  have hs_10 : Sees w0 (.slice k.a2 k.hist.length k.c2) 8 k.hist.length (k.hist.flatMap encE) := (hs_5).head
  have hi_11 : SeesA w0 (k.hist.flatMap rdsE) := (hs_5).tail
  have hm0 : k.store.length ≤ 1000000000 := hl.l0
  have hm6 : k.seen.length ≤ 1000000000 := hl.l6
  have hm1 : k.txs.length ≤ 1000000000 := by have := hl.l1; simpa only [KX.dat, List.length_map] using this
  have hm2 : ∀ q ∈ k.txs, q.t.lim 1000000000 := fun q hq => hl.l2 _ (List.mem_map_of_mem hq)
  have hm4 : k.hist.length ≤ 1000000000 := by have := hl.l4; simpa only [KX.dat, List.length_map] using this
  have hm5 : ∀ q ∈ k.hist, q.t.lim 1000000000 := fun q hq => hl.l5 _ (List.mem_map_of_mem hq)
  refine jC <| jE ?_
  refine jH rfl (jm (cs := [.slice k.a0 k.store.length k.c0, .slice k.a1 k.txs.length k.c1, .slice k.dk.a k.dk.l.length k.dk.c, str k.dk.jt, iv k.dk.js, iv k.seq, iv k.next, iv k.time, .slice k.a2 k.hist.length k.c2, .slice k.a3 k.seen.length k.c3, .bool k.room]) rfl rfl) ?_
  rintro _ _ ⟨b_12, rfl, rfl⟩
  refine jH rfl (kB (z := .agg #[.slice none 0 0, .slice none 0 0, .slice none 0 0, str [], iv 0, iv 0, iv 0, iv 0, .slice none 0 0, .slice none 0 0, .bool false]) (cs := [.slice none 0 0, .slice none 0 0, .slice none 0 0, str [], iv 0, iv 0, iv 0, iv 0, .slice none 0 0, .slice none 0 0, .bool false]) Tryz.zeroValue42 rfl) ?_
  rintro _ _ ⟨b_13, rfl, rfl⟩
  refine jD <| jB <| jC <| kG [bk b_13 42 [.slice none 0 0, .slice none 0 0, .slice none 0 0, str [], iv 0, iv 0, iv 0, iv 0, .slice none 0 0, .slice none 0 0, .bool false], bk b_12 42 [.slice k.a0 k.store.length k.c0, .slice k.a1 k.txs.length k.c1, .slice k.dk.a k.dk.l.length k.dk.c, str k.dk.jt, iv k.dk.js, iv k.seq, iv k.next, iv k.time, .slice k.a2 k.hist.length k.c2, .slice k.a3 k.seen.length k.c3, .bool k.room]] 12 mixed (by simp) <| jT 0 rfl (jI fo42_0 rfl) <| jw 1 rfl (jR 1 (v := .slice k.a0 k.store.length k.c0) rfl rfl kx rfl) <| jT 3 rfl (jI fo42_1 rfl) <| jw 4 rfl (jR 1 (v := .slice k.a1 k.txs.length k.c1) rfl rfl kw rfl) <| jT 6 rfl (jI fo42_2 rfl) <| jw 7 rfl (jg 1 (vs := [.slice k.dk.a k.dk.l.length k.dk.c, str k.dk.jt, iv k.dk.js]) rfl rfl kz kq rfl rfl) ?_
  refine jT 9 rfl (jI fo42_7 rfl) <| jw 10 rfl (jR 1 (v := .slice k.a3 k.seen.length k.c3) rfl rfl ka rfl) <| jq (i := 2) ?_
  refine kA rfl rfl (jU [] Tryz.call93 rfl (C_cloneC k.a0 k.c0 k.store (by omega)) rfl (fun w hw => hw.seeOut_ hs_1 nM)) ?_
  rintro _ _ ⟨_, ⟨a_28, c_29, rfl, rfl⟩, rfl⟩
  refine ⟨by simp, ?_⟩
  refine jT 12 rfl (jI fo42_0 rfl) <| jq (i := 5) ?_
  refine kA rfl rfl (jU [] Tryz.call94 rfl (Z_impltxsCopy k.a1 k.c1 k.txs (by omega) hm2) rfl (fun w hw => SeesA.cons (hw.seeOut_ hs_6 nM) (hw.seeOutA hi_7 nMA))) ?_
  rintro _ _ ⟨_, ⟨a_38, c_39, y_40, hy_41, rfl, rfl⟩, rfl⟩
  refine ⟨by simp, ?_⟩
  refine jq (i := 8) ?_
  refine kA rfl rfl (jU [] Tryz.call95 rfl (Z_implDiskclone k.dk hl.l3) rfl (fun w hw => hw.seeOutA hs_4 nMA)) ?_
  rintro _ _ ⟨_, ⟨y_44, hy_45, rfl, rfl⟩, rfl⟩
  refine ⟨by simp, ?_⟩
  refine jq (i := 11) ?_
  refine kA rfl rfl (jU [] Tryz.call96 rfl (C_cloneS k.a3 k.c3 k.seen (by omega)) rfl (fun w hw => hw.seeOut_ hs_2 nM)) ?_
  rintro _ _ ⟨_, ⟨a_48, c_49, rfl, rfl⟩, rfl⟩
  refine ⟨by simp, ?_⟩
  refine jq (i := 13) ?_
  refine JX.lt rfl (jd 5 (vs := [.slice a_28 k.store.length c_29]) (cs' := [.slice a_28 k.store.length c_29, .slice k.a1 k.txs.length k.c1, .slice k.dk.a k.dk.l.length k.dk.c, str k.dk.jt, iv k.dk.js, iv k.seq, iv k.next, iv k.time, .slice k.a2 k.hist.length k.c2, .slice k.a3 k.seen.length k.c3, .bool k.room]) rfl rfl rfl rfl Tryz.sizeOf34 rfl rfl (lb rfl) rfl) ?_
  rintro _ _ rfl
  refine jT 14 rfl (jI fo42_1 rfl) <| jq (i := 15) ?_
  refine JX.lt rfl (jd 5 (vs := [.slice a_38 y_40.length c_39]) (cs' := [.slice a_28 k.store.length c_29, .slice a_38 y_40.length c_39, .slice k.dk.a k.dk.l.length k.dk.c, str k.dk.jt, iv k.dk.js, iv k.seq, iv k.next, iv k.time, .slice k.a2 k.hist.length k.c2, .slice k.a3 k.seen.length k.c3, .bool k.room]) rfl rfl rfl rfl Tryz.sizeOf35 rfl rfl (lb rfl) rfl) ?_
  rintro _ _ rfl
  refine jT 16 rfl (jI fo42_2 rfl) <| jq (i := 17) ?_
  refine JX.lt rfl (jd 5 (vs := [.slice y_44.a y_44.l.length y_44.c, str y_44.jt, iv y_44.js]) (cs' := [.slice a_28 k.store.length c_29, .slice a_38 y_40.length c_39, .slice y_44.a y_44.l.length y_44.c, str y_44.jt, iv y_44.js, iv k.seq, iv k.next, iv k.time, .slice k.a2 k.hist.length k.c2, .slice k.a3 k.seen.length k.c3, .bool k.room]) rfl rfl rfl rfl kq rfl rfl (lb rfl) rfl) ?_
  rintro _ _ rfl
  refine jT 18 rfl (jI fo42_7 rfl) <| jq (i := 19) ?_
  refine JX.ls rfl (jd 5 (vs := [.slice a_48 k.seen.length c_49]) (cs' := [.slice a_28 k.store.length c_29, .slice a_38 y_40.length c_39, .slice y_44.a y_44.l.length y_44.c, str y_44.jt, iv y_44.js, iv k.seq, iv k.next, iv k.time, .slice k.a2 k.hist.length k.c2, .slice a_48 k.seen.length c_49, .bool k.room]) rfl rfl rfl rfl Tryz.sizeOf30 rfl rfl (lb rfl) rfl) ?_
  rintro _ _ rfl
  refine jB <| jC <| jE <| jA (jI fo42_6 rfl) <| jK (jR 5 (v := .slice k.a2 k.hist.length k.c2) rfl rfl Tryz.isAgg40 rfl) ?_
  refine jH rfl (jU [] Tryz.call97 rfl (Z_entriesCopy k.a2 k.c2 k.hist (by omega) hm5) rfl (fun w hw => SeesA.cons (hw.seeOut_ hs_10 nM) (hw.seeOutA hi_11 nMA))) ?_
  rintro _ _ ⟨_, ⟨a_50, c_51, y_52, hy_53, rfl, rfl⟩, rfl⟩
  refine jA (jI fo42_6 rfl) ?_
  refine jH rfl (jd 6 (vs := [.slice a_50 y_52.length c_51]) (cs' := [.slice a_28 k.store.length c_29, .slice a_38 y_40.length c_39, .slice y_44.a y_44.l.length y_44.c, str y_44.jt, iv y_44.js, iv k.seq, iv k.next, iv k.time, .slice a_50 y_52.length c_51, .slice a_48 k.seen.length c_49, .bool k.room]) rfl rfl rfl rfl Tryz.sizeOf40 rfl rfl (lb rfl) rfl) ?_
  rintro _ _ rfl
  refine jD <| jB <| jC <| jE <| jK (jg 6 (vs := [.slice a_28 k.store.length c_29, .slice a_38 y_40.length c_39, .slice y_44.a y_44.l.length y_44.c, str y_44.jt, iv y_44.js, iv k.seq, iv k.next, iv k.time, .slice a_50 y_52.length c_51, .slice a_48 k.seen.length c_49, .bool k.room]) rfl rfl kj kX rfl rfl) ?_
  refine jH rfl (jd 5 (vs := [.slice a_28 k.store.length c_29, .slice a_38 y_40.length c_39, .slice y_44.a y_44.l.length y_44.c, str y_44.jt, iv y_44.js, iv k.seq, iv k.next, iv k.time, .slice a_50 y_52.length c_51, .slice a_48 k.seen.length c_49, .bool k.room]) (cs' := [.slice a_28 k.store.length c_29, .slice a_38 y_40.length c_39, .slice y_44.a y_44.l.length y_44.c, str y_44.jt, iv y_44.js, iv k.seq, iv k.next, iv k.time, .slice a_50 y_52.length c_51, .slice a_48 k.seen.length c_49, .bool k.room]) rfl rfl rfl rfl kX rfl rfl (lb rfl) rfl) ?_
  rintro _ _ rfl
  refine jD <| jB <| jJ <| jv (L' := [Res.rows (rdsN (⟨a_28, c_29, k.store, a_38, c_39, y_40, y_44, k.seq, k.next, k.time, a_50, c_51, y_52, a_48, c_49, k.seen, k.room⟩ : KX)), bk b_13 42 [.slice a_28 k.store.length c_29, .slice a_38 y_40.length c_39, .slice y_44.a y_44.l.length y_44.c, str y_44.jt, iv y_44.js, iv k.seq, iv k.next, iv k.time, .slice a_50 y_52.length c_51, .slice a_48 k.seen.length c_49, .bool k.room], bk b_12 42 [.slice a_28 k.store.length c_29, .slice a_38 y_40.length c_39, .slice y_44.a y_44.l.length y_44.c, str y_44.jt, iv y_44.js, iv k.seq, iv k.next, iv k.time, .slice a_50 y_52.length c_51, .slice a_48 k.seen.length c_49, .bool k.room]]) (fun w hw => hw.gathN [4, 1, 2, 1, 0] rfl) <| jL (.inl rfl) rfl (kI (jg 1 (vs := [.slice a_28 k.store.length c_29, .slice a_38 y_40.length c_39, .slice y_44.a y_44.l.length y_44.c, str y_44.jt, iv y_44.js, iv k.seq, iv k.next, iv k.time, .slice a_50 y_52.length c_51, .slice a_48 k.seen.length c_49, .bool k.room]) rfl rfl kj kX rfl rfl) ⟨_, rfl⟩) (tS 1 _) ?_
  exact ⟨(⟨a_28, c_29, k.store, a_38, c_39, y_40, y_44, k.seq, k.next, k.time, a_50, c_51, y_52, a_48, c_49, k.seen, k.room⟩ : KX), by simp only [KX.dat, hy_41, hy_45, hy_53], rfl, rfl⟩

set_option maxRecDepth 4000 in
set_option maxHeartbeats 1000000 in
theorem Z_specl26Copy (k : KX) (hl : k.dat.lim 1000000000) :
    Ct Tryz.prog 32 [.agg #[.slice k.a0 k.store.length k.c0, .slice k.a1 k.txs.length k.c1, .slice k.dk.a k.dk.l.length k.dk.c, str k.dk.jt, .int .i64 k.dk.js, .int .i64 k.seq, .int .i64 k.next, .int .i64 k.time, .slice k.a2 k.hist.length k.c2, .slice k.a3 k.seen.length k.c3, .bool k.room]] [] (fun w => SeesA w (rdsN k)) (fun v A' => ∃ y : KX, y.dat = k.dat ∧ v = .agg #[.slice y.a0 y.store.length y.c0, .slice y.a1 y.txs.length y.c1, .slice y.dk.a y.dk.l.length y.dk.c, str y.dk.jt, .int .i64 y.dk.js, .int .i64 y.seq, .int .i64 y.next, .int .i64 y.time, .slice y.a2 y.hist.length y.c2, .slice y.a3 y.seen.length y.c3, .bool y.room] ∧ A' = [.rows (rdsN y)]) := by
  refine Ct.intro Tryz.func32 rfl Tryz.ntmps32 (lb rfl) fun w0 hpre => ?_
  obtain ⟨hs_1, hs_2, hs_3, hs_4, hs_5⟩ := seesN hpre
  have hs_6 : Sees w0 (.slice k.a1 k.txs.length k.c1) 10 k.txs.length (k.txs.flatMap encX) := (hs_3).head
  have hi_7 : SeesA w0 (k.txs.flatMap rdsX) := (hs_3).tail
  have hs_8 : Sees w0 (.slice k.dk.a k.dk.l.length k.dk.c) 3 k.dk.l.length (k.dk.l.flatMap encO) := (hs_4).head
  have hi_9 : SeesA w0 (k.dk.l.flatMap rdsO) := (hs_4).tail
  have hs_10 : Sees w0 (.slice k.a2 k.hist.length k.c2) 8 k.hist.length (k.hist.flatMap encE) := (hs_5).head
  have hi_11 : SeesA w0 (k.hist.flatMap rdsE) := (hs_5).tail
  have hm0 : k.store.length ≤ 1000000000 := hl.l0
  have hm6 : k.seen.length ≤ 1000000000 := hl.l6
  have hm1 : k.txs.length ≤ 1000000000 := by have := hl.l1; simpa only [KX.dat, List.length_map] using this
  have hm2 : ∀ q ∈ k.txs, q.t.lim 1000000000 := fun q hq => hl.l2 _ (List.mem_map_of_mem hq)
  have hm4 : k.hist.length ≤ 1000000000 := by have := hl.l4; simpa only [KX.dat, List.length_map] using this
  have hm5 : ∀ q ∈ k.hist, q.t.lim 1000000000 := fun q hq => hl.l5 _ (List.mem_map_of_mem hq)
  refine jC <| jE ?_
  refine jH rfl (jm (cs := [.slice k.a0 k.store.length k.c0, .slice k.a1 k.txs.length k.c1, .slice k.dk.a k.dk.l.length k.dk.c, str k.dk.jt, iv k.dk.js, iv k.seq, iv k.next, iv k.time, .slice k.a2 k.hist.length k.c2, .slice k.a3 k.seen.length k.c3, .bool k.room]) rfl rfl) ?_
  rintro _ _ ⟨b_12, rfl, rfl⟩
  refine jH rfl (kB (z := .agg #[.slice none 0 0, .slice none 0 0, .slice none 0 0, str [], iv 0, iv 0, iv 0, iv 0, .slice none 0 0, .slice none 0 0, .bool false]) (cs := [.slice none 0 0, .slice none 0 0, .slice none 0 0, str [], iv 0, iv 0, iv 0, iv 0, .slice none 0 0, .slice none 0 0, .bool false]) Tryz.zeroValue42 rfl) ?_
  rintro _ _ ⟨b_13, rfl, rfl⟩
  refine jD <| jB <| jC <| jE ?_
  refine jH rfl (kK (ps := []) (cur := #[]) kh kr Tryz.zeroValue131 rfl (by kernel_rfl) (by decide) (by decide)) ?_
  rintro _ _ ⟨a_14, rfl, rfl⟩
  refine jA (jI fo42_0 rfl) <| jK (jR 2 (v := .slice k.a0 k.store.length k.c0) rfl rfl kx rfl) ?_
  refine jH rfl (kN 0 (q := k.store.length) (news := k.store.flatMap encC) (n' := k.store.length) (cs' := k.store.flatMap encC) rfl kh kh Tryz.typeInfo131 rfl (by' := 32) rfl rfl rfl rfl rfl (fun w hw => Src.sees (hw.seeOut_ hs_1 nM) (oneC _)) (by (try simp only [LE]); omega) (by (try simp only [LE]); omega) (by (try simp only [List.length_take, List.length_drop]); first | rfl | omega) rfl) ?_
  rintro _ _ ⟨a_15, c_16, rfl, rfl⟩
  refine jA (jI fo42_0 rfl) ?_
  refine jH rfl (jd 2 (vs := [.slice a_15 k.store.length c_16]) (cs' := [.slice a_15 k.store.length c_16, .slice k.a1 k.txs.length k.c1, .slice k.dk.a k.dk.l.length k.dk.c, str k.dk.jt, iv k.dk.js, iv k.seq, iv k.next, iv k.time, .slice k.a2 k.hist.length k.c2, .slice k.a3 k.seen.length k.c3, .bool k.room]) rfl rfl rfl rfl Tryz.sizeOf34 rfl rfl (lb rfl) rfl) ?_
  rintro _ _ rfl
  refine jD <| jB <| jC <| jE <| jA (jI fo42_1 rfl) <| jK (jR 2 (v := .slice k.a1 k.txs.length k.c1) rfl rfl kw rfl) ?_
  refine jH rfl (jU [] Tryz.call86 rfl (Z_specl19Copy k.a1 k.c1 k.txs (by omega) hm2) rfl (fun w hw => SeesA.cons (hw.seeOut_ hs_6 nM) (hw.seeOutA hi_7 nMA))) ?_
  rintro _ _ ⟨_, ⟨a_17, c_18, y_19, hy_20, rfl, rfl⟩, rfl⟩
  refine jA (jI fo42_1 rfl) ?_
  refine jH rfl (jd 3 (vs := [.slice a_17 y_19.length c_18]) (cs' := [.slice a_15 k.store.length c_16, .slice a_17 y_19.length c_18, .slice k.dk.a k.dk.l.length k.dk.c, str k.dk.jt, iv k.dk.js, iv k.seq, iv k.next, iv k.time, .slice k.a2 k.hist.length k.c2, .slice k.a3 k.seen.length k.c3, .bool k.room]) rfl rfl rfl rfl Tryz.sizeOf35 rfl rfl (lb rfl) rfl) ?_
  rintro _ _ rfl
  refine jD <| jB <| jC <| jE <| jA (jI fo42_2 rfl) <| jK (jg 3 (vs := [.slice k.dk.a k.dk.l.length k.dk.c, str k.dk.jt, iv k.dk.js]) rfl rfl kz kq rfl rfl) ?_
  refine jH rfl (jU [] Tryz.call87 rfl (Z_specl23Copy k.dk hl.l3) rfl (fun w hw => hw.seeOutA hs_4 nMA)) ?_
  rintro _ _ ⟨_, ⟨y_21, hy_22, rfl, rfl⟩, rfl⟩
  refine jA (jI fo42_2 rfl) ?_
  refine jH rfl (jd 4 (vs := [.slice y_21.a y_21.l.length y_21.c, str y_21.jt, iv y_21.js]) (cs' := [.slice a_15 k.store.length c_16, .slice a_17 y_19.length c_18, .slice y_21.a y_21.l.length y_21.c, str y_21.jt, iv y_21.js, iv k.seq, iv k.next, iv k.time, .slice k.a2 k.hist.length k.c2, .slice k.a3 k.seen.length k.c3, .bool k.room]) rfl rfl rfl rfl kq rfl rfl (lb rfl) rfl) ?_
  rintro _ _ rfl
  refine jD <| jB <| jC <| jE ?_
  refine jH rfl (kK (ps := []) (cur := #[]) kc kf Tryz.zeroValue129 rfl (by kernel_rfl) (by decide) (by decide)) ?_
  rintro _ _ ⟨a_23, rfl, rfl⟩
  refine jA (jG (v := .slice a_23 0 0) rfl) <| jD <| jB <| jC <| jC <| jE <| jA (jG (v := iv 0) rfl) <| jD <| jB <| jZ ?_
  refine kP (L' := [Res.rows (([] : List EX).flatMap rdsE), Res.row (.slice a_23 0 0) 129 8 0 (([] : List EX).flatMap encE), Res.rows (rdsD y_21), Res.rows (rdsXS a_17 c_18 y_19), rC a_15 c_16 k.store, bk b_13 42 [.slice none 0 0, .slice none 0 0, .slice none 0 0, str [], iv 0, iv 0, iv 0, iv 0, .slice none 0 0, .slice none 0 0, .bool false], bk b_12 42 [.slice a_15 k.store.length c_16, .slice a_17 y_19.length c_18, .slice y_21.a y_21.l.length y_21.c, str y_21.jt, iv y_21.js, iv k.seq, iv k.next, iv k.time, .slice k.a2 k.hist.length k.c2, .slice k.a3 k.seen.length k.c3, .bool k.room]]) (fun w hw => hw.nilR (α := EX) (f := rdsE) [0] (B := [Res.row (.slice a_23 0 0) 129 8 0 (([] : List EX).flatMap encE)]) (F := [Res.rows (rdsD y_21), Res.rows (rdsXS a_17 c_18 y_19), rC a_15 c_16 k.store, bk b_13 42 [.slice none 0 0, .slice none 0 0, .slice none 0 0, str [], iv 0, iv 0, iv 0, iv 0, .slice none 0 0, .slice none 0 0, .bool false], bk b_12 42 [.slice a_15 k.store.length c_16, .slice a_17 y_19.length c_18, .slice y_21.a y_21.l.length y_21.c, str y_21.jt, iv y_21.js, iv k.seq, iv k.next, iv k.time, .slice k.a2 k.hist.length k.c2, .slice k.a3 k.seen.length k.c3, .bool k.room]]) rfl) <| jp (fun k_ e_ L_ => ∃ j : Nat, ∃ ya : Option Addr, ∃ yc : Nat, ∃ y : List EX, (j ≤ k.hist.length) ∧ (y.map EX.t = (k.hist.take j).map EX.t) ∧ (y.length = j) ∧ e_ 1 = .pointer (some ⟨b_12, 0, none⟩) ∧ e_ 2 = .pointer (some ⟨b_13, 0, none⟩) ∧ e_ 3 = .slice ya y.length yc ∧ e_ 4 = nv j ∧ L_ = [Res.rows (y.flatMap rdsE), Res.row (.slice ya y.length yc) 129 8 y.length (y.flatMap encE), Res.rows (rdsD y_21), Res.rows (rdsXS a_17 c_18 y_19), rC a_15 c_16 k.store, bk b_13 42 [.slice none 0 0, .slice none 0 0, .slice none 0 0, str [], iv 0, iv 0, iv 0, iv 0, .slice none 0 0, .slice none 0 0, .bool false], bk b_12 42 [.slice a_15 k.store.length c_16, .slice a_17 y_19.length c_18, .slice y_21.a y_21.l.length y_21.c, str y_21.jt, iv y_21.js, iv k.seq, iv k.next, iv k.time, .slice k.a2 k.hist.length k.c2, .slice k.a3 k.seen.length k.c3, .bool k.room]] ∧ k_ = k.hist.length - j) _ ⟨0, a_23, 0, [], by omega, rfl, rfl, rfl, rfl, rfl, rfl, rfl, rfl⟩ ?_
  rintro _ e_24 _ ⟨j, ya, yc, y, hj, hd, hyl, he_25, he_26, he_27, he_28, rfl, rfl⟩
  refine jC <| jC <| jE <| jA (jF (v := nv j) he_28) <| jA (jI fo42_6 he_25) <| jK (jR 6 (v := .slice k.a2 k.hist.length k.c2) rfl rfl Tryz.isAgg40 rfl) <| jA (jf kc rfl) <| jA (jc rfl rfl) <| jD <| jB ?_
  by_cases h_29 : ((j : Nat) : Int) < ((k.hist.length : Nat) : Int)
  · have hlt : j < k.hist.length := by omega
    refine jS (cB (dT h_29)) <| jQ <| jB <| jC <| jZ <| jE <| jA (jF (v := .slice ya y.length yc) he_27) <| jA (jI fo42_6 he_25) <| jK (jR 6 (v := .slice k.a2 k.hist.length k.c2) rfl rfl Tryz.isAgg40 rfl) <| jA (jF (v := nv j) he_28) ?_
    obtain ⟨hr_30, hr_30b, -⟩ := sees_some hs_10 (by omega)
    refine jA (jX (i := j) kc kf hr_30 hr_30b rfl rfl (by omega)) ?_
    have hi_31 := SeesA.elem hi_11 e0 (show j < k.hist.length by omega)
    obtain ⟨hs_32, hs_33⟩ := seesE hi_31
    refine jK (kF (vs := [iv ((k.hist.getD j e0).t.seq), iv ((k.hist.getD j e0).t.kind), iv ((k.hist.getD j e0).t.tx), .slice ((k.hist.getD j e0).x.a0) ((k.hist.getD j e0).t.steps.length) ((k.hist.getD j e0).x.c0), .slice ((k.hist.getD j e0).x.a1) ((k.hist.getD j e0).t.ans.length) ((k.hist.getD j e0).x.c1), iv ((k.hist.getD j e0).t.began), iv ((k.hist.getD j e0).t.ended), .bool ((k.hist.getD j e0).t.laid)]) hs_10 nM rfl Tryz.isAgg129 kf (flat_take encE_len e0 k.hist j (by omega)) rfl (by decide)) ?_
    refine jH rfl (jU [] Tryz.call88 rfl (Z_specl26Entry (k.hist.getD j e0) (hm5 _ (getD_mem (show j < k.hist.length by omega)))) rfl (fun w hw => hw.seeOutA hi_31 nMA)) ?_
    rintro _ _ ⟨_, ⟨y_34, hy_35, rfl, rfl⟩, rfl⟩
    refine jH rfl (kK (ps := [(0, .agg #[iv y_34.t.seq, iv y_34.t.kind, iv y_34.t.tx, .slice y_34.x.a0 y_34.t.steps.length y_34.x.c0, .slice y_34.x.a1 y_34.t.ans.length y_34.x.c1, iv y_34.t.began, iv y_34.t.ended, .bool y_34.t.laid])]) (cur := #[iv y_34.t.seq, iv y_34.t.kind, iv y_34.t.tx, .slice y_34.x.a0 y_34.t.steps.length y_34.x.c0, .slice y_34.x.a1 y_34.t.ans.length y_34.x.c1, iv y_34.t.began, iv y_34.t.ended, .bool y_34.t.laid]) kc kf Tryz.zeroValue129 rfl (by kernel_rfl) (by decide) (by decide)) ?_
    rintro _ _ ⟨a_36, rfl, rfl⟩
    refine jH rfl (kN 3 (q := 1) (news := ([y_34] : List EX).flatMap encE) (n' := (y ++ ([y_34] : List EX)).length) (cs' := (y ++ ([y_34] : List EX)).flatMap encE) rfl kc kc Tryz.typeInfo129 rfl (by' := 96) rfl rfl rfl rfl rfl (fun w hw => Src.sees (hw.see (i := 0) rfl) (oneE _)) (by (try simp only [LE]); omega) (by (try simp only [LE]); omega) (by simp only [List.length_append, List.length_take, List.length_drop, List.length_cons, List.length_nil] <;> first | rfl | omega) (by simp only [List.flatMap_append])) ?_
    rintro _ _ ⟨a_37, c_38, rfl, rfl⟩
    refine jA (jG (v := .slice a_37 ((y ++ ([y_34] : List EX)).length) c_38) rfl) <| jD <| jk <| jB <| jE <| jA (jF (v := nv j) he_28) <| jA (ja (c := ((j + 1 : Nat) : Int)) rfl rfl (wr (by omega))) <| jA (jG (v := iv ((j + 1 : Nat) : Int)) rfl) <| jD <| jv (L' := [Res.rows ((y ++ [y_34]).flatMap rdsE), Res.row (.slice a_36 1 1) 129 8 1 (([y_34] : List EX).flatMap encE), Res.row (.slice a_37 ((y ++ ([y_34] : List EX)).length) c_38) 129 8 ((y ++ ([y_34] : List EX)).length) ((y ++ ([y_34] : List EX)).flatMap encE), Res.rows (rdsD y_21), Res.rows (rdsXS a_17 c_18 y_19), rC a_15 c_16 k.store, bk b_13 42 [.slice none 0 0, .slice none 0 0, .slice none 0 0, str [], iv 0, iv 0, iv 0, iv 0, .slice none 0 0, .slice none 0 0, .bool false], bk b_12 42 [.slice a_15 k.store.length c_16, .slice a_17 y_19.length c_18, .slice y_21.a y_21.l.length y_21.c, str y_21.jt, iv y_21.js, iv k.seq, iv k.next, iv k.time, .slice k.a2 k.hist.length k.c2, .slice k.a3 k.seen.length k.c3, .bool k.room]]) (fun w hw => hw.addR [2, 1] rfl flatMap_snoc) ?_
    refine kL [0, 1, 1, 1, 1, 1, 1] (A := [Res.rows ((y ++ [y_34]).flatMap rdsE), Res.row (.slice a_37 ((y ++ ([y_34] : List EX)).length) c_38) 129 8 ((y ++ [y_34]).length) ((y ++ [y_34]).flatMap encE), Res.rows (rdsD y_21), Res.rows (rdsXS a_17 c_18 y_19), rC a_15 c_16 k.store, bk b_13 42 [.slice none 0 0, .slice none 0 0, .slice none 0 0, str [], iv 0, iv 0, iv 0, iv 0, .slice none 0 0, .slice none 0 0, .bool false], bk b_12 42 [.slice a_15 k.store.length c_16, .slice a_17 y_19.length c_18, .slice y_21.a y_21.l.length y_21.c, str y_21.jt, iv y_21.js, iv k.seq, iv k.next, iv k.time, .slice k.a2 k.hist.length k.c2, .slice k.a3 k.seen.length k.c3, .bool k.room]]) rfl ?_
    refine jl (k.hist.length - (j + 1)) (by omega) ⟨j + 1, a_37, c_38, (y ++ [y_34]), by omega, (map_take_succ e0 hd hlt hy_35), (by rw [List.length_append, hyl]; rfl), he_25, he_26, rfl, rfl, rfl, rfl⟩
  refine jP (cB (dF h_29)) <| jn <| jb <| jb <| jo <| jB <| jC <| jE <| jA (jF (v := .slice ya y.length yc) he_27) <| jA (jI fo42_6 he_25) ?_
  refine jH rfl (jd 6 (vs := [.slice ya y.length yc]) (cs' := [.slice a_15 k.store.length c_16, .slice a_17 y_19.length c_18, .slice y_21.a y_21.l.length y_21.c, str y_21.jt, iv y_21.js, iv k.seq, iv k.next, iv k.time, .slice ya y.length yc, .slice k.a3 k.seen.length k.c3, .bool k.room]) rfl rfl rfl rfl Tryz.sizeOf40 rfl rfl (lb rfl) rfl) ?_
  rintro _ _ rfl
  refine jD <| jB <| jC <| jE ?_
  refine jH rfl (kK (ps := []) (cur := #[]) kV kZ Tryz.zeroValue9 rfl (by kernel_rfl) (by decide) (by decide)) ?_
  rintro _ _ ⟨a_39, rfl, rfl⟩
  refine jA (jI fo42_7 he_25) <| jK (jR 7 (v := .slice k.a3 k.seen.length k.c3) rfl rfl ka rfl) ?_
  refine jH rfl (kN 0 (q := k.seen.length) (news := k.seen.map str) (n' := k.seen.length) (cs' := k.seen.map str) rfl kV kV Tryz.typeInfo9 rfl (by' := 16) rfl rfl rfl rfl rfl (fun w hw => Src.sees (hw.seeOut_ hs_2 nM) (oneS _)) (by (try simp only [LE]); omega) (by (try simp only [LE]); omega) (by (try simp only [List.length_take, List.length_drop]); first | rfl | omega) rfl) ?_
  rintro _ _ ⟨a_40, c_41, rfl, rfl⟩
  refine jA (jI fo42_7 he_25) ?_
  refine jH rfl (jd 7 (vs := [.slice a_40 k.seen.length c_41]) (cs' := [.slice a_15 k.store.length c_16, .slice a_17 y_19.length c_18, .slice y_21.a y_21.l.length y_21.c, str y_21.jt, iv y_21.js, iv k.seq, iv k.next, iv k.time, .slice ya y.length yc, .slice a_40 k.seen.length c_41, .bool k.room]) rfl rfl rfl rfl Tryz.sizeOf30 rfl rfl (lb rfl) rfl) ?_
  rintro _ _ rfl
  refine jD <| jB <| jC <| jE <| jK (jg 7 (vs := [.slice a_15 k.store.length c_16, .slice a_17 y_19.length c_18, .slice y_21.a y_21.l.length y_21.c, str y_21.jt, iv y_21.js, iv k.seq, iv k.next, iv k.time, .slice ya y.length yc, .slice a_40 k.seen.length c_41, .bool k.room]) rfl he_25 kj kX rfl rfl) ?_
  refine jH rfl (jd 6 (vs := [.slice a_15 k.store.length c_16, .slice a_17 y_19.length c_18, .slice y_21.a y_21.l.length y_21.c, str y_21.jt, iv y_21.js, iv k.seq, iv k.next, iv k.time, .slice ya y.length yc, .slice a_40 k.seen.length c_41, .bool k.room]) (cs' := [.slice a_15 k.store.length c_16, .slice a_17 y_19.length c_18, .slice y_21.a y_21.l.length y_21.c, str y_21.jt, iv y_21.js, iv k.seq, iv k.next, iv k.time, .slice ya y.length yc, .slice a_40 k.seen.length c_41, .bool k.room]) rfl he_26 rfl rfl kX rfl rfl (lb rfl) rfl) ?_
  rintro _ _ rfl
  refine jD <| jB <| jJ <| jv (L' := [Res.rows (rdsES ya yc y), rS a_40 c_41 k.seen, Res.rows (rdsD y_21), Res.rows (rdsXS a_17 c_18 y_19), rC a_15 c_16 k.store, bk b_13 42 [.slice a_15 k.store.length c_16, .slice a_17 y_19.length c_18, .slice y_21.a y_21.l.length y_21.c, str y_21.jt, iv y_21.js, iv k.seq, iv k.next, iv k.time, .slice ya y.length yc, .slice a_40 k.seen.length c_41, .bool k.room], bk b_12 42 [.slice a_15 k.store.length c_16, .slice a_17 y_19.length c_18, .slice y_21.a y_21.l.length y_21.c, str y_21.jt, iv y_21.js, iv k.seq, iv k.next, iv k.time, .slice ya y.length yc, .slice a_40 k.seen.length c_41, .bool k.room]]) (fun w hw => hw.consR (r := ⟨.slice ya y.length yc, 129, 8, y.length, y.flatMap encE⟩) (A := y.flatMap rdsE) [2, 1] rfl) <| jv (L' := [Res.rows (rdsN (⟨a_15, c_16, k.store, a_17, c_18, y_19, y_21, k.seq, k.next, k.time, ya, yc, y, a_40, c_41, k.seen, k.room⟩ : KX)), bk b_13 42 [.slice a_15 k.store.length c_16, .slice a_17 y_19.length c_18, .slice y_21.a y_21.l.length y_21.c, str y_21.jt, iv y_21.js, iv k.seq, iv k.next, iv k.time, .slice ya y.length yc, .slice a_40 k.seen.length c_41, .bool k.room], bk b_12 42 [.slice a_15 k.store.length c_16, .slice a_17 y_19.length c_18, .slice y_21.a y_21.l.length y_21.c, str y_21.jt, iv y_21.js, iv k.seq, iv k.next, iv k.time, .slice ya y.length yc, .slice a_40 k.seen.length c_41, .bool k.room]]) (fun w hw => hw.gathN [4, 1, 2, 1, 0] rfl) <| jL (.inl rfl) rfl (kI (jg 1 (vs := [.slice a_15 k.store.length c_16, .slice a_17 y_19.length c_18, .slice y_21.a y_21.l.length y_21.c, str y_21.jt, iv y_21.js, iv k.seq, iv k.next, iv k.time, .slice ya y.length yc, .slice a_40 k.seen.length c_41, .bool k.room]) rfl he_26 kj kX rfl rfl) ⟨_, he_26⟩) (tS 1 _) ?_
  have hda := map_all hd (show k.hist.length ≤ j by omega)
  exact ⟨(⟨a_15, c_16, k.store, a_17, c_18, y_19, y_21, k.seq, k.next, k.time, ya, yc, y, a_40, c_41, k.seen, k.room⟩ : KX), by simp only [KX.dat, hy_20, hy_22, hda], rfl, rfl⟩

end Go.Proofs.YtkmpmjficoohkaaGreat

set_option linter.unusedSimpArgs false
set_option linter.unusedVariables false
set_option linter.unnecessarySimpa false
namespace Go.Proofs.YtkmpmjficoohkaaGreat
open Go Go.RowKit
/-- The place of the first of which P says yes, or -1. -/
def idxT (P : TD → Prop) [DecidablePred P] (l : List TD) : Int := idxI (fun t => decide (P t)) l
abbrev findT (l : List TD) (id : Int) : Int := idxT (fun t => t.id = id) l
abbrev liveT (l : List TD) (id : Int) : Int := idxT (fun t => t.id = id ∧ t.state = 1) l
theorem findAt_map {α β : Type} {f : α → β} {p : β → Bool} : ∀ l : List α, findAt p (l.map f) = findAt (fun x => p (f x)) l
  | [] => rfl
  | x :: l => by simp only [List.map_cons, findAt, findAt_map l]
theorem idxT_none {P : TD → Prop} [DecidablePred P] {l : List TX} {j : Nat} (hj : l.length ≤ j) (hN : ∀ i, i < j → ¬ P (l.getD i x0).t) : idxT P (l.map TX.t) = -1 := by
  have := idxI_none (p := fun x : TX => decide (P x.t)) x0 hj (fun i hi => decide_eq_false (hN i hi))
  unfold idxT idxI at *
  rw [findAt_map, List.length_map]
  exact this
theorem idxT_found {P : TD → Prop} [DecidablePred P] {l : List TX} {j : Nat} (hj : j < l.length) (hN : ∀ i, i < j → ¬ P (l.getD i x0).t) (h : P (l.getD j x0).t) : idxT P (l.map TX.t) = ((j : Nat) : Int) := by
  have := idxI_found (p := fun x : TX => decide (P x.t)) x0 hj (fun i hi => decide_eq_false (hN i hi)) (decide_eq_true h)
  unfold idxT idxI at *
  rw [findAt_map, List.length_map]
  exact this
theorem idxT_lo (P : TD → Prop) [DecidablePred P] (l : List TD) : -1 ≤ idxT P l ∧ idxT P l < ((l.length : Nat) : Int) := by
  unfold idxT
  rcases idxI_lo (fun t => decide (P t)) l with ⟨h, _⟩ | ⟨h, h2⟩ <;> rw [h] <;> omega
theorem idxT_lt {P : TD → Prop} [DecidablePred P] {l : List TX} {n : Nat} (h : idxT P (l.map TX.t) = ((n : Nat) : Int)) : n < l.length := by
  have := idxT_lo P (l.map TX.t)
  rw [h, List.length_map] at this
  omega
theorem KX.txs_len {y k : KX} (h : y.dat = k.dat) : y.txs.length = k.txs.length := by
  have e := congrArg (fun d : KD => d.txs.length) h
  simpa only [KX.dat, List.length_map] using e
def KD.setTx (k : KD) (n : Nat) (t : TD) : KD := { k with txs := k.txs.set n t }
def KD.withT (k : KD) (t : TD) : KD := if 0 ≤ findT k.txs t.id then k.setTx (findT k.txs t.id).toNat t else k
theorem KD.withT_pos {k : KD} {t : TD} {n : Nat} (h : findT k.txs t.id = ((n : Nat) : Int)) : k.withT t = k.setTx n t := by
  unfold KD.withT
  rw [h, if_pos (by omega), Int.toNat_natCast]
theorem KD.withT_neg {k : KD} {t : TD} (h : ¬ 0 ≤ findT k.txs t.id) : k.withT t = k := if_neg h
theorem mem_setT {α : Type} {l : List α} {n : Nat} {x y : α} (h : y ∈ l.set n x) : y ∈ l ∨ y = x := List.mem_or_eq_of_mem_set h
theorem KD.setTx_lim {k : KD} {n m : Nat} {t : TD} (h : k.lim m) (ht : t.lim m) : (k.setTx n t).lim m := ⟨h.l0, by simpa only [KD.setTx, List.length_set] using h.l1, fun y hy => by
  rcases mem_setT hy with hy | rfl
  · exact h.l2 y hy
  · exact ht, h.l3, h.l4, h.l5, h.l6⟩
theorem cntV_set {α : Type} {ct : α → Nat} : ∀ (l : List α) (n : Nat) (x : α), cntV ct (l.set n x) ≤ cntV ct l + ct x
  | [], n, x => by simp [cntV]
  | y :: l, 0, x => by simp only [List.set_cons_zero, cntV]; omega
  | y :: l, n + 1, x => by have := cntV_set l n x (ct := ct); simp only [List.set_cons_succ, cntV]; omega
theorem KD.setTx_cnt (k : KD) (n : Nat) (t : TD) : (k.setTx n t).cnt ≤ k.cnt + cntXd t := by
  have := cntV_set (ct := cntXd) k.txs n t
  simp only [KD.setTx, KD.cnt]
  omega
theorem KD.withT_lim {k : KD} {m : Nat} {t : TD} (h : k.lim m) (ht : t.lim m) : (k.withT t).lim m := by
  unfold KD.withT
  split
  · exact KD.setTx_lim h ht
  · exact h
theorem KD.withT_cnt (k : KD) (t : TD) : (k.withT t).cnt ≤ k.cnt + cntXd t := by
  unfold KD.withT
  split
  · exact KD.setTx_cnt _ _ _
  · omega
theorem map_setT {l : List TX} {n : Nat} {x : TX} : (l.set n x).map TX.t = (l.map TX.t).set n x.t := List.map_set
end Go.Proofs.YtkmpmjficoohkaaGreat

set_option linter.unusedSimpArgs false
set_option linter.unusedVariables false
set_option linter.unnecessarySimpa false
namespace Go.Proofs.YtkmpmjficoohkaaGreat
open Go Go.RowKit
attribute [local irreducible] JL JC JQ JO LO PO JA JX Ct

theorem N_findT1 (q : TX) (kb : Nat) (id : Int) :
    Ct Tryz.prog 115 [.agg #[.int .i64 q.t.id, .int .i64 q.t.age, .int .i64 q.t.proc, .int .i64 q.t.began, .slice q.x.a0 q.t.calls.length q.x.c0, .slice q.x.a1 q.t.ans.length q.x.c1, .slice q.x.a2 q.t.rd.length q.x.c2, .slice q.x.a3 q.t.wr.length q.x.c3, .slice q.x.a4 q.t.marks.length q.x.c4, .int .i64 q.t.state], .pointer (some ⟨kb, 0, none⟩)] [bk kb 3 [.int .i64 id]] (fun _ => True) (fun v A' => v = .bool (decide (q.t.id = id)) ∧ A' = [bk kb 3 [.int .i64 id]]) := by
  refine Ct.intro Tryz.func115 rfl Tryz.ntmps115 (lb rfl) fun w0 hpre => ?_
  refine jC <| jE ?_
  refine jH rfl (jm (cs := [iv q.t.id, iv q.t.age, iv q.t.proc, iv q.t.began, .slice q.x.a0 q.t.calls.length q.x.c0, .slice q.x.a1 q.t.ans.length q.x.c1, .slice q.x.a2 q.t.rd.length q.x.c2, .slice q.x.a3 q.t.wr.length q.x.c3, .slice q.x.a4 q.t.marks.length q.x.c4, iv q.t.state]) rfl rfl) ?_
  rintro _ _ ⟨b_1, rfl, rfl⟩
  refine jA (jG (v := .bool false) rfl) <| jD <| jB <| jC <| jE <| jA (jI fo61_0 rfl) <| jK (jR 0 (v := iv q.t.id) rfl rfl kR rfl) <| jK (jR 1 (v := iv id) rfl rfl kR rfl) <| jA (PO.eqlI rfl rfl) <| jA (jG (v := .bool (decide (q.t.id = id))) rfl) ?_
  refine jD <| jB <| jJ <| JQ.perm (pick_perm [1] (A := [bk kb 3 [iv id]]) (F := [bk b_1 61 [iv q.t.id, iv q.t.age, iv q.t.proc, iv q.t.began, .slice q.x.a0 q.t.calls.length q.x.c0, .slice q.x.a1 q.t.ans.length q.x.c1, .slice q.x.a2 q.t.rd.length q.x.c2, .slice q.x.a3 q.t.wr.length q.x.c3, .slice q.x.a4 q.t.marks.length q.x.c4, iv q.t.state]]) rfl).symm <| jL (.inl rfl) rfl (jM (v := .bool (decide (q.t.id = id))) rfl) (tS 1 _) ?_
  exact ⟨rfl, rfl⟩

theorem C_ixfindT (a : Option Addr) (c : Nat) (l : List TX) (hn : l.length ≤ 1000000000000) (kb : Nat) (id : Int) :
    Ct Tryz.prog 114 [.slice a l.length c, .func (.func 115) #[] #[.pointer (some ⟨kb, 0, none⟩)]] [bk kb 3 [.int .i64 id]] (fun w_ => Sees w_ (.slice a l.length c) 10 l.length (l.flatMap encX) ∧ (∀ b, (Value.slice a l.length c).ownBlock = some b → b ≠ kb)) (fun v A' => v = .int .i64 (findT (l.map TX.t) id) ∧ A' = [bk kb 3 [.int .i64 id]]) := by
  refine Ct.intro Tryz.func114 rfl Tryz.ntmps114 (lb rfl) fun w0 hpre => ?_
  refine jC <| jE <| jA (jG (v := iv 0) rfl) <| jD <| jB <| jC <| jC <| jE <| jA (jF (v := .slice a l.length c) rfl) <| jA (jf kU rfl) ?_
  refine jA (jF (v := iv 0) rfl) <| jD <| jB <| jZ <| jp (fun k_ e_ L_ => ∃ j : Nat, (j ≤ l.length) ∧ (∀ i, i < j → ¬ ((l.getD i x0).t.id = id)) ∧ e_ 0 = .slice a l.length c ∧ e_ 1 = .func (.func 115) #[] #[.pointer (some ⟨kb, 0, none⟩)] ∧ e_ 7 = nv l.length ∧ e_ 8 = nv j ∧ L_ = [bk kb 3 [iv id]] ∧ k_ = l.length - j) _ ⟨0, by omega, (fun i hi => absurd hi (Nat.not_lt_zero i)), rfl, rfl, rfl, rfl, rfl, rfl⟩ ?_
  rintro _ e_1 _ ⟨j, hj, hN, he_2, he_3, he_4, he_5, rfl, rfl⟩
  refine jC <| jE <| jA (jc he_5 he_4) <| jD <| jB <| jC ?_
  by_cases h_6 : ((j : Nat) : Int) < ((l.length : Nat) : Int)
  · have hlt : j < l.length := by omega
    refine jS (cB (dT h_6)) <| jQ <| jB <| jC <| jZ <| jC <| jE <| jA (jF (v := nv j) he_5) <| jA (jG (v := nv j) rfl) <| jD ?_
    refine jB <| jC <| jE <| jA (jF (v := .func (.func 115) #[] #[.pointer (some ⟨kb, 0, none⟩)]) he_3) <| jA (jF (v := .slice a l.length c) he_2) <| jA (jF (v := nv j) rfl) ?_
    obtain ⟨hr_7, hr_7b, -⟩ := sees_some hpre.1 (by omega)
    refine jA (jX (i := j) kU kS hr_7 hr_7b rfl rfl (by omega)) <| jK (kF (vs := [iv ((l.getD j x0).t.id), iv ((l.getD j x0).t.age), iv ((l.getD j x0).t.proc), iv ((l.getD j x0).t.began), .slice ((l.getD j x0).x.a0) ((l.getD j x0).t.calls.length) ((l.getD j x0).x.c0), .slice ((l.getD j x0).x.a1) ((l.getD j x0).t.ans.length) ((l.getD j x0).x.c1), .slice ((l.getD j x0).x.a2) ((l.getD j x0).t.rd.length) ((l.getD j x0).x.c2), .slice ((l.getD j x0).x.a3) ((l.getD j x0).t.wr.length) ((l.getD j x0).x.c3), .slice ((l.getD j x0).x.a4) ((l.getD j x0).t.marks.length) ((l.getD j x0).x.c4), iv ((l.getD j x0).t.state)]) hpre.1 (notin_bk hpre.2) rfl kg kS (flat_take encX_len x0 l j (by omega)) rfl (by decide)) ?_
    refine jH rfl (JO.callV [0] Tryz.call115 rfl (N_findT1 (l.getD j x0) kb id) rfl rfl (fun _ _ => trivial)) ?_
    rintro _ _ ⟨_, ⟨rfl, rfl⟩, rfl⟩
    refine jD <| jB ?_
    by_cases h_8 : (l.getD j x0).t.id = id
    · have hpj := h_8
      refine jS (cB (dT h_8)) <| jC <| jE <| jA (jF (v := nv j) rfl) <| jA (jG (v := nv j) rfl) <| jD <| jB <| jJ <| je <| jO ?_
      refine jO <| je <| jO <| jL (.inl rfl) rfl (jM (v := nv j) rfl) (List.Sublist.refl _) ?_
      refine ⟨congrArg (Value.int .i64) ?_, rfl⟩
      exact (idxT_found (P := fun t => t.id = id) hlt hN hpj).symm
    have hpj := h_8
    refine jP (cB (dF h_8)) <| jQ <| jk <| jB <| jE <| jA (ja (c := ((j + 1 : Nat) : Int)) he_5 rfl (wr (by omega))) <| jA (jF (v := iv ((j + 1 : Nat) : Int)) rfl) <| jD ?_
    refine jl (l.length - (j + 1)) (by omega) ⟨j + 1, by omega, (fun i hi => if h : i = j then h ▸ hpj else hN i (by omega)), he_2, he_3, he_4, rfl, rfl, rfl⟩
  refine jP (cB (dF h_6)) <| jn <| jb <| jb <| jo <| jB <| jC <| jE <| jA (jG (v := iv (-1)) rfl) <| jD ?_
  refine jB <| jJ <| jL (.inl rfl) rfl (jM (v := iv (-1)) rfl) (List.Sublist.refl _) ?_
  refine ⟨congrArg (Value.int .i64) ?_, rfl⟩
  exact (idxT_none (P := fun t => t.id = id) (by omega) hN).symm

theorem N_iFindTx (a : Option Addr) (c : Nat) (l : List TX) (hn : l.length ≤ 1000000000) (id : Int) :
    Ct Tryz.prog 64 [.slice a l.length c, .int .i64 id] [] (fun w_ => Sees w_ (.slice a l.length c) 10 l.length (l.flatMap encX)) (fun v A' => v = .int .i64 (findT (l.map TX.t) id) ∧ A' = []) := by
  refine Ct.intro Tryz.func64 rfl Tryz.ntmps64 (lb rfl) fun w0 hpre => ?_
  refine jC <| jE ?_
  refine jH rfl (jm (cs := [iv id]) rfl rfl) ?_
  rintro _ _ ⟨b_1, rfl, rfl⟩
  refine jA (jG (v := iv 0) rfl) <| jD <| jB <| jC <| jE <| jA (jF (v := .slice a l.length c) rfl) <| jA (PO.makeFunc (fv := []) (cv := [.pointer (some ⟨b_1, 0, none⟩)]) rfl rfl) ?_
  refine jH rfl (jU [0] Tryz.call114 rfl (C_ixfindT a c l (by omega) b_1 id) rfl (fun w hw => ⟨hw.seeOut_ hpre nM, hw.apartF 0 hpre rfl List.not_mem_nil⟩)) ?_
  rintro _ _ ⟨_, ⟨rfl, rfl⟩, rfl⟩
  have hlo_2 := idxT_lo (fun t => t.id = id) (l.map TX.t)
  refine jA (jG (v := iv (findT (l.map TX.t) id)) rfl) <| jD <| jB <| jJ <| jL (.inl rfl) rfl (jM (v := iv (findT (l.map TX.t) id)) rfl) (List.nil_sublist _) ?_
  exact ⟨rfl, rfl⟩

theorem N_sFindTx (a : Option Addr) (c : Nat) (l : List TX) (hn : l.length ≤ 1000000000) (id : Int) :
    Ct Tryz.prog 58 [.slice a l.length c, .int .i64 id] [] (fun w_ => Sees w_ (.slice a l.length c) 10 l.length (l.flatMap encX)) (fun v A' => v = .int .i64 (findT (l.map TX.t) id) ∧ A' = []) := by
  refine Ct.intro Tryz.func58 rfl Tryz.ntmps58 (lb rfl) fun w0 hpre => ?_
  refine jC <| jE <| jA (jG (v := iv 0) rfl) <| jD <| jB <| jC <| jC <| jE <| jA (jG (v := iv 0) rfl) <| jD ?_
  refine jB <| jZ <| jp (fun k_ e_ L_ => ∃ j : Nat, (j ≤ l.length) ∧ (∀ i, i < j → ¬ ((l.getD i x0).t.id = id)) ∧ e_ 0 = .slice a l.length c ∧ e_ 1 = iv id ∧ e_ 5 = nv j ∧ L_ = [] ∧ k_ = l.length - j) _ ⟨0, by omega, (fun i hi => absurd hi (Nat.not_lt_zero i)), rfl, rfl, rfl, rfl, rfl⟩ ?_
  rintro _ e_1 _ ⟨j, hj, hN, he_2, he_3, he_4, rfl, rfl⟩
  refine jC <| jC <| jE <| jA (jF (v := nv j) he_4) <| jA (jF (v := .slice a l.length c) he_2) <| jA (jf kU rfl) <| jA (jc rfl rfl) <| jD <| jB ?_
  by_cases h_5 : ((j : Nat) : Int) < ((l.length : Nat) : Int)
  · have hlt : j < l.length := by omega
    refine jS (cB (dT h_5)) <| jQ <| jB <| jC <| jZ <| jC <| jE <| jA (jF (v := .slice a l.length c) he_2) <| jA (jF (v := nv j) he_4) ?_
    obtain ⟨hr_6, hr_6b, -⟩ := sees_some hpre (by omega)
    refine jA (jX (i := j) kU kS hr_6 hr_6b rfl rfl (by omega)) <| jA (ji fo61_0 hr_6 rfl) <| jK (ju (v := iv ((l.getD j x0).t.id)) hpre nM rfl kR (flat_at encX_len x0 l j 0 (by omega) (by decide))) <| jA (jF (v := iv id) he_3) <| jA (PO.eqlI rfl rfl) <| jD <| jB ?_
    by_cases h_7 : ((l.getD j x0).t.id) = id
    · have hpj := h_7
      refine jS (cB (dT h_7)) <| jC <| jE <| jA (jF (v := nv j) he_4) <| jA (jG (v := nv j) rfl) <| jD <| jB <| jJ <| je <| jO ?_
      refine jO <| je <| jO <| jL (.inl rfl) rfl (jM (v := nv j) rfl) (List.nil_sublist _) ?_
      refine ⟨congrArg (Value.int .i64) ?_, rfl⟩
      exact (idxT_found (P := fun t => t.id = id) hlt hN hpj).symm
    have hpj := h_7
    refine jP (cB (dF h_7)) <| jQ <| jk <| jB <| jE <| jA (jF (v := nv j) he_4) <| jA (ja (c := ((j + 1 : Nat) : Int)) rfl rfl (wr (by omega))) <| jA (jG (v := iv ((j + 1 : Nat) : Int)) rfl) <| jD ?_
    refine jl (l.length - (j + 1)) (by omega) ⟨j + 1, by omega, (fun i hi => if h : i = j then h ▸ hpj else hN i (by omega)), he_2, he_3, rfl, rfl, rfl⟩
  refine jP (cB (dF h_5)) <| jn <| jb <| jb <| jo <| jB <| jC <| jE <| jA (jG (v := iv (-1)) rfl) <| jD ?_
  refine jB <| jJ <| jL (.inl rfl) rfl (jM (v := iv (-1)) rfl) (List.nil_sublist _) ?_
  refine ⟨congrArg (Value.int .i64) ?_, rfl⟩
  exact (idxT_none (P := fun t => t.id = id) (by omega) hN).symm

end Go.Proofs.YtkmpmjficoohkaaGreat

set_option linter.unusedSimpArgs false
set_option linter.unusedVariables false
set_option linter.unnecessarySimpa false
namespace Go.Proofs.YtkmpmjficoohkaaGreat
open Go Go.RowKit

theorem Has.below {w w' : World} (h : Has [] w) (hb : Below w.heap.size w w') : St w (idsOf []) [] w' :=
  ⟨⟨fun _ hr => by simp at hr, by simp [idsOf], fun _ hi => by simp [idsOf] at hi, Nat.le_trans h.room hb.size, h.glob.keep fun k hk => hb.block k (Nat.lt_of_lt_of_le hk h.room)⟩, hb.os, hb.tape, hb.output, hb.size, fun _ hi => by simp [idsOf] at hi, fun k hk _ => hb.block k hk⟩
theorem below_grow (w : World) (k : Nat) (os : Array Obj) : Below w.heap.size w (Sort.grow (w.drewN k) os) :=
  ⟨rfl, rfl, rfl, by simp [Sort.grow, World.drewN], fun j hj => by
    simp only [Sort.grow, World.drewN]
    rw [Array.getElem?_append_left hj]⟩

end Go.Proofs.YtkmpmjficoohkaaGreat

namespace Go.Proofs
open Go.Shelf
def Tryz.lays104_ren : Go.Shelf.Ren := ⟨fun | 104 => 165 | 211 => 168 | 207 => 170 | n => n, fun | 9 => 9 | 4 => 4 | 24 => 193 | 3 => 3 | n => n, fun | n => n⟩
theorem Tryz.lays104 : Go.Proofs.Lays.n104 Tryz.prog Tryz.lays104_ren := {
  mixed := by kernel_rfl
  f104 := Tryz.func165.trans (congrArg some (by kernel_rfl))
  f207 := Tryz.func170.trans (congrArg some (by kernel_rfl))
  f211 := Tryz.func168.trans (congrArg some (by kernel_rfl))
  t3 := Tryz.underlying3
  a3 := Tryz.isAgg3
  z3 := Tryz.sizeOf3
  v3 := Tryz.zeroValue3
  t4 := Tryz.underlying4
  a4 := Tryz.isAgg4
  z4 := Tryz.sizeOf4
  v4 := Tryz.zeroValue4
  t9 := Tryz.underlying9
  a9 := Tryz.isAgg9
  z9 := Tryz.sizeOf9
  v9 := Tryz.zeroValue9
  t24 := Tryz.underlying193
  a24 := Tryz.isAgg193
  z24 := Tryz.sizeOf193
  v24 := Tryz.zeroValue193 }
open Go.RowKit in
theorem Tryz.strings_CutSuffix (s p : ByteArray) (w : World) (hs : s.size ≤ 9223372036854775807) :
    Calls Tryz.prog 165 #[.string s, .string p] w fun e w' => e = .returned (.tuple #[.string ⟨(Lib.trimSuffix s.data.toList p.data.toList).toArray⟩, .bool (Lib.hasSuffix s.data.toList p.data.toList)]) ∧ w' = w := Any.strings_CutSuffix Tryz.lays104 s p w hs
def Tryz.lays99_ren : Go.Shelf.Ren := ⟨fun | 99 => 166 | 206 => 169 | n => n, fun | 9 => 9 | 4 => 4 | 3 => 3 | n => n, fun | n => n⟩
theorem Tryz.lays99 : Go.Proofs.Lays.n99 Tryz.prog Tryz.lays99_ren := {
  mixed := by kernel_rfl
  f99 := Tryz.func166.trans (congrArg some (by kernel_rfl))
  f206 := Tryz.func169.trans (congrArg some (by kernel_rfl))
  t3 := Tryz.underlying3
  a3 := Tryz.isAgg3
  z3 := Tryz.sizeOf3
  v3 := Tryz.zeroValue3
  t4 := Tryz.underlying4
  a4 := Tryz.isAgg4
  z4 := Tryz.sizeOf4
  v4 := Tryz.zeroValue4
  t9 := Tryz.underlying9
  a9 := Tryz.isAgg9
  z9 := Tryz.sizeOf9
  v9 := Tryz.zeroValue9 }
open Go.RowKit Go.Lib in
theorem Tryz.strings_HasPrefix (s p : ByteArray) (w : World) :
    Calls Tryz.prog 166 #[.string s, .string p] w fun e w' => e = .returned (.bool (Lib.hasPrefix s.data.toList p.data.toList)) ∧ w' = w := Any.strings_HasPrefix Tryz.lays99 s p w
end Go.Proofs

set_option linter.unusedSimpArgs false
set_option linter.unusedVariables false
set_option linter.unnecessarySimpa false
namespace Go.Proofs.YtkmpmjficoohkaaGreat
open Go Go.RowKit

theorem hasPrefix_eq (s p : Str) : Lib.hasPrefix s p = prefixB s p := by
  unfold Lib.hasPrefix prefixB
  rw [Bool.eq_iff_iff]
  simp only [List.isPrefixOf_iff_prefix, Bool.and_eq_true, decide_eq_true_eq]
  constructor
  · rintro ⟨t, rfl⟩; simp
  · rintro ⟨h1, h2⟩; exact ⟨s.drop p.length, (congrArg (fun q => q ++ s.drop p.length) h2).symm.trans (List.take_append_drop _ _)⟩
def suffixB (s p : Str) : Bool := decide (p.length ≤ s.length) && decide (s.drop (s.length - p.length) = p)
theorem hasSuffix_eq (s p : Str) : Lib.hasSuffix s p = suffixB s p := by
  unfold Lib.hasSuffix suffixB
  rw [Bool.eq_iff_iff]
  simp only [List.isSuffixOf_iff_suffix, Bool.and_eq_true, decide_eq_true_eq]
  constructor
  · rintro ⟨t, rfl⟩; simp
  · rintro ⟨h1, h2⟩; exact ⟨s.take (s.length - p.length), (congrArg (fun q => s.take (s.length - p.length) ++ q) h2).symm.trans (List.take_append_drop _ _)⟩
def cutPre (s p : Str) : Str × Bool := if prefixB s p = true then (s.drop p.length, true) else (s, false)
def cutSuf (s p : Str) : Str × Bool := if suffixB s p = true then (s.take (s.length - p.length), true) else (s, false)
theorem cutPre_lib (s p : Str) : cutPre s p = (Lib.trimPrefix s p, Lib.hasPrefix s p) := by
  unfold cutPre Lib.trimPrefix
  rw [hasPrefix_eq]
  cases prefixB s p <;> rfl
theorem cutSuf_lib (s p : Str) : cutSuf s p = (Lib.trimSuffix s p, Lib.hasSuffix s p) := by
  unfold cutSuf Lib.trimSuffix
  rw [hasSuffix_eq]
  cases suffixB s p <;> rfl
theorem cutPre_len (s p : Str) : (cutPre s p).1.length ≤ s.length := by unfold cutPre; split <;> simp
theorem cutSuf_len (s p : Str) : (cutSuf s p).1.length ≤ s.length := by unfold cutSuf; split <;> simp [List.length_take]

theorem N_hasPrefix (s p : Str) : Ct Tryz.prog 166 [str s, str p] [] (fun _ => True) (fun v A' => ∃ b, prefixB s p = b ∧ v = .bool b ∧ A' = []) := fun w hA _ => by
  refine (Tryz.strings_HasPrefix ⟨s.toArray⟩ ⟨p.toArray⟩ w).mono fun e w' h => ?_
  obtain ⟨rfl, rfl⟩ := h
  exact ⟨_, [], rfl, ⟨_, rfl, by simp only [← hasPrefix_eq], rfl⟩, hA.below (Below.refl _ _)⟩
theorem N_cutSuffix (s p : Str) (hs : s.length ≤ 9223372036854775807) : Ct Tryz.prog 165 [str s, str p] [] (fun _ => True) (fun v A' => ∃ u b, cutSuf s p = (u, b) ∧ u.length ≤ s.length ∧ v = .tuple #[str u, .bool b] ∧ A' = []) := fun w hA _ => by
  refine (Tryz.strings_CutSuffix ⟨s.toArray⟩ ⟨p.toArray⟩ w (by rw [size_mk]; omega)).mono fun e w' h => ?_
  obtain ⟨rfl, rfl⟩ := h
  exact ⟨_, [], rfl, ⟨_, _, cutSuf_lib s p, by have := cutSuf_len s p; rw [cutSuf_lib] at this; exact this, rfl, rfl⟩, hA.below (Below.refl _ _)⟩
end Go.Proofs.YtkmpmjficoohkaaGreat

set_option linter.unusedSimpArgs false
set_option linter.unusedVariables false
set_option linter.unnecessarySimpa false
namespace Go.Proofs.YtkmpmjficoohkaaGreat
open Go Go.RowKit
/- all, any, by places -/
def rall (n : Nat) (p : Nat → Bool) : Bool := (List.range n).all p
theorem rall_true {n : Nat} {p : Nat → Bool} (h : ∀ i, i < n → p i = true) : rall n p = true := List.all_eq_true.2 fun i hi => h i (List.mem_range.1 hi)
theorem rall_false {n i : Nat} {p : Nat → Bool} (hi : i < n) (h : p i = false) : rall n p = false := by
  cases hq : rall n p with
  | false => rfl
  | true => rw [List.all_eq_true.1 hq i (List.mem_range.2 hi)] at h; cases h
theorem rall_get {n i : Nat} {p : Nat → Bool} (h : rall n p = true) (hi : i < n) : p i = true := List.all_eq_true.1 h i (List.mem_range.2 hi)
theorem any_none {α : Type} {p : α → Bool} {l : List α} {j : Nat} (d : α) (hj : l.length ≤ j) (hN : ∀ i, i < j → p (l.getD i d) = false) : l.any p = false := by
  rw [List.any_eq_false]
  intro x hx
  obtain ⟨i, hi, rfl⟩ := List.mem_iff_getElem.1 hx
  have := hN i (by omega)
  rw [List.getD_eq_getElem?_getD, List.getElem?_eq_getElem hi] at this
  simpa using this
theorem any_found {α : Type} {p : α → Bool} {l : List α} {j : Nat} (d : α) (hj : j < l.length) (h : p (l.getD j d) = true) : l.any p = true := List.any_eq_true.2 ⟨_, getD_mem hj, h⟩
theorem findAt_mem_lt {α : Type} {p : α → Bool} : ∀ {l : List α} {x : α}, x ∈ l → p x = true → findAt p l < l.length
  | [], x, hx, _ => by cases hx
  | y :: l, x, hx, hp => by
    unfold findAt
    split
    · simp
    · rename_i hy
      rcases List.mem_cons.1 hx with rfl | hx
      · exact absurd hp hy
      · have := findAt_mem_lt hx hp
        simp only [List.length_cons]; omega
theorem findAt_lt_any {α : Type} {p : α → Bool} : ∀ {l : List α}, findAt p l < l.length → l.any p = true
  | [], h => by simp at h
  | y :: l, h => by
    unfold findAt at h
    split at h
    · rename_i hy; simp [hy]
    · rename_i hy
      have := findAt_lt_any (p := p) (l := l) (by simp only [List.length_cons] at h; omega)
      simp [this]
theorem idxI_any {α : Type} {p : α → Bool} {l : List α} : decide (0 ≤ idxI p l) = l.any p := by
  rcases idxI_lo p l with ⟨h, h2⟩ | ⟨h, h2⟩
  · rw [h]
    have : l.any p = false := by
      rw [List.any_eq_false]
      intro x hx hp
      have := findAt_mem_lt (p := p) hx hp
      omega
    rw [this]; rfl
  · rw [h, decide_eq_true (by omega)]
    exact (findAt_lt_any h2).symm
/- spans -/
theorem begins_eqV (s p : Str) : prefixB s p = (decide ((p.length : Int) ≤ s.length) && decide (s.take p.length = p)) := by
  unfold prefixB
  congr 1
  exact decide_eq_decide.2 (by omega)
def spanHas (a k : Str) : Bool := if (cutSuf a [42]).2 = true then prefixB k (cutSuf a [42]).1 else decide (a = k)
def meets (a b : Str) : Bool := if (cutSuf a [42]).2 = true ∧ (cutSuf b [42]).2 = true then prefixB (cutSuf a [42]).1 (cutSuf b [42]).1 || prefixB (cutSuf b [42]).1 (cutSuf a [42]).1 else if (cutSuf a [42]).2 = true then prefixB b (cutSuf a [42]).1 else spanHas b a
theorem cutSuf_open {s : Str} (h : 0 < s.length) (h2 : s.getD (s.length - 1) 0 = 42) : cutSuf s [42] = (s.take (s.length - 1), true) := by
  unfold cutSuf suffixB
  have e : s.drop (s.length - 1) = [42] := by
    rw [drop_at (getD_some (d := 0) (show s.length - 1 < s.length by omega)), h2, List.drop_of_length_le (by omega)]
  rw [if_pos (by simp only [List.length_cons, List.length_nil, e, Bool.and_eq_true, decide_eq_true_eq]; exact ⟨by omega, trivial⟩)]
  rfl
theorem cutSuf_shut {s : Str} (h : ¬ (0 < s.length ∧ s.getD (s.length - 1) 0 = 42)) : cutSuf s [42] = (s, false) := by
  unfold cutSuf suffixB
  rw [if_neg]
  simp only [List.length_cons, List.length_nil, Bool.and_eq_true, decide_eq_true_eq]
  rintro ⟨h1, h2⟩
  refine h ⟨by omega, ?_⟩
  rw [drop_at (getD_some (d := 0) (show s.length - (0 + 1) < s.length by omega))] at h2
  simp only [List.cons.injEq] at h2
  exact h2.1
theorem c42 {c : UInt8} (h : ((c.toNat : Nat) : Int) = 42) : c = 42 := by
  apply UInt8.toNat_inj.1
  show c.toNat = 42
  omega
theorem c42' {c : UInt8} (h : c = 42) : ((c.toNat : Nat) : Int) = 42 := by subst h; rfl
def meetAny (a b : List Str) : Bool := a.any fun x => b.any fun y => meets x y
theorem meets_comm (a b : Str) : meets a b = meets b a := by
  unfold meets spanHas
  cases ha : (cutSuf a [42]).2 <;> cases hb : (cutSuf b [42]).2 <;> simp [ha, hb, Bool.or_comm, eq_comm]
theorem meetAny_comm (a b : List Str) : meetAny a b = meetAny b a := by
  unfold meetAny
  rw [Bool.eq_iff_iff]
  simp only [List.any_eq_true]
  constructor
  · rintro ⟨x, hx, y, hy, h⟩; exact ⟨y, hy, x, hx, by rw [meets_comm]; exact h⟩
  · rintro ⟨x, hx, y, hy, h⟩; exact ⟨y, hy, x, hx, by rw [meets_comm]; exact h⟩
def clashT (r w r' w' : List Str) : Bool := meetAny w r' || (meetAny w w' || meetAny w' r)
theorem meetAny_none {x y : List Str} {j : Nat} (hj : x.length ≤ j) (hN : ∀ i, i < j → (y.any fun q => meets (x.getD i []) q) = false) : meetAny x y = false := any_none [] hj hN
theorem meetAny_found {x y : List Str} {j : Nat} (hj : j < x.length) (h : (y.any fun q => meets (x.getD j []) q) = true) : meetAny x y = true := any_found [] hj h
def bothLive (x y : TD) : Bool := decide (x.state = 1) && (decide (y.state = 1) && clashT x.rd x.wr y.rd y.wr)
def apartX (l : List TX) : Bool := rall l.length fun i => rall i fun k => !bothLive (l.getD i x0).t (l.getD k x0).t
def apartAll (l : List TD) : Bool := rall l.length fun i => rall i fun k => !bothLive (l.getD i x0.t) (l.getD k x0.t)
theorem getD_map' {α β : Type} {f : α → β} {l : List α} {i : Nat} {d : α} : (l.map f).getD i (f d) = f (l.getD i d) := by
  rw [List.getD_eq_getElem?_getD, List.getD_eq_getElem?_getD, List.getElem?_map]
  cases l[i]? <;> rfl
theorem apart_map (l : List TX) : apartAll (l.map TX.t) = apartX l := by
  unfold apartAll apartX
  simp only [List.length_map, getD_map']
end Go.Proofs.YtkmpmjficoohkaaGreat
