/-
  Texts of the walk, joined: what each one proves stands at its theorems.
-/
import Derived.Test.YtghfijncihbojaaGreatDatC
import Derived.Test.YtghfijncihbojaaGreatS24DRAWS
import Derived.Test.YtghfijncihbojaaGreatDatX
import Derived.Lib.SmallJoins
import Derived.Shelf.Small.Wraps
import Derived.Shelf.Strings.Prefix
import Derived.Test.YtghfijncihbojaaGreatProg
import Derived.Lib.Strings
import Derived.Lib.MinMax
import Derived.Test.YtghfijncihbojaaGreatDatL
set_option linter.unusedSimpArgs false
set_option linter.unusedVariables false
set_option linter.unnecessarySimpa false
namespace Go.Proofs.YtghfijncihbojaaGreat
open Go Go.RowKit
attribute [local irreducible] JL JC JQ JO LO PO JA JX Ct

theorem Z_cloneK (a : Option Addr) (c : Nat) (s : List CL) (hn : s.length ≤ 1000000000000) :
    Ct Tryz.prog 49 [.slice a s.length c] [] (fun w_ => Sees w_ (.slice a s.length c) 6 s.length (s.flatMap encK)) (fun v A' => ∃ a' c', v = .slice a' s.length c' ∧ A' = [.row (.slice a' s.length c') 51 6 s.length (s.flatMap encK)]) := by
  refine Ct.intro Tryz.func49 rfl Tryz.ntmps49 (lb rfl) fun w0 hpre => ?_
  have hs_a : Sees w0 _ _ _ _ := hpre
  refine jC <| jE <| jA (jG (v := .slice none 0 0) rfl) <| jD <| jB <| jC <| jC <| jE <| jA (jF (v := .slice a s.length c) rfl) <| jA (PO.eqNil gD rfl rfl) ?_
  refine jD <| jB ?_
  rcases Bool.eq_false_or_eq_true (a.isNone) with h_1 | h_1
  · refine jO (cB h_1) <| jC <| jE <| jA (jG (v := .slice none 0 0) rfl) <| jD <| jB <| jL <| jW <| JQ.nilrow 51 6 <| jR (.inl rfl) rfl (jN (v := .slice none 0 0) rfl) (List.Sublist.refl _) ?_
    have ha : a = none := by simpa using h_1
    have hz : s.length = 0 := sees_none (ha ▸ hpre)
    have hs0 : s = [] := List.length_eq_zero_iff.1 hz
    subst hs0
    exact ⟨none, 0, rfl, rfl⟩
  refine jP (cB h_1) <| jU <| jB <| jC <| jE ?_
  refine jH rfl (kJ (ps := []) (cur := #[]) gD ko gr rfl (by kernel_rfl) (by decide) (by decide)) ?_
  rintro _ _ ⟨a_2, rfl, rfl⟩
  refine jA (jF (v := .slice a s.length c) rfl) ?_
  refine jH rfl (kM 0 (q := s.length) (news := s.flatMap encK) (n' := s.length) (cs' := s.flatMap encK) rfl gD gD Tryz.typeInfo51 rfl (by' := 72) rfl rfl rfl rfl rfl (fun w hw => Src.sees (hw.seeOut_ hs_a nM) (oneK _)) (by (try simp only [LE]); omega) (by (try simp only [LE]); omega) (by (try simp only [List.length_take, List.length_drop]); first | rfl | omega) rfl) ?_
  rintro _ _ ⟨a_3, c_4, rfl, rfl⟩
  refine jA (jG (v := .slice a_3 s.length c_4) rfl) <| jD <| jB <| jL <| jR (.inl rfl) rfl (jN (v := .slice a_3 s.length c_4) rfl) (List.Sublist.refl _) ?_
  exact ⟨_, _, rfl, rfl⟩

theorem Z_cloneA (a : Option Addr) (c : Nat) (s : List AN) (hn : s.length ≤ 1000000000000) :
    Ct Tryz.prog 87 [.slice a s.length c] [] (fun w_ => Sees w_ (.slice a s.length c) 3 s.length (s.flatMap encA)) (fun v A' => ∃ a' c', v = .slice a' s.length c' ∧ A' = [.row (.slice a' s.length c') 45 3 s.length (s.flatMap encA)]) := by
  refine Ct.intro Tryz.func87 rfl Tryz.ntmps87 (lb rfl) fun w0 hpre => ?_
  have hs_a : Sees w0 _ _ _ _ := hpre
  refine jC <| jE <| jA (jG (v := .slice none 0 0) rfl) <| jD <| jB <| jC <| jC <| jE <| jA (jF (v := .slice a s.length c) rfl) <| jA (PO.eqNil gN rfl rfl) ?_
  refine jD <| jB ?_
  rcases Bool.eq_false_or_eq_true (a.isNone) with h_1 | h_1
  · refine jO (cB h_1) <| jC <| jE <| jA (jG (v := .slice none 0 0) rfl) <| jD <| jB <| jL <| jW <| JQ.nilrow 45 3 <| jR (.inl rfl) rfl (jN (v := .slice none 0 0) rfl) (List.Sublist.refl _) ?_
    have ha : a = none := by simpa using h_1
    have hz : s.length = 0 := sees_none (ha ▸ hpre)
    have hs0 : s = [] := List.length_eq_zero_iff.1 hz
    subst hs0
    exact ⟨none, 0, rfl, rfl⟩
  refine jP (cB h_1) <| jU <| jB <| jC <| jE ?_
  refine jH rfl (kJ (ps := []) (cur := #[]) gN kr gG rfl (by kernel_rfl) (by decide) (by decide)) ?_
  rintro _ _ ⟨a_2, rfl, rfl⟩
  refine jA (jF (v := .slice a s.length c) rfl) ?_
  refine jH rfl (kM 0 (q := s.length) (news := s.flatMap encA) (n' := s.length) (cs' := s.flatMap encA) rfl gN gN Tryz.typeInfo45 rfl (by' := 32) rfl rfl rfl rfl rfl (fun w hw => Src.sees (hw.seeOut_ hs_a nM) (oneA _)) (by (try simp only [LE]); omega) (by (try simp only [LE]); omega) (by (try simp only [List.length_take, List.length_drop]); first | rfl | omega) rfl) ?_
  rintro _ _ ⟨a_3, c_4, rfl, rfl⟩
  refine jA (jG (v := .slice a_3 s.length c_4) rfl) <| jD <| jB <| jL <| jR (.inl rfl) rfl (jN (v := .slice a_3 s.length c_4) rfl) (List.Sublist.refl _) ?_
  exact ⟨_, _, rfl, rfl⟩

theorem Z_cloneI (a : Option Addr) (c : Nat) (s : List Int) (hn : s.length ≤ 1000000000000) :
    Ct Tryz.prog 88 [.slice a s.length c] [] (fun w_ => Sees w_ (.slice a s.length c) 1 s.length (s.map (Value.int .i64))) (fun v A' => ∃ a' c', v = .slice a' s.length c' ∧ A' = [.row (.slice a' s.length c') 3 1 s.length (s.map (Value.int .i64))]) := by
  refine Ct.intro Tryz.func88 rfl Tryz.ntmps88 (lb rfl) fun w0 hpre => ?_
  have hs_a : Sees w0 _ _ _ _ := hpre
  refine jC <| jE <| jA (jG (v := .slice none 0 0) rfl) <| jD <| jB <| jC <| jC <| jE <| jA (jF (v := .slice a s.length c) rfl) <| jA (PO.eqNil gB rfl rfl) ?_
  refine jD <| jB ?_
  rcases Bool.eq_false_or_eq_true (a.isNone) with h_1 | h_1
  · refine jO (cB h_1) <| jC <| jE <| jA (jG (v := .slice none 0 0) rfl) <| jD <| jB <| jL <| jW <| JQ.nilrow 3 1 <| jR (.inl rfl) rfl (jN (v := .slice none 0 0) rfl) (List.Sublist.refl _) ?_
    have ha : a = none := by simpa using h_1
    have hz : s.length = 0 := sees_none (ha ▸ hpre)
    have hs0 : s = [] := List.length_eq_zero_iff.1 hz
    subst hs0
    exact ⟨none, 0, rfl, rfl⟩
  refine jP (cB h_1) <| jU <| jB <| jC <| jE ?_
  refine jH rfl (kJ (ps := []) (cur := #[]) gB kt Tryz.zeroValue3 rfl (by kernel_rfl) (by decide) (by decide)) ?_
  rintro _ _ ⟨a_2, rfl, rfl⟩
  refine jA (jF (v := .slice a s.length c) rfl) ?_
  refine jH rfl (kM 0 (q := s.length) (news := s.map (Value.int .i64)) (n' := s.length) (cs' := s.map (Value.int .i64)) rfl gB gB Tryz.typeInfo3 rfl (by' := 8) rfl rfl rfl rfl rfl (fun w hw => Src.sees (hw.seeOut_ hs_a nM) (oneI _)) (by (try simp only [LE]); omega) (by (try simp only [LE]); omega) (by (try simp only [List.length_take, List.length_drop]); first | rfl | omega) rfl) ?_
  rintro _ _ ⟨a_3, c_4, rfl, rfl⟩
  refine jA (jG (v := .slice a_3 s.length c_4) rfl) <| jD <| jB <| jL <| jR (.inl rfl) rfl (jN (v := .slice a_3 s.length c_4) rfl) (List.Sublist.refl _) ?_
  exact ⟨_, _, rfl, rfl⟩

theorem Z_cloneTouch (a1 a2 : Option Addr) (ac1 ac2 : Nat) (r w : List Str) (hr : r.length ≤ 1000000000) (hw_ : w.length ≤ 1000000000) :
    Ct Tryz.prog 89 [.agg #[.slice a1 r.length ac1, .slice a2 w.length ac2]] [] (fun w_ => Sees w_ (.slice a1 r.length ac1) 1 r.length (r.map str) ∧ Sees w_ (.slice a2 w.length ac2) 1 w.length (w.map str)) (fun v A' => ∃ b1 d1 b2 d2, v = .agg #[.slice b1 r.length d1, .slice b2 w.length d2] ∧ A' = [.row (.slice b1 r.length d1) 9 1 r.length (r.map str), .row (.slice b2 w.length d2) 9 1 w.length (w.map str)]) := by
  refine Ct.intro Tryz.func89 rfl Tryz.ntmps89 (lb rfl) fun w0 hpre => ?_
  refine jC <| jE ?_
  refine jH rfl (jy (cs := [.slice a1 r.length ac1, .slice a2 w.length ac2]) rfl rfl) ?_
  rintro _ _ ⟨b_1, rfl, rfl⟩
  refine jH rfl (jn (z := .agg #[.slice none 0 0, .slice none 0 0]) (cs := [.slice none 0 0, .slice none 0 0]) gU rfl) ?_
  rintro _ _ ⟨b_2, rfl, rfl⟩
  refine jD <| jB <| jC <| jr [bk b_2 28 [.slice none 0 0, .slice none 0 0], bk b_1 28 [.slice a1 r.length ac1, .slice a2 w.length ac2]] 7 mixed (by simp) <| jI 0 rfl (jJ fo28_0 rfl) <| jh 1 rfl (jV 1 (v := .slice a1 r.length ac1) rfl rfl gF rfl) <| jI 3 rfl (jJ fo28_1 rfl) <| jh 4 rfl (jV 1 (v := .slice a2 w.length ac2) rfl rfl gF rfl) <| jQ (i := 2) ?_
  refine jY rfl rfl (jM [] Tryz.call121 rfl (C_cloneS a1 ac1 r (by omega)) rfl (fun w hw => hw.seeOut_ hpre.1 nM)) ?_
  rintro _ _ ⟨_, ⟨a_9, c_10, rfl, rfl⟩, rfl⟩
  refine ⟨by simp, ?_⟩
  refine jQ (i := 5) ?_
  refine jY rfl rfl (jM [] Tryz.call121 rfl (C_cloneS a2 ac2 w (by omega)) rfl (fun w hw => hw.seeOut_ hpre.2 nM)) ?_
  rintro _ _ ⟨_, ⟨a_13, c_14, rfl, rfl⟩, rfl⟩
  refine ⟨by simp, ?_⟩
  refine jI 6 rfl (kY (ps := [(0, .slice a_9 r.length c_10), (1, .slice a_13 w.length c_14)]) (cs := [.slice a_9 r.length c_10, .slice a_13 w.length c_14]) rfl (by kernel_rfl)) <| jQ (i := 7) ?_
  refine jx rfl (jT 2 (vs := [.slice a_9 r.length c_10, .slice a_13 w.length c_14]) (cs' := [.slice a_9 r.length c_10, .slice a_13 w.length c_14]) rfl rfl rfl rfl kx rfl rfl (lb rfl) rfl) ?_
  rintro _ _ rfl
  refine jB <| jL <| kR (pick_perm [1, 0] (A := [rS a_9 c_10 r, rS a_13 c_14 w]) (F := [bk b_2 28 [.slice a_9 r.length c_10, .slice a_13 w.length c_14], bk b_1 28 [.slice a1 r.length ac1, .slice a2 w.length ac2]]) rfl).symm <| jR (.inl rfl) rfl (je (jX 2 (vs := [.slice a_9 r.length c_10, .slice a_13 w.length c_14]) rfl rfl gL kx rfl rfl) ⟨_, rfl⟩) (tS 2 _) ?_
  exact ⟨_, _, _, _, rfl, rfl⟩

theorem Z_implTxclone (p : TX) (hl : p.t.lim 1000000000) :
    Ct Tryz.prog 31 [.agg #[.int .i64 p.t.id, .int .i64 p.t.age, .int .i64 p.t.proc, .int .i64 p.t.began, .slice p.x.a0 p.t.calls.length p.x.c0, .slice p.x.a1 p.t.ans.length p.x.c1, .slice p.x.a2 p.t.rd.length p.x.c2, .slice p.x.a3 p.t.wr.length p.x.c3, .slice p.x.a4 p.t.marks.length p.x.c4, .int .i64 p.t.state]] [] (fun w => SeesA w (rdsX p)) (fun v A' => ∃ y : TX, y.t = p.t ∧ v = .agg #[.int .i64 y.t.id, .int .i64 y.t.age, .int .i64 y.t.proc, .int .i64 y.t.began, .slice y.x.a0 y.t.calls.length y.x.c0, .slice y.x.a1 y.t.ans.length y.x.c1, .slice y.x.a2 y.t.rd.length y.x.c2, .slice y.x.a3 y.t.wr.length y.x.c3, .slice y.x.a4 y.t.marks.length y.x.c4, .int .i64 y.t.state] ∧ A' = [.rows (rdsX y)]) := by
  obtain ⟨hb0, hb1, hb2, hb3, hb4⟩ := hl
  refine Ct.intro Tryz.func31 rfl Tryz.ntmps31 (lb rfl) fun w0 hpre => ?_
  obtain ⟨hs_1, hs_2, hs_3, hs_4, hs_5⟩ := seesX hpre
  refine jC <| jE ?_
  refine jH rfl (jy (cs := (xc p)) rfl rfl) ?_
  rintro _ _ ⟨b_6, rfl, rfl⟩
  refine jH rfl (jn (z := xz) (cs := xzc) gH rfl) ?_
  rintro _ _ ⟨b_7, rfl, rfl⟩
  refine jD <| jB <| jC <| jr [bk b_7 31 xzc, bk b_6 31 (xc p)] 12 mixed (by simp) <| jI 0 rfl (jJ fo31_4 rfl) <| jh 1 rfl (jV 1 (v := .slice p.x.a0 p.t.calls.length p.x.c0) rfl rfl gb rfl) <| jI 3 rfl (jJ fo31_5 rfl) <| jh 4 rfl (jV 1 (v := .slice p.x.a1 p.t.ans.length p.x.c1) rfl rfl gh rfl) <| jI 6 rfl (jJ fo31_7 rfl) <| jh 7 rfl (jV 1 (v := .slice p.x.a4 p.t.marks.length p.x.c4) rfl rfl gS rfl) ?_
  refine jI 9 rfl (jJ fo31_6 rfl) <| jh 10 rfl (jX 1 (vs := [.slice p.x.a2 p.t.rd.length p.x.c2, .slice p.x.a3 p.t.wr.length p.x.c3]) rfl rfl gL kx rfl rfl) <| jQ (i := 2) ?_
  refine jY rfl rfl (jM [] Tryz.call49 rfl (Z_cloneK p.x.a0 p.x.c0 p.t.calls (by omega)) rfl (fun w hw => hw.seeOut_ hs_1 nM)) ?_
  rintro _ _ ⟨_, ⟨a_22, c_23, rfl, rfl⟩, rfl⟩
  refine ⟨by simp, ?_⟩
  refine jI 12 rfl (jJ fo31_4 rfl) <| jQ (i := 5) ?_
  refine jY rfl rfl (jM [] Tryz.call87 rfl (Z_cloneA p.x.a1 p.x.c1 p.t.ans (by omega)) rfl (fun w hw => hw.seeOut_ hs_2 nM)) ?_
  rintro _ _ ⟨_, ⟨a_28, c_29, rfl, rfl⟩, rfl⟩
  refine ⟨by simp, ?_⟩
  refine jQ (i := 8) ?_
  refine jY rfl rfl (jM [] Tryz.call88 rfl (Z_cloneI p.x.a4 p.x.c4 p.t.marks (by omega)) rfl (fun w hw => hw.seeOut_ hs_5 nM)) ?_
  rintro _ _ ⟨_, ⟨a_32, c_33, rfl, rfl⟩, rfl⟩
  refine ⟨by simp, ?_⟩
  refine jQ (i := 11) ?_
  refine jY rfl rfl (jM [] Tryz.call89 rfl (Z_cloneTouch p.x.a2 p.x.a3 p.x.c2 p.x.c3 p.t.rd p.t.wr (by omega) (by omega)) rfl (fun w hw => ⟨hw.seeOut_ hs_3 nM, hw.seeOut_ hs_4 nM⟩)) ?_
  rintro _ _ ⟨_, ⟨a_38, c_39, a_40, c_41, rfl, rfl⟩, rfl⟩
  refine ⟨by simp, ?_⟩
  refine jQ (i := 13) ?_
  refine kF rfl (jT 6 (vs := [.slice a_22 p.t.calls.length c_23]) (cs' := [iv p.t.id, iv p.t.age, iv p.t.proc, iv p.t.began, .slice a_22 p.t.calls.length c_23, .slice p.x.a1 p.t.ans.length p.x.c1, .slice p.x.a2 p.t.rd.length p.x.c2, .slice p.x.a3 p.t.wr.length p.x.c3, .slice p.x.a4 p.t.marks.length p.x.c4, iv p.t.state]) rfl rfl rfl rfl Tryz.sizeOf24 rfl rfl (lb rfl) rfl) ?_
  rintro _ _ rfl
  refine jI 14 rfl (jJ fo31_5 rfl) <| jQ (i := 15) ?_
  refine kF rfl (jT 6 (vs := [.slice a_28 p.t.ans.length c_29]) (cs' := [iv p.t.id, iv p.t.age, iv p.t.proc, iv p.t.began, .slice a_22 p.t.calls.length c_23, .slice a_28 p.t.ans.length c_29, .slice p.x.a2 p.t.rd.length p.x.c2, .slice p.x.a3 p.t.wr.length p.x.c3, .slice p.x.a4 p.t.marks.length p.x.c4, iv p.t.state]) rfl rfl rfl rfl Tryz.sizeOf25 rfl rfl (lb rfl) rfl) ?_
  rintro _ _ rfl
  refine jI 16 rfl (jJ fo31_7 rfl) <| jQ (i := 17) ?_
  refine kF rfl (jT 6 (vs := [.slice a_32 p.t.marks.length c_33]) (cs' := [iv p.t.id, iv p.t.age, iv p.t.proc, iv p.t.began, .slice a_22 p.t.calls.length c_23, .slice a_28 p.t.ans.length c_29, .slice p.x.a2 p.t.rd.length p.x.c2, .slice p.x.a3 p.t.wr.length p.x.c3, .slice a_32 p.t.marks.length c_33, iv p.t.state]) rfl rfl rfl rfl Tryz.sizeOf29 rfl rfl (lb rfl) rfl) ?_
  rintro _ _ rfl
  refine jI 18 rfl (jJ fo31_6 rfl) <| jQ (i := 19) ?_
  refine jx rfl (jT 6 (vs := [.slice a_38 p.t.rd.length c_39, .slice a_40 p.t.wr.length c_41]) (cs' := [iv p.t.id, iv p.t.age, iv p.t.proc, iv p.t.began, .slice a_22 p.t.calls.length c_23, .slice a_28 p.t.ans.length c_29, .slice a_38 p.t.rd.length c_39, .slice a_40 p.t.wr.length c_41, .slice a_32 p.t.marks.length c_33, iv p.t.state]) rfl rfl rfl rfl kx rfl rfl (lb rfl) rfl) ?_
  rintro _ _ rfl
  refine jB <| jC <| jE <| jK (jX 6 (vs := [iv p.t.id, iv p.t.age, iv p.t.proc, iv p.t.began, .slice a_22 p.t.calls.length c_23, .slice a_28 p.t.ans.length c_29, .slice a_38 p.t.rd.length c_39, .slice a_40 p.t.wr.length c_41, .slice a_32 p.t.marks.length c_33, iv p.t.state]) rfl rfl kz kq rfl rfl) ?_
  refine jH rfl (jT 5 (vs := [iv p.t.id, iv p.t.age, iv p.t.proc, iv p.t.began, .slice a_22 p.t.calls.length c_23, .slice a_28 p.t.ans.length c_29, .slice a_38 p.t.rd.length c_39, .slice a_40 p.t.wr.length c_41, .slice a_32 p.t.marks.length c_33, iv p.t.state]) (cs' := [iv p.t.id, iv p.t.age, iv p.t.proc, iv p.t.began, .slice a_22 p.t.calls.length c_23, .slice a_28 p.t.ans.length c_29, .slice a_38 p.t.rd.length c_39, .slice a_40 p.t.wr.length c_41, .slice a_32 p.t.marks.length c_33, iv p.t.state]) rfl rfl rfl rfl kq rfl rfl (lb rfl) rfl) ?_
  rintro _ _ rfl
  refine jD <| jB <| jL <| kO (L' := [Res.rows (rdsX (⟨⟨a_22, c_23, a_28, c_29, a_38, c_39, a_40, c_41, a_32, c_33⟩, p.t⟩ : TX)), bk b_7 31 [iv p.t.id, iv p.t.age, iv p.t.proc, iv p.t.began, .slice a_22 p.t.calls.length c_23, .slice a_28 p.t.ans.length c_29, .slice a_38 p.t.rd.length c_39, .slice a_40 p.t.wr.length c_41, .slice a_32 p.t.marks.length c_33, iv p.t.state], bk b_6 31 [iv p.t.id, iv p.t.age, iv p.t.proc, iv p.t.began, .slice a_22 p.t.calls.length c_23, .slice a_28 p.t.ans.length c_29, .slice a_38 p.t.rd.length c_39, .slice a_40 p.t.wr.length c_41, .slice a_32 p.t.marks.length c_33, iv p.t.state]]) (fun w hw => hw.closeR (A := rdsX (⟨⟨a_22, c_23, a_28, c_29, a_38, c_39, a_40, c_41, a_32, c_33⟩, p.t⟩ : TX)) [4, 3, 0, 0, 0] rfl) <| jR (.inl rfl) rfl (je (jX 1 (vs := [iv p.t.id, iv p.t.age, iv p.t.proc, iv p.t.began, .slice a_22 p.t.calls.length c_23, .slice a_28 p.t.ans.length c_29, .slice a_38 p.t.rd.length c_39, .slice a_40 p.t.wr.length c_41, .slice a_32 p.t.marks.length c_33, iv p.t.state]) rfl rfl kz kq rfl rfl) ⟨_, rfl⟩) (tS 1 _) ?_
  exact ⟨(⟨⟨a_22, c_23, a_28, c_29, a_38, c_39, a_40, c_41, a_32, c_33⟩, p.t⟩ : TX), rfl, rfl, rfl⟩

theorem Z_specl17Copy (p : TX) (hl : p.t.lim 1000000000) :
    Ct Tryz.prog 32 [.agg #[.int .i64 p.t.id, .int .i64 p.t.age, .int .i64 p.t.proc, .int .i64 p.t.began, .slice p.x.a0 p.t.calls.length p.x.c0, .slice p.x.a1 p.t.ans.length p.x.c1, .slice p.x.a2 p.t.rd.length p.x.c2, .slice p.x.a3 p.t.wr.length p.x.c3, .slice p.x.a4 p.t.marks.length p.x.c4, .int .i64 p.t.state]] [] (fun w => SeesA w (rdsX p)) (fun v A' => ∃ y : TX, y.t = p.t ∧ v = .agg #[.int .i64 y.t.id, .int .i64 y.t.age, .int .i64 y.t.proc, .int .i64 y.t.began, .slice y.x.a0 y.t.calls.length y.x.c0, .slice y.x.a1 y.t.ans.length y.x.c1, .slice y.x.a2 y.t.rd.length y.x.c2, .slice y.x.a3 y.t.wr.length y.x.c3, .slice y.x.a4 y.t.marks.length y.x.c4, .int .i64 y.t.state] ∧ A' = [.rows (rdsX y)]) := by
  obtain ⟨hb0, hb1, hb2, hb3, hb4⟩ := hl
  refine Ct.intro Tryz.func32 rfl Tryz.ntmps32 (lb rfl) fun w0 hpre => ?_
  obtain ⟨hs_1, hs_2, hs_3, hs_4, hs_5⟩ := seesX hpre
  refine jC <| jE ?_
  refine jH rfl (jy (cs := (xc p)) rfl rfl) ?_
  rintro _ _ ⟨b_6, rfl, rfl⟩
  refine jH rfl (jn (z := xz) (cs := xzc) gH rfl) ?_
  rintro _ _ ⟨b_7, rfl, rfl⟩
  refine jD <| jB <| jC <| jE ?_
  refine jH rfl (kJ (ps := []) (cur := #[]) gD ko gr rfl (by kernel_rfl) (by decide) (by decide)) ?_
  rintro _ _ ⟨a_8, rfl, rfl⟩
  refine jA (jJ fo31_4 rfl) <| jK (jV 2 (v := .slice p.x.a0 p.t.calls.length p.x.c0) rfl rfl gb rfl) ?_
  refine jH rfl (kM 0 (q := p.t.calls.length) (news := p.t.calls.flatMap encK) (n' := p.t.calls.length) (cs' := p.t.calls.flatMap encK) rfl gD gD Tryz.typeInfo51 rfl (by' := 72) rfl rfl rfl rfl rfl (fun w hw => Src.sees (hw.seeOut_ hs_1 nM) (oneK _)) (by (try simp only [LE]); omega) (by (try simp only [LE]); omega) (by (try simp only [List.length_take, List.length_drop]); first | rfl | omega) rfl) ?_
  rintro _ _ ⟨a_9, c_10, rfl, rfl⟩
  refine jA (jJ fo31_4 rfl) ?_
  refine jH rfl (jT 2 (vs := [.slice a_9 p.t.calls.length c_10]) (cs' := [iv p.t.id, iv p.t.age, iv p.t.proc, iv p.t.began, .slice a_9 p.t.calls.length c_10, .slice p.x.a1 p.t.ans.length p.x.c1, .slice p.x.a2 p.t.rd.length p.x.c2, .slice p.x.a3 p.t.wr.length p.x.c3, .slice p.x.a4 p.t.marks.length p.x.c4, iv p.t.state]) rfl rfl rfl rfl Tryz.sizeOf24 rfl rfl (lb rfl) rfl) ?_
  rintro _ _ rfl
  refine jD <| jB <| jC <| jE ?_
  refine jH rfl (kJ (ps := []) (cur := #[]) gN kr gG rfl (by kernel_rfl) (by decide) (by decide)) ?_
  rintro _ _ ⟨a_11, rfl, rfl⟩
  refine jA (jJ fo31_5 rfl) <| jK (jV 3 (v := .slice p.x.a1 p.t.ans.length p.x.c1) rfl rfl gh rfl) ?_
  refine jH rfl (kM 0 (q := p.t.ans.length) (news := p.t.ans.flatMap encA) (n' := p.t.ans.length) (cs' := p.t.ans.flatMap encA) rfl gN gN Tryz.typeInfo45 rfl (by' := 32) rfl rfl rfl rfl rfl (fun w hw => Src.sees (hw.seeOut_ hs_2 nM) (oneA _)) (by (try simp only [LE]); omega) (by (try simp only [LE]); omega) (by (try simp only [List.length_take, List.length_drop]); first | rfl | omega) rfl) ?_
  rintro _ _ ⟨a_12, c_13, rfl, rfl⟩
  refine jA (jJ fo31_5 rfl) ?_
  refine jH rfl (jT 3 (vs := [.slice a_12 p.t.ans.length c_13]) (cs' := [iv p.t.id, iv p.t.age, iv p.t.proc, iv p.t.began, .slice a_9 p.t.calls.length c_10, .slice a_12 p.t.ans.length c_13, .slice p.x.a2 p.t.rd.length p.x.c2, .slice p.x.a3 p.t.wr.length p.x.c3, .slice p.x.a4 p.t.marks.length p.x.c4, iv p.t.state]) rfl rfl rfl rfl Tryz.sizeOf25 rfl rfl (lb rfl) rfl) ?_
  rintro _ _ rfl
  refine jD <| jB <| jC <| jr [Res.row (.slice a_12 p.t.ans.length c_13) 45 3 p.t.ans.length (p.t.ans.flatMap encA), Res.row (.slice a_9 p.t.calls.length c_10) 51 6 p.t.calls.length (p.t.calls.flatMap encK), bk b_7 31 xzc, bk b_6 31 [iv p.t.id, iv p.t.age, iv p.t.proc, iv p.t.began, .slice a_9 p.t.calls.length c_10, .slice a_12 p.t.ans.length c_13, .slice p.x.a2 p.t.rd.length p.x.c2, .slice p.x.a3 p.t.wr.length p.x.c3, .slice p.x.a4 p.t.marks.length p.x.c4, iv p.t.state]] 11 mixed (by simp) <| jI 1 rfl (jJ fo31_6 rfl) <| jI 2 rfl (jJ fo28_0 rfl) <| jh 3 rfl (jV 3 (v := .slice p.x.a2 p.t.rd.length p.x.c2) rfl rfl gF rfl) <| jI 6 rfl (jJ fo31_6 rfl) <| jI 7 rfl (jJ fo28_1 rfl) <| jh 8 rfl (jV 3 (v := .slice p.x.a3 p.t.wr.length p.x.c3) rfl rfl gF rfl) ?_
  refine kX (i := 0) (j := 5) (by kernel_rfl) ?_ ?_
  · refine jY rfl rfl (kJ (ps := []) (cur := #[]) ks kw gQ rfl (by kernel_rfl) (by decide) (by decide)) ?_
    rintro _ _ ⟨a_25, rfl, rfl⟩
    refine ⟨by simp, ?_⟩
    refine kX (i := 4) (j := 5) (by kernel_rfl) ?_ ?_
    · refine jY rfl rfl (kM 0 (q := p.t.rd.length) (news := p.t.rd.map str) (n' := p.t.rd.length) (cs' := p.t.rd.map str) rfl ks ks gO rfl (by' := 16) rfl rfl rfl rfl rfl (fun w hw => Src.sees (hw.seeOut_ hs_3 nM) (oneS _)) (by (try simp only [LE]); omega) (by (try simp only [LE]); omega) (by (try simp only [List.length_take, List.length_drop]); first | rfl | omega) rfl) ?_
      rintro _ _ ⟨a_29, c_30, rfl, rfl⟩
      refine ⟨by simp, ?_⟩
      refine jQ (i := 5) ?_
      refine jY rfl rfl (kJ (ps := []) (cur := #[]) ks kw gQ rfl (by kernel_rfl) (by decide) (by decide)) ?_
      rintro _ _ ⟨a_32, rfl, rfl⟩
      refine ⟨by simp, ?_⟩
      refine jQ (i := 9) ?_
      refine jY rfl rfl (kM 0 (q := p.t.wr.length) (news := p.t.wr.map str) (n' := p.t.wr.length) (cs' := p.t.wr.map str) rfl ks ks gO rfl (by' := 16) rfl rfl rfl rfl rfl (fun w hw => Src.sees (hw.seeOut_ hs_4 nM) (oneS _)) (by (try simp only [LE]); omega) (by (try simp only [LE]); omega) (by (try simp only [List.length_take, List.length_drop]); first | rfl | omega) rfl) ?_
      rintro _ _ ⟨a_35, c_36, rfl, rfl⟩
      refine ⟨by simp, ?_⟩
      refine jI 10 rfl (kY (ps := [(0, .slice a_29 p.t.rd.length c_30), (1, .slice a_35 p.t.wr.length c_36)]) (cs := [.slice a_29 p.t.rd.length c_30, .slice a_35 p.t.wr.length c_36]) rfl (by kernel_rfl)) <| jI 11 rfl (jJ fo31_6 rfl) <| jQ (i := 12) ?_
      refine jx rfl (jT 5 (vs := [.slice a_29 p.t.rd.length c_30, .slice a_35 p.t.wr.length c_36]) (cs' := [iv p.t.id, iv p.t.age, iv p.t.proc, iv p.t.began, .slice a_9 p.t.calls.length c_10, .slice a_12 p.t.ans.length c_13, .slice a_29 p.t.rd.length c_30, .slice a_35 p.t.wr.length c_36, .slice p.x.a4 p.t.marks.length p.x.c4, iv p.t.state]) rfl rfl rfl rfl kx rfl rfl (lb rfl) rfl) ?_
      rintro _ _ rfl
      refine jB <| jC <| jE ?_
      refine jH rfl (kJ (ps := []) (cur := #[]) gB kt Tryz.zeroValue3 rfl (by kernel_rfl) (by decide) (by decide)) ?_
      rintro _ _ ⟨a_37, rfl, rfl⟩
      refine jA (jJ fo31_7 rfl) <| jK (jV 6 (v := .slice p.x.a4 p.t.marks.length p.x.c4) rfl rfl gS rfl) ?_
      refine jH rfl (kM 0 (q := p.t.marks.length) (news := p.t.marks.map (Value.int .i64)) (n' := p.t.marks.length) (cs' := p.t.marks.map (Value.int .i64)) rfl gB gB Tryz.typeInfo3 rfl (by' := 8) rfl rfl rfl rfl rfl (fun w hw => Src.sees (hw.seeOut_ hs_5 nM) (oneI _)) (by (try simp only [LE]); omega) (by (try simp only [LE]); omega) (by (try simp only [List.length_take, List.length_drop]); first | rfl | omega) rfl) ?_
      rintro _ _ ⟨a_38, c_39, rfl, rfl⟩
      refine jA (jJ fo31_7 rfl) ?_
      refine jH rfl (jT 6 (vs := [.slice a_38 p.t.marks.length c_39]) (cs' := [iv p.t.id, iv p.t.age, iv p.t.proc, iv p.t.began, .slice a_9 p.t.calls.length c_10, .slice a_12 p.t.ans.length c_13, .slice a_29 p.t.rd.length c_30, .slice a_35 p.t.wr.length c_36, .slice a_38 p.t.marks.length c_39, iv p.t.state]) rfl rfl rfl rfl Tryz.sizeOf29 rfl rfl (lb rfl) rfl) ?_
      rintro _ _ rfl
      refine jD <| jB <| jC <| jE <| jK (jX 6 (vs := [iv p.t.id, iv p.t.age, iv p.t.proc, iv p.t.began, .slice a_9 p.t.calls.length c_10, .slice a_12 p.t.ans.length c_13, .slice a_29 p.t.rd.length c_30, .slice a_35 p.t.wr.length c_36, .slice a_38 p.t.marks.length c_39, iv p.t.state]) rfl rfl kz kq rfl rfl) ?_
      refine jH rfl (jT 5 (vs := [iv p.t.id, iv p.t.age, iv p.t.proc, iv p.t.began, .slice a_9 p.t.calls.length c_10, .slice a_12 p.t.ans.length c_13, .slice a_29 p.t.rd.length c_30, .slice a_35 p.t.wr.length c_36, .slice a_38 p.t.marks.length c_39, iv p.t.state]) (cs' := [iv p.t.id, iv p.t.age, iv p.t.proc, iv p.t.began, .slice a_9 p.t.calls.length c_10, .slice a_12 p.t.ans.length c_13, .slice a_29 p.t.rd.length c_30, .slice a_35 p.t.wr.length c_36, .slice a_38 p.t.marks.length c_39, iv p.t.state]) rfl rfl rfl rfl kq rfl rfl (lb rfl) rfl) ?_
      rintro _ _ rfl
      refine jD <| jB <| jL <| kO (L' := [Res.rows (rdsX (⟨⟨a_9, c_10, a_12, c_13, a_29, c_30, a_35, c_36, a_38, c_39⟩, p.t⟩ : TX)), bk b_7 31 [iv p.t.id, iv p.t.age, iv p.t.proc, iv p.t.began, .slice a_9 p.t.calls.length c_10, .slice a_12 p.t.ans.length c_13, .slice a_29 p.t.rd.length c_30, .slice a_35 p.t.wr.length c_36, .slice a_38 p.t.marks.length c_39, iv p.t.state], bk b_6 31 [iv p.t.id, iv p.t.age, iv p.t.proc, iv p.t.began, .slice a_9 p.t.calls.length c_10, .slice a_12 p.t.ans.length c_13, .slice a_29 p.t.rd.length c_30, .slice a_35 p.t.wr.length c_36, .slice a_38 p.t.marks.length c_39, iv p.t.state]]) (fun w hw => hw.closeR (A := rdsX (⟨⟨a_9, c_10, a_12, c_13, a_29, c_30, a_35, c_36, a_38, c_39⟩, p.t⟩ : TX)) [4, 3, 2, 1, 0] rfl) <| jR (.inl rfl) rfl (je (jX 1 (vs := [iv p.t.id, iv p.t.age, iv p.t.proc, iv p.t.began, .slice a_9 p.t.calls.length c_10, .slice a_12 p.t.ans.length c_13, .slice a_29 p.t.rd.length c_30, .slice a_35 p.t.wr.length c_36, .slice a_38 p.t.marks.length c_39, iv p.t.state]) rfl rfl kz kq rfl rfl) ⟨_, rfl⟩) (tS 1 _) ?_
      exact ⟨(⟨⟨a_9, c_10, a_12, c_13, a_29, c_30, a_35, c_36, a_38, c_39⟩, p.t⟩ : TX), rfl, rfl, rfl⟩
    refine jY rfl rfl (kJ (ps := []) (cur := #[]) ks kw gQ rfl (by kernel_rfl) (by decide) (by decide)) ?_
    rintro _ _ ⟨a_40, rfl, rfl⟩
    refine ⟨by simp, ?_⟩
    refine jQ (i := 4) ?_
    refine jY rfl rfl (kM 1 (q := p.t.rd.length) (news := p.t.rd.map str) (n' := p.t.rd.length) (cs' := p.t.rd.map str) rfl ks ks gO rfl (by' := 16) rfl rfl rfl rfl rfl (fun w hw => Src.sees (hw.seeOut_ hs_3 nM) (oneS _)) (by (try simp only [LE]); omega) (by (try simp only [LE]); omega) (by (try simp only [List.length_take, List.length_drop]); first | rfl | omega) rfl) ?_
    rintro _ _ ⟨a_43, c_44, rfl, rfl⟩
    refine ⟨by simp, ?_⟩
    refine jQ (i := 9) ?_
    refine jY rfl rfl (kM 0 (q := p.t.wr.length) (news := p.t.wr.map str) (n' := p.t.wr.length) (cs' := p.t.wr.map str) rfl ks ks gO rfl (by' := 16) rfl rfl rfl rfl rfl (fun w hw => Src.sees (hw.seeOut_ hs_4 nM) (oneS _)) (by (try simp only [LE]); omega) (by (try simp only [LE]); omega) (by (try simp only [List.length_take, List.length_drop]); first | rfl | omega) rfl) ?_
    rintro _ _ ⟨a_47, c_48, rfl, rfl⟩
    refine ⟨by simp, ?_⟩
    refine jI 10 rfl (kY (ps := [(0, .slice a_43 p.t.rd.length c_44), (1, .slice a_47 p.t.wr.length c_48)]) (cs := [.slice a_43 p.t.rd.length c_44, .slice a_47 p.t.wr.length c_48]) rfl (by kernel_rfl)) <| jI 11 rfl (jJ fo31_6 rfl) <| jQ (i := 12) ?_
    refine jx rfl (jT 5 (vs := [.slice a_43 p.t.rd.length c_44, .slice a_47 p.t.wr.length c_48]) (cs' := [iv p.t.id, iv p.t.age, iv p.t.proc, iv p.t.began, .slice a_9 p.t.calls.length c_10, .slice a_12 p.t.ans.length c_13, .slice a_43 p.t.rd.length c_44, .slice a_47 p.t.wr.length c_48, .slice p.x.a4 p.t.marks.length p.x.c4, iv p.t.state]) rfl rfl rfl rfl kx rfl rfl (lb rfl) rfl) ?_
    rintro _ _ rfl
    refine jB <| jC <| jE ?_
    refine jH rfl (kJ (ps := []) (cur := #[]) gB kt Tryz.zeroValue3 rfl (by kernel_rfl) (by decide) (by decide)) ?_
    rintro _ _ ⟨a_49, rfl, rfl⟩
    refine jA (jJ fo31_7 rfl) <| jK (jV 6 (v := .slice p.x.a4 p.t.marks.length p.x.c4) rfl rfl gS rfl) ?_
    refine jH rfl (kM 0 (q := p.t.marks.length) (news := p.t.marks.map (Value.int .i64)) (n' := p.t.marks.length) (cs' := p.t.marks.map (Value.int .i64)) rfl gB gB Tryz.typeInfo3 rfl (by' := 8) rfl rfl rfl rfl rfl (fun w hw => Src.sees (hw.seeOut_ hs_5 nM) (oneI _)) (by (try simp only [LE]); omega) (by (try simp only [LE]); omega) (by (try simp only [List.length_take, List.length_drop]); first | rfl | omega) rfl) ?_
    rintro _ _ ⟨a_50, c_51, rfl, rfl⟩
    refine jA (jJ fo31_7 rfl) ?_
    refine jH rfl (jT 6 (vs := [.slice a_50 p.t.marks.length c_51]) (cs' := [iv p.t.id, iv p.t.age, iv p.t.proc, iv p.t.began, .slice a_9 p.t.calls.length c_10, .slice a_12 p.t.ans.length c_13, .slice a_43 p.t.rd.length c_44, .slice a_47 p.t.wr.length c_48, .slice a_50 p.t.marks.length c_51, iv p.t.state]) rfl rfl rfl rfl Tryz.sizeOf29 rfl rfl (lb rfl) rfl) ?_
    rintro _ _ rfl
    refine jD <| jB <| jC <| jE <| jK (jX 6 (vs := [iv p.t.id, iv p.t.age, iv p.t.proc, iv p.t.began, .slice a_9 p.t.calls.length c_10, .slice a_12 p.t.ans.length c_13, .slice a_43 p.t.rd.length c_44, .slice a_47 p.t.wr.length c_48, .slice a_50 p.t.marks.length c_51, iv p.t.state]) rfl rfl kz kq rfl rfl) ?_
    refine jH rfl (jT 5 (vs := [iv p.t.id, iv p.t.age, iv p.t.proc, iv p.t.began, .slice a_9 p.t.calls.length c_10, .slice a_12 p.t.ans.length c_13, .slice a_43 p.t.rd.length c_44, .slice a_47 p.t.wr.length c_48, .slice a_50 p.t.marks.length c_51, iv p.t.state]) (cs' := [iv p.t.id, iv p.t.age, iv p.t.proc, iv p.t.began, .slice a_9 p.t.calls.length c_10, .slice a_12 p.t.ans.length c_13, .slice a_43 p.t.rd.length c_44, .slice a_47 p.t.wr.length c_48, .slice a_50 p.t.marks.length c_51, iv p.t.state]) rfl rfl rfl rfl kq rfl rfl (lb rfl) rfl) ?_
    rintro _ _ rfl
    refine jD <| jB <| jL <| kO (L' := [Res.rows (rdsX (⟨⟨a_9, c_10, a_12, c_13, a_43, c_44, a_47, c_48, a_50, c_51⟩, p.t⟩ : TX)), bk b_7 31 [iv p.t.id, iv p.t.age, iv p.t.proc, iv p.t.began, .slice a_9 p.t.calls.length c_10, .slice a_12 p.t.ans.length c_13, .slice a_43 p.t.rd.length c_44, .slice a_47 p.t.wr.length c_48, .slice a_50 p.t.marks.length c_51, iv p.t.state], bk b_6 31 [iv p.t.id, iv p.t.age, iv p.t.proc, iv p.t.began, .slice a_9 p.t.calls.length c_10, .slice a_12 p.t.ans.length c_13, .slice a_43 p.t.rd.length c_44, .slice a_47 p.t.wr.length c_48, .slice a_50 p.t.marks.length c_51, iv p.t.state]]) (fun w hw => hw.closeR (A := rdsX (⟨⟨a_9, c_10, a_12, c_13, a_43, c_44, a_47, c_48, a_50, c_51⟩, p.t⟩ : TX)) [4, 3, 2, 1, 0] rfl) <| jR (.inl rfl) rfl (je (jX 1 (vs := [iv p.t.id, iv p.t.age, iv p.t.proc, iv p.t.began, .slice a_9 p.t.calls.length c_10, .slice a_12 p.t.ans.length c_13, .slice a_43 p.t.rd.length c_44, .slice a_47 p.t.wr.length c_48, .slice a_50 p.t.marks.length c_51, iv p.t.state]) rfl rfl kz kq rfl rfl) ⟨_, rfl⟩) (tS 1 _) ?_
    exact ⟨(⟨⟨a_9, c_10, a_12, c_13, a_43, c_44, a_47, c_48, a_50, c_51⟩, p.t⟩ : TX), rfl, rfl, rfl⟩
  refine jY rfl rfl (kJ (ps := []) (cur := #[]) ks kw gQ rfl (by kernel_rfl) (by decide) (by decide)) ?_
  rintro _ _ ⟨a_52, rfl, rfl⟩
  refine ⟨by simp, ?_⟩
  refine jQ (i := 0) ?_
  refine jY rfl rfl (kJ (ps := []) (cur := #[]) ks kw gQ rfl (by kernel_rfl) (by decide) (by decide)) ?_
  rintro _ _ ⟨a_54, rfl, rfl⟩
  refine ⟨by simp, ?_⟩
  refine jQ (i := 4) ?_
  refine jY rfl rfl (kM 0 (q := p.t.rd.length) (news := p.t.rd.map str) (n' := p.t.rd.length) (cs' := p.t.rd.map str) rfl ks ks gO rfl (by' := 16) rfl rfl rfl rfl rfl (fun w hw => Src.sees (hw.seeOut_ hs_3 nM) (oneS _)) (by (try simp only [LE]); omega) (by (try simp only [LE]); omega) (by (try simp only [List.length_take, List.length_drop]); first | rfl | omega) rfl) ?_
  rintro _ _ ⟨a_57, c_58, rfl, rfl⟩
  refine ⟨by simp, ?_⟩
  refine jQ (i := 9) ?_
  refine jY rfl rfl (kM 1 (q := p.t.wr.length) (news := p.t.wr.map str) (n' := p.t.wr.length) (cs' := p.t.wr.map str) rfl ks ks gO rfl (by' := 16) rfl rfl rfl rfl rfl (fun w hw => Src.sees (hw.seeOut_ hs_4 nM) (oneS _)) (by (try simp only [LE]); omega) (by (try simp only [LE]); omega) (by (try simp only [List.length_take, List.length_drop]); first | rfl | omega) rfl) ?_
  rintro _ _ ⟨a_61, c_62, rfl, rfl⟩
  refine ⟨by simp, ?_⟩
  refine jI 10 rfl (kY (ps := [(0, .slice a_57 p.t.rd.length c_58), (1, .slice a_61 p.t.wr.length c_62)]) (cs := [.slice a_57 p.t.rd.length c_58, .slice a_61 p.t.wr.length c_62]) rfl (by kernel_rfl)) <| jI 11 rfl (jJ fo31_6 rfl) <| jQ (i := 12) ?_
  refine jx rfl (jT 5 (vs := [.slice a_57 p.t.rd.length c_58, .slice a_61 p.t.wr.length c_62]) (cs' := [iv p.t.id, iv p.t.age, iv p.t.proc, iv p.t.began, .slice a_9 p.t.calls.length c_10, .slice a_12 p.t.ans.length c_13, .slice a_57 p.t.rd.length c_58, .slice a_61 p.t.wr.length c_62, .slice p.x.a4 p.t.marks.length p.x.c4, iv p.t.state]) rfl rfl rfl rfl kx rfl rfl (lb rfl) rfl) ?_
  rintro _ _ rfl
  refine jB <| jC <| jE ?_
  refine jH rfl (kJ (ps := []) (cur := #[]) gB kt Tryz.zeroValue3 rfl (by kernel_rfl) (by decide) (by decide)) ?_
  rintro _ _ ⟨a_63, rfl, rfl⟩
  refine jA (jJ fo31_7 rfl) <| jK (jV 6 (v := .slice p.x.a4 p.t.marks.length p.x.c4) rfl rfl gS rfl) ?_
  refine jH rfl (kM 0 (q := p.t.marks.length) (news := p.t.marks.map (Value.int .i64)) (n' := p.t.marks.length) (cs' := p.t.marks.map (Value.int .i64)) rfl gB gB Tryz.typeInfo3 rfl (by' := 8) rfl rfl rfl rfl rfl (fun w hw => Src.sees (hw.seeOut_ hs_5 nM) (oneI _)) (by (try simp only [LE]); omega) (by (try simp only [LE]); omega) (by (try simp only [List.length_take, List.length_drop]); first | rfl | omega) rfl) ?_
  rintro _ _ ⟨a_64, c_65, rfl, rfl⟩
  refine jA (jJ fo31_7 rfl) ?_
  refine jH rfl (jT 6 (vs := [.slice a_64 p.t.marks.length c_65]) (cs' := [iv p.t.id, iv p.t.age, iv p.t.proc, iv p.t.began, .slice a_9 p.t.calls.length c_10, .slice a_12 p.t.ans.length c_13, .slice a_57 p.t.rd.length c_58, .slice a_61 p.t.wr.length c_62, .slice a_64 p.t.marks.length c_65, iv p.t.state]) rfl rfl rfl rfl Tryz.sizeOf29 rfl rfl (lb rfl) rfl) ?_
  rintro _ _ rfl
  refine jD <| jB <| jC <| jE <| jK (jX 6 (vs := [iv p.t.id, iv p.t.age, iv p.t.proc, iv p.t.began, .slice a_9 p.t.calls.length c_10, .slice a_12 p.t.ans.length c_13, .slice a_57 p.t.rd.length c_58, .slice a_61 p.t.wr.length c_62, .slice a_64 p.t.marks.length c_65, iv p.t.state]) rfl rfl kz kq rfl rfl) ?_
  refine jH rfl (jT 5 (vs := [iv p.t.id, iv p.t.age, iv p.t.proc, iv p.t.began, .slice a_9 p.t.calls.length c_10, .slice a_12 p.t.ans.length c_13, .slice a_57 p.t.rd.length c_58, .slice a_61 p.t.wr.length c_62, .slice a_64 p.t.marks.length c_65, iv p.t.state]) (cs' := [iv p.t.id, iv p.t.age, iv p.t.proc, iv p.t.began, .slice a_9 p.t.calls.length c_10, .slice a_12 p.t.ans.length c_13, .slice a_57 p.t.rd.length c_58, .slice a_61 p.t.wr.length c_62, .slice a_64 p.t.marks.length c_65, iv p.t.state]) rfl rfl rfl rfl kq rfl rfl (lb rfl) rfl) ?_
  rintro _ _ rfl
  refine jD <| jB <| jL <| kO (L' := [Res.rows (rdsX (⟨⟨a_9, c_10, a_12, c_13, a_57, c_58, a_61, c_62, a_64, c_65⟩, p.t⟩ : TX)), bk b_7 31 [iv p.t.id, iv p.t.age, iv p.t.proc, iv p.t.began, .slice a_9 p.t.calls.length c_10, .slice a_12 p.t.ans.length c_13, .slice a_57 p.t.rd.length c_58, .slice a_61 p.t.wr.length c_62, .slice a_64 p.t.marks.length c_65, iv p.t.state], bk b_6 31 [iv p.t.id, iv p.t.age, iv p.t.proc, iv p.t.began, .slice a_9 p.t.calls.length c_10, .slice a_12 p.t.ans.length c_13, .slice a_57 p.t.rd.length c_58, .slice a_61 p.t.wr.length c_62, .slice a_64 p.t.marks.length c_65, iv p.t.state]]) (fun w hw => hw.closeR (A := rdsX (⟨⟨a_9, c_10, a_12, c_13, a_57, c_58, a_61, c_62, a_64, c_65⟩, p.t⟩ : TX)) [4, 3, 1, 1, 0] rfl) <| jR (.inl rfl) rfl (je (jX 1 (vs := [iv p.t.id, iv p.t.age, iv p.t.proc, iv p.t.began, .slice a_9 p.t.calls.length c_10, .slice a_12 p.t.ans.length c_13, .slice a_57 p.t.rd.length c_58, .slice a_61 p.t.wr.length c_62, .slice a_64 p.t.marks.length c_65, iv p.t.state]) rfl rfl kz kq rfl rfl) ⟨_, rfl⟩) (tS 1 _) ?_
  exact ⟨(⟨⟨a_9, c_10, a_12, c_13, a_57, c_58, a_61, c_62, a_64, c_65⟩, p.t⟩ : TX), rfl, rfl, rfl⟩

end Go.Proofs.YtghfijncihbojaaGreat

set_option linter.unusedSimpArgs false
set_option linter.unusedVariables false
set_option linter.unnecessarySimpa false
namespace Go.Proofs.YtghfijncihbojaaGreat
open Go Go.RowKit
/-- A transaction's calls and process in range. -/
structure okT (t : TD) : Prop where
  cs : ∀ c ∈ t.calls, c.ok 1048576
  n : t.calls.length ≤ 1000000
  pr : -9223372036854775808 ≤ t.proc ∧ t.proc ≤ 9223372036854775807
theorem okSteps_of {t : TD} (h : okT t) : okSteps (stepsOf t) := fun j hj => by
  have hm := getD_mem (d := p0_) hj
  unfold stepsOf at hm ⊢
  obtain ⟨c, hc, he⟩ := List.mem_map.1 hm
  rw [← he]
  exact ⟨h.cs c hc, h.pr.1, h.pr.2⟩
theorem askV_off {v : List Cell} {t : TD} {c : CL} (h : ¬ t.state = 1) : TD.askV v t c = (t, ⟨2, 0, []⟩) := by rw [TD.askV, if_pos h]
theorem askV_full {v : List Cell} {t : TD} {c : CL} (h : t.state = 1) (h2 : 12 ≤ t.calls.length) : TD.askV v t c = (t, ⟨3, 0, []⟩) := by rw [TD.askV, if_neg (fun hn => hn h), if_pos h2]
theorem askV_on {v : List Cell} {t : TD} {c : CL} (h : t.state = 1) (h2 : ¬ 12 ≤ t.calls.length) : TD.askV v t c = ({ t with calls := t.calls ++ [c], ans := t.ans ++ [((⟨v, [], []⟩ : MS).doCall t.proc c).2], rd := ((⟨v, [], []⟩ : MS).doCall t.proc c).1.r.foldl addSpan t.rd, wr := ((⟨v, [], []⟩ : MS).doCall t.proc c).1.w.foldl addSpan t.wr }, ((⟨v, [], []⟩ : MS).doCall t.proc c).2) := by rw [TD.askV, if_neg (fun hn => hn h), if_neg h2]
theorem since_le {t : TD} {q : Int} {n : Nat} (h : t.lim n) : (t.since q).length ≤ n := by
  have h0 := h.l0
  unfold TD.since
  split
  · rw [List.length_drop]; omega
  · exact Nat.zero_le _
end Go.Proofs.YtghfijncihbojaaGreat

set_option linter.unusedSimpArgs false
set_option linter.unusedVariables false
set_option linter.unnecessarySimpa false
namespace Go.Proofs.YtghfijncihbojaaGreat
open Go Go.RowKit
section
variable {P : Program} {ops : Array Oper} {Q : Exit → Act → World → Prop} {n : Nat} {w0 : World} {D : List Nat} {L M : List Res} {e : Env} {z fuel : Nat} {listed : Array Bool}
theorem JX.opOnD {i : Nat} {o : Oper} {Φ : Value → List Res → Prop} {j : Nat} {b : Bool} {t : Tmp} (hi : ops[i]? = some o) (hg : o.guard = some (j, b)) (hj : (ops[j]?).bind (·.dst) = some t) (ht : Nat.blt t n = true) (hv : e t = .bool b) (ho : JO P n w0 D L e o Φ)
    (h : ∀ v L', Φ v L' → (∀ r ∈ M, r ∈ L') ∧ JA P ops Q n w0 D M z fuel (listed.setIfInBounds i true) L' (updO e o.dst v)) : JX P ops Q n w0 D M z fuel listed L e i := fun w hw => by
  have hlt : t < n := (Nat.blt_eq (x := t) (y := n)) ▸ ht
  have hyy : yielded ops (act n e).tmps j = some b := by simp [yielded, hj, act, hlt, hv]
  unfold wpOp
  simp only [hi]
  rw [if_pos (by simp [Region.wanted, hg, hyy])]
  refine .inl (ho w hw _ Q fun v L' w' hΦ hw' => ?_)
  obtain ⟨h1, h2⟩ := h v L' hΦ
  have hq := hw'.qw.sub h1
  exact ⟨fun _ => .inr hq, h2 w' hw' hq⟩
end
attribute [local irreducible] JL JC JQ JO LO PO JA JX Ct

end Go.Proofs.YtghfijncihbojaaGreat

set_option linter.unusedSimpArgs false
set_option linter.unusedVariables false
set_option linter.unnecessarySimpa false
namespace Go.Proofs.YtghfijncihbojaaGreat
open Go Go.RowKit
/- texts: one of three -/
def within (lo n hi : Int) : Bool := decide (lo ≤ n) && decide (n ≤ hi)
/- a store -/
/- a disk -/
/- a kernel -/
end Go.Proofs.YtghfijncihbojaaGreat

set_option linter.unusedSimpArgs false
set_option linter.unusedVariables false
set_option linter.unnecessarySimpa false
namespace Go.Proofs.YtghfijncihbojaaGreat
open Go Go.RowKit
section
variable {P : Program} {n : Nat} {e : Env} {d : Option Tmp} {ty : TypeId} {pos : String} {aft : Array Edge} {gd : Option (Nat × Bool)}
theorem PO.sliceVmD {x hi mx : Operand} {a : Option Addr} {m c j z k : Nat} {q q' : IntKind} {t el : TypeId} (ht : P.underlying t = some (.slice el)) (hs : ∀ w, (sizeOf el).run P w = .ok k w) (ha : a.bind (·.spot) = none)
    (hx : rd n e x = .slice a m c) (hh : rd n e hi = .int q j) (hm : rd n e mx = .int q' z) (h1 : j ≤ z) (h2 : z ≤ c) : PO P n e ⟨d, .slice t x none (some hi) (some mx), ty, pos, aft, gd⟩ (.slice a j z) := fun w => by
  have hsub := sub_add (k := k) (c := z) (lo := 0) ha
  rw [sub_zero ha] at hsub
  have hsub' : (if z = 0 then a else a.map (·.add 0)) = a := by rw [Nat.zero_mul] at hsub; exact hsub
  simp [execOp, run_sliceAt_slice _ _ _ _ _ _ (elem_of ht), Instr.slice, run_underlying ht, hx, hh, hm, Instr.sliceBounds, Instr.sliceBound, asIntOf, hs, h1, h2, hsub']
theorem PO.min2D {x y : Operand} {a b c : Int} {ts : Array TypeId} (hx : rd n e x = .int .i64 a) (hy : rd n e y = .int .i64 b) (hc : min a b = c) : PO P n e ⟨d, .call ⟨.builtin .min, #[x, y], ts⟩, ty, pos, aft, gd⟩ (.int .i64 c) := fun w => by
  subst hc
  simp [execOp, resolve, invoke, builtin, hx, hy, Lib.run_min_ints]
theorem PO.max2D {x y : Operand} {a b c : Int} {ts : Array TypeId} (hx : rd n e x = .int .i64 a) (hy : rd n e y = .int .i64 b) (hc : max a b = c) : PO P n e ⟨d, .call ⟨.builtin .max, #[x, y], ts⟩, ty, pos, aft, gd⟩ (.int .i64 c) := fun w => by
  subst hc
  simp [execOp, resolve, invoke, builtin, hx, hy, Lib.run_max_ints]
theorem PO.castSl {o : Oper} {a : Option Addr} {m k c : Nat} (h : PO P n e o (.slice a m c)) (hm : m = k) : PO P n e o (.slice a k c) := hm ▸ h
theorem castSees {w : World} {a : Option Addr} {m q c k : Nat} {vs : List Value} (h : Sees w (.slice a m c) k m vs) (hm : m = q) : Sees w (.slice a q c) k q vs := hm ▸ h
theorem PO.castVD {o : Oper} {v v' : Value} (h : PO P n e o v) (hv : v = v') : PO P n e o v' := hv ▸ h
end
end Go.Proofs.YtghfijncihbojaaGreat

set_option linter.unusedSimpArgs false
set_option linter.unusedVariables false
set_option linter.unnecessarySimpa false
namespace Go.Proofs.YtghfijncihbojaaGreat
open Go Go.RowKit
attribute [local irreducible] JL JC JQ JO LO PO JA JX Ct

theorem Y_within (n lo hi : Int) :
    Ct Tryz.prog 35 [.int .i64 n, .int .i64 lo, .int .i64 hi] [] (fun _ => True) (fun v A' => v = .bool (within lo n hi) ∧ A' = []) := by
  refine Ct.intro Tryz.func35 rfl Tryz.ntmps35 (lb rfl) fun w0 hpre => ?_
  refine jC <| jE <| jA (jG (v := .bool false) rfl) <| jD <| jB <| jC <| jE <| jA (jF (v := iv n) rfl) <| jA (jF (v := iv lo) rfl) <| jA (kh rfl rfl) ?_
  refine jA (jF (v := .bool (decide (lo ≤ n))) rfl) ?_
  by_cases h_1 : lo ≤ n
  · refine jZ rfl rfl rfl (cB (dT h_1)) (ja (jf (jF (v := iv n) rfl))) ?_
    rintro _ _ ⟨rfl, rfl⟩
    refine jZ rfl rfl rfl (cB (dT h_1)) (ja (jf (jF (v := iv hi) rfl))) ?_
    rintro _ _ ⟨rfl, rfl⟩
    refine jZ rfl rfl rfl (cB (dT h_1)) (ja (jf (PO.leq rfl rfl))) ?_
    rintro _ _ ⟨rfl, rfl⟩
    refine jA (kG (v := .bool (decide (n ≤ hi))) (cB (dT h_1)) rfl) <| jA (jG (v := .bool (decide (n ≤ hi))) rfl) <| jD <| jB <| jL <| jR (.inl rfl) rfl (jN (v := .bool (decide (n ≤ hi))) rfl) (List.nil_sublist _) ?_
    refine ⟨?_, rfl⟩
    unfold within
    simp_all <;> omega
  refine jS (b := false) rfl rfl rfl (cB (dF h_1)) <| jS (b := false) rfl rfl rfl (cB (dF h_1)) <| jS (b := false) rfl rfl rfl (cB (dF h_1)) <| jA (jv (v := .bool false) (cB (dF h_1)) rfl) <| jA (jG (v := .bool false) rfl) <| jD <| jB <| jL <| jR (.inl rfl) rfl (jN (v := .bool false) rfl) (List.nil_sublist _) ?_
  refine ⟨?_, rfl⟩
  unfold within
  simp_all <;> omega

theorem Y_l01In (n lo hi : Int) :
    Ct Tryz.prog 40 [.int .i64 n, .int .i64 lo, .int .i64 hi] [] (fun _ => True) (fun v A' => v = .bool (within lo n hi) ∧ A' = []) := by
  refine Ct.intro Tryz.func40 rfl Tryz.ntmps40 (lb rfl) fun w0 hpre => ?_
  refine jC <| jE <| jA (jG (v := .bool false) rfl) <| jD <| jB <| jC <| jE <| jA (jF (v := iv n) rfl) <| jA (jF (v := iv lo) rfl) <| jA (kh rfl rfl) ?_
  refine jA (jF (v := .bool (decide (lo ≤ n))) rfl) ?_
  by_cases h_1 : lo ≤ n
  · refine jZ rfl rfl rfl (cB (dT h_1)) (ja (jf (jF (v := iv n) rfl))) ?_
    rintro _ _ ⟨rfl, rfl⟩
    refine jZ rfl rfl rfl (cB (dT h_1)) (ja (jf (jF (v := iv hi) rfl))) ?_
    rintro _ _ ⟨rfl, rfl⟩
    refine jZ rfl rfl rfl (cB (dT h_1)) (ja (jf (PO.leq rfl rfl))) ?_
    rintro _ _ ⟨rfl, rfl⟩
    refine jA (kG (v := .bool (decide (n ≤ hi))) (cB (dT h_1)) rfl) <| jA (jG (v := .bool (decide (n ≤ hi))) rfl) <| jD <| jB <| jL <| jR (.inl rfl) rfl (jN (v := .bool (decide (n ≤ hi))) rfl) (List.nil_sublist _) ?_
    refine ⟨?_, rfl⟩
    unfold within
    simp_all <;> omega
  refine jS (b := false) rfl rfl rfl (cB (dF h_1)) <| jS (b := false) rfl rfl rfl (cB (dF h_1)) <| jS (b := false) rfl rfl rfl (cB (dF h_1)) <| jA (jv (v := .bool false) (cB (dF h_1)) rfl) <| jA (jG (v := .bool false) rfl) <| jD <| jB <| jL <| jR (.inl rfl) rfl (jN (v := .bool false) rfl) (List.nil_sublist _) ?_
  refine ⟨?_, rfl⟩
  unfold within
  simp_all <;> omega

theorem Y_implbro (x : Int) (y : Nat) :
    Ct Tryz.prog 37 [.int .i64 x, .int .i64 0, .int .i64 ((y : Nat) : Int)] [] (fun _ => True) (fun v A' => v = .int .i64 ((bro x y : Nat) : Int) ∧ A' = []) := by
  refine Ct.intro Tryz.func37 rfl Tryz.ntmps37 (lb rfl) fun w0 hpre => ?_
  refine jC <| jE <| jA (jG (v := iv 0) rfl) <| jD <| jB <| jC <| jE <| jA (jF (v := iv 0) rfl) <| jA (jF (v := iv x) rfl) <| jA (jF (v := nv y) rfl) ?_
  refine jA (PO.min2D (c := min x ((y : Nat) : Int)) rfl rfl rfl) <| jA (PO.max2D (c := max 0 (min x ((y : Nat) : Int))) rfl rfl rfl) <| jA (jG (v := iv (max 0 (min x ((y : Nat) : Int)))) rfl) <| jD <| jB <| jL <| jR (.inl rfl) rfl (jN (v := iv (max 0 (min x ((y : Nat) : Int)))) rfl) (List.nil_sublist _) ?_
  refine ⟨?_, rfl⟩
  exact congrArg (Value.int .i64) (by unfold bro; first | omega | (simp only [Int.min_def, Int.max_def]; omega) | grind)

theorem Y_specbro (x : Int) (y : Nat) :
    Ct Tryz.prog 41 [.int .i64 x, .int .i64 0, .int .i64 ((y : Nat) : Int)] [] (fun _ => True) (fun v A' => v = .int .i64 ((bro x y : Nat) : Int) ∧ A' = []) := by
  refine Ct.intro Tryz.func41 rfl Tryz.ntmps41 (lb rfl) fun w0 hpre => ?_
  refine jC <| jE <| jA (jG (v := iv 0) rfl) <| jD <| jB <| jC <| jC <| jE <| jA (jF (v := nv y) rfl) <| jA (jF (v := iv 0) rfl) ?_
  refine jA (jo rfl rfl) <| jA (jF (v := .bool (decide (((y : Nat) : Int) < 0))) rfl) ?_
  by_cases h_1 : ((y : Nat) : Int) < 0
  · refine jS (b := true) rfl rfl rfl (cB (dT h_1)) <| jS (b := true) rfl rfl rfl (cB (dT h_1)) <| jS (b := true) rfl rfl rfl (cB (dT h_1)) <| jA (kG (v := .bool true) (cB (dT h_1)) rfl) <| jD <| jB <| jO (cB rfl) <| jC <| jE <| jA (jF (v := iv 0) rfl) ?_
    refine jA (jG (v := iv 0) rfl) <| jD <| jB <| jL <| jW <| jR (.inl rfl) rfl (jN (v := iv 0) rfl) (List.nil_sublist _) ?_
    refine ⟨?_, rfl⟩
    exact congrArg (Value.int .i64) (by unfold bro; first | omega | (simp only [Int.min_def, Int.max_def]; omega) | grind)
  refine jZ rfl rfl rfl (cB (dF h_1)) (ja (jf (jF (v := iv x) rfl))) ?_
  rintro _ _ ⟨rfl, rfl⟩
  refine jZ rfl rfl rfl (cB (dF h_1)) (ja (jf (jF (v := iv 0) rfl))) ?_
  rintro _ _ ⟨rfl, rfl⟩
  refine jZ rfl rfl rfl (cB (dF h_1)) (ja (jf (jo rfl rfl))) ?_
  rintro _ _ ⟨rfl, rfl⟩
  refine jA (jv (v := .bool (decide (x < 0))) (cB (dF h_1)) rfl) <| jD <| jB ?_
  by_cases h_2 : x < 0
  · refine jO (cB (dT h_2)) <| jC <| jE <| jA (jF (v := iv 0) rfl) <| jA (jG (v := iv 0) rfl) <| jD <| jB <| jL <| jW <| jR (.inl rfl) rfl (jN (v := iv 0) rfl) (List.nil_sublist _) ?_
    refine ⟨?_, rfl⟩
    exact congrArg (Value.int .i64) (by unfold bro; first | omega | (simp only [Int.min_def, Int.max_def]; omega) | grind)
  refine jP (cB (dF h_2)) <| jU <| jB <| jC <| jC <| jE <| jA (jF (v := iv x) rfl) <| jA (jF (v := nv y) rfl) <| jA (ke rfl rfl) <| jD ?_
  refine jB ?_
  by_cases h_3 : ((y : Nat) : Int) < x
  · refine jO (cB (dT h_3)) <| jC <| jE <| jA (jF (v := nv y) rfl) <| jA (jG (v := nv y) rfl) <| jD <| jB <| jL <| jW <| jR (.inl rfl) rfl (jN (v := nv y) rfl) (List.nil_sublist _) ?_
    refine ⟨?_, rfl⟩
    exact congrArg (Value.int .i64) (by unfold bro; first | omega | (simp only [Int.min_def, Int.max_def]; omega) | grind)
  refine jP (cB (dF h_3)) <| jU <| jB <| jC <| jE <| jA (jF (v := iv x) rfl) <| jA (jG (v := iv x) rfl) <| jD <| jB <| jL ?_
  refine jR (.inl rfl) rfl (jN (v := iv x) rfl) (List.nil_sublist _) ?_
  refine ⟨?_, rfl⟩
  exact congrArg (Value.int .i64) (by unfold bro; first | omega | (simp only [Int.min_def, Int.max_def]; omega) | grind)

end Go.Proofs.YtghfijncihbojaaGreat

set_option linter.unusedSimpArgs false
set_option linter.unusedVariables false
set_option linter.unnecessarySimpa false
namespace Go.Proofs.YtghfijncihbojaaGreat
open Go Go.RowKit
theorem within_true {lo n hi : Int} (h : within lo n hi = true) : lo ≤ n ∧ n ≤ hi := by simpa only [within, Bool.and_eq_true, decide_eq_true_eq] using h
theorem within_false {lo n hi : Int} (h : within lo n hi = false) : ¬ (lo ≤ n ∧ n ≤ hi) := fun hh => by rw [within, decide_eq_true hh.1, decide_eq_true hh.2] at h; cases h
theorem len_front {α : Type} {l : List α} {n : Nat} (h : n ≤ l.length) : (l.take n).length = n := by rw [List.length_take]; omega
theorem front_flat {α : Type} {enc : α → List Value} {k : Nat} (hk : ∀ x, (enc x).length = k) {l : List α} {n : Nat} (h : n ≤ l.length) : (l.flatMap enc).take ((l.take n).length * k) = (l.take n).flatMap enc := by rw [len_front h, flat_takeN hk]
theorem front_map {α : Type} {f : α → Value} {l : List α} {n : Nat} (h : n ≤ l.length) : (l.map f).take ((l.take n).length * 1) = (l.take n).map f := by rw [len_front h, Nat.mul_one, List.map_take]
def TD.drop (t : TD) : TD × Bool := ({ t with state := 3 }, true)
theorem TD.back_lim {t : TD} {m : Nat} {q : Int} (h : t.lim m) : (t.back q).1.lim m := by
  unfold TD.back
  split
  · refine ⟨?_, ?_, h.l2, h.l3, ?_⟩ <;> simp only [List.length_take]
    · exact Nat.le_trans (Nat.min_le_right ..) h.l0
    · exact Nat.le_trans (Nat.min_le_right ..) h.l1
    · exact Nat.le_trans (Nat.min_le_right ..) h.l4
  · exact h
end Go.Proofs.YtghfijncihbojaaGreat

set_option linter.unusedSimpArgs false
set_option linter.unusedVariables false
set_option linter.unnecessarySimpa false
namespace Go.Proofs.YtghfijncihbojaaGreat
open Go Go.RowKit
attribute [local irreducible] JL JC JQ JO LO PO JA JX Ct

set_option maxRecDepth 4000 in
set_option maxHeartbeats 1000000 in
theorem Y_implTxMark (p : TX) (hl : p.t.lim 1000000000) :
    Ct Tryz.prog 7 [.agg #[.int .i64 p.t.id, .int .i64 p.t.age, .int .i64 p.t.proc, .int .i64 p.t.began, .slice p.x.a0 p.t.calls.length p.x.c0, .slice p.x.a1 p.t.ans.length p.x.c1, .slice p.x.a2 p.t.rd.length p.x.c2, .slice p.x.a3 p.t.wr.length p.x.c3, .slice p.x.a4 p.t.marks.length p.x.c4, .int .i64 p.t.state]] [] (fun w => SeesA w (rdsX p)) (fun v A' => ∃ z : TX, z.t = p.t.mark.1 ∧ v = .tuple #[.agg #[.int .i64 z.t.id, .int .i64 z.t.age, .int .i64 z.t.proc, .int .i64 z.t.began, .slice z.x.a0 z.t.calls.length z.x.c0, .slice z.x.a1 z.t.ans.length z.x.c1, .slice z.x.a2 z.t.rd.length z.x.c2, .slice z.x.a3 z.t.wr.length z.x.c3, .slice z.x.a4 z.t.marks.length z.x.c4, .int .i64 z.t.state], .int .i64 p.t.mark.2] ∧ A' = [.rows (rdsX z)]) := by
  refine Ct.intro Tryz.func7 rfl Tryz.ntmps7 (lb rfl) fun w0 hpre => ?_
  obtain ⟨hs_1, hs_2, hs_3, hs_4, hs_5⟩ := seesX hpre
  have hlp := hl
  obtain ⟨hb_6, hb_7, hb_8, hb_9, hb_10⟩ := hl
  refine jC <| jE ?_
  refine jH rfl (jy (cs := (xc p)) rfl rfl) ?_
  rintro _ _ ⟨b_11, rfl, rfl⟩
  refine jH rfl (jn (z := xz) (cs := xzc) gH rfl) ?_
  rintro _ _ ⟨b_12, rfl, rfl⟩
  refine jA (jG (v := iv 0) rfl) <| jD <| jB <| jC <| jE <| jK (jX 1 (vs := (xc p)) rfl rfl kz kq rfl rfl) ?_
  refine jH rfl (jM [] Tryz.call31 rfl (Z_implTxclone p hlp) rfl (fun w hw => hw.seeOutA hpre nMA)) ?_
  rintro _ _ ⟨_, ⟨y_13, hy_14, rfl, rfl⟩, rfl⟩
  refine jH rfl (jn (z := xz) (cs := xzc) gH rfl) ?_
  rintro _ _ ⟨b_15, rfl, rfl⟩
  refine jH rfl (jT 0 (vs := (xc y_13)) (cs' := (xc y_13)) rfl rfl rfl rfl kq rfl rfl (lb rfl) rfl) ?_
  rintro _ _ rfl
  refine jD <| jB <| jC <| jC <| jE <| jA (jJ fo31_8 rfl) <| jK (jV 3 (v := iv p.t.state) rfl rfl kp rfl) <| jA (kN rfl rfl) <| jA (jF (v := .bool (!(decide (p.t.state = 1)))) rfl) ?_
  by_cases h_16 : p.t.state = 1
  · refine jZ rfl rfl rfl (cB (cN (dT h_16))) (ja (jf (jJ fo31_7 rfl))) ?_
    rintro _ _ ⟨rfl, rfl⟩
    refine jZ rfl rfl rfl (cB (cN (dT h_16))) (ja (jV 3 (v := .slice p.x.a4 p.t.marks.length p.x.c4) rfl rfl gS rfl)) ?_
    rintro _ _ ⟨rfl, rfl⟩
    refine jZ rfl rfl rfl (cB (cN (dT h_16))) (ja (jf (jp gB rfl))) ?_
    rintro _ _ ⟨rfl, rfl⟩
    refine jZ rfl rfl rfl (cB (cN (dT h_16))) (ja (jf (kh rfl rfl))) ?_
    rintro _ _ ⟨rfl, rfl⟩
    refine jA (jv (v := .bool (decide (4 ≤ ((p.t.marks.length : Nat) : Int)))) (cB (cN (dT h_16))) rfl) <| jD <| jB ?_
    by_cases h_17 : 4 ≤ ((p.t.marks.length : Nat) : Int)
    · refine jO (cB (dT h_17)) <| jC <| jE <| jK (jX 0 (vs := (xc y_13)) rfl rfl kz kq rfl rfl) ?_
      refine jH rfl (jT 2 (vs := (xc y_13)) (cs' := (xc y_13)) rfl rfl rfl rfl kq rfl rfl (lb rfl) rfl) ?_
      rintro _ _ rfl
      refine jA (jG (v := iv 0) rfl) <| jD <| jB <| jL <| jW <| kR (pick_perm [1] (A := [Res.rows (rdsX y_13)]) (F := [bk b_15 31 (xc y_13), bk b_12 31 (xc y_13), bk b_11 31 (xc p)]) rfl).symm <| kB (.inl rfl) rfl (je (jX 2 (vs := (xc y_13)) rfl rfl kz kq rfl rfl) ⟨_, rfl⟩) (jN (v := iv 0) rfl) (tS 1 _) ?_
      have hm : p.t.mark = (p.t, 0) := if_neg (by omega)
      exact ⟨y_13, by rw [hm]; exact hy_14, by rw [hm], rfl⟩
    refine jP (cB (dF h_17)) <| jU <| jB <| jC <| kg (L' := [Res.row (.slice y_13.x.a0 y_13.t.calls.length y_13.x.c0) 51 6 y_13.t.calls.length (y_13.t.calls.flatMap encK), Res.row (.slice y_13.x.a1 y_13.t.ans.length y_13.x.c1) 45 3 y_13.t.ans.length (y_13.t.ans.flatMap encA), rS y_13.x.a2 y_13.x.c2 y_13.t.rd, rS y_13.x.a3 y_13.x.c3 y_13.t.wr, rI y_13.x.a4 y_13.x.c4 y_13.t.marks, bk b_15 31 (xc y_13), bk b_12 31 xzc, bk b_11 31 (xc p)]) (fun w hw => hw.openR 1 rfl) ?_
    have hst : y_13.t.state = p.t.state := congrArg TD.state hy_14
    have hml : y_13.t.marks.length = p.t.marks.length := by rw [hy_14]
    refine jE <| jA (jJ fo31_7 rfl) <| jK (jV 5 (v := .slice y_13.x.a4 y_13.t.marks.length y_13.x.c4) rfl rfl gS rfl) <| jA (jJ fo31_4 rfl) <| jK (jV 7 (v := .slice p.x.a0 p.t.calls.length p.x.c0) rfl rfl gb rfl) <| jA (jp gD rfl) ?_
    refine jH rfl (kJ (ps := [(0, nv p.t.calls.length)]) (cur := #[nv p.t.calls.length]) gB kt Tryz.zeroValue3 rfl (by kernel_rfl) (by decide) (by decide)) ?_
    rintro _ _ ⟨a_18, rfl, rfl⟩
    refine jH rfl (kM 5 (q := 1) (news := ([((p.t.calls.length : Nat) : Int)] : List Int).map (Value.int .i64)) (n' := (y_13.t.marks ++ ([((p.t.calls.length : Nat) : Int)] : List Int)).length) (cs' := (y_13.t.marks ++ ([((p.t.calls.length : Nat) : Int)] : List Int)).map (Value.int .i64)) rfl gB gB Tryz.typeInfo3 rfl (by' := 8) rfl rfl rfl rfl rfl (fun w hw => Src.sees (hw.see (i := 0) rfl) (oneI _)) (by (try simp only [LE]); omega) (by (try simp only [LE]); omega) (by simp only [List.length_append, List.length_take, List.length_drop, List.length_cons, List.length_nil] <;> first | rfl | omega) (by simp only [List.map_append])) ?_
    rintro _ _ ⟨a_19, c_20, rfl, rfl⟩
    refine jA (jJ fo31_7 rfl) ?_
    refine jH rfl (jT 6 (vs := [.slice a_19 ((y_13.t.marks ++ ([((p.t.calls.length : Nat) : Int)] : List Int)).length) c_20]) (cs' := [iv y_13.t.id, iv y_13.t.age, iv y_13.t.proc, iv y_13.t.began, .slice y_13.x.a0 y_13.t.calls.length y_13.x.c0, .slice y_13.x.a1 y_13.t.ans.length y_13.x.c1, .slice y_13.x.a2 y_13.t.rd.length y_13.x.c2, .slice y_13.x.a3 y_13.t.wr.length y_13.x.c3, .slice a_19 ((y_13.t.marks ++ ([((p.t.calls.length : Nat) : Int)] : List Int)).length) c_20, iv y_13.t.state]) rfl rfl rfl rfl Tryz.sizeOf29 rfl rfl (lb rfl) rfl) ?_
    rintro _ _ rfl
    refine jD <| jB <| jC <| jr [Res.row (.slice a_18 1 1) 3 1 1 (([((p.t.calls.length : Nat) : Int)] : List Int).map (Value.int .i64)), Res.row (.slice y_13.x.a0 y_13.t.calls.length y_13.x.c0) 51 6 y_13.t.calls.length (y_13.t.calls.flatMap encK), Res.row (.slice y_13.x.a1 y_13.t.ans.length y_13.x.c1) 45 3 y_13.t.ans.length (y_13.t.ans.flatMap encA), rS y_13.x.a2 y_13.x.c2 y_13.t.rd, rS y_13.x.a3 y_13.x.c3 y_13.t.wr, rI a_19 c_20 (y_13.t.marks ++ ([((p.t.calls.length : Nat) : Int)] : List Int)), bk b_15 31 [iv y_13.t.id, iv y_13.t.age, iv y_13.t.proc, iv y_13.t.began, .slice y_13.x.a0 y_13.t.calls.length y_13.x.c0, .slice y_13.x.a1 y_13.t.ans.length y_13.x.c1, .slice y_13.x.a2 y_13.t.rd.length y_13.x.c2, .slice y_13.x.a3 y_13.t.wr.length y_13.x.c3, .slice a_19 ((y_13.t.marks ++ ([((p.t.calls.length : Nat) : Int)] : List Int)).length) c_20, iv y_13.t.state], bk b_11 31 (xc p)] 5 mixed (by simp) <| jh 0 rfl (jX 6 (vs := [iv y_13.t.id, iv y_13.t.age, iv y_13.t.proc, iv y_13.t.began, .slice y_13.x.a0 y_13.t.calls.length y_13.x.c0, .slice y_13.x.a1 y_13.t.ans.length y_13.x.c1, .slice y_13.x.a2 y_13.t.rd.length y_13.x.c2, .slice y_13.x.a3 y_13.t.wr.length y_13.x.c3, .slice a_19 ((y_13.t.marks ++ ([((p.t.calls.length : Nat) : Int)] : List Int)).length) c_20, iv y_13.t.state]) rfl rfl kz kq rfl rfl) <| jI 1 rfl (jJ fo31_7 rfl) <| jh 2 rfl (jV 6 (v := .slice a_19 ((y_13.t.marks ++ ([((p.t.calls.length : Nat) : Int)] : List Int)).length) c_20) rfl rfl gS rfl) <| jI 3 rfl (jp gB rfl) <| jQ (i := 4) ?_
    refine jY rfl rfl (jT 7 (vs := [iv y_13.t.id, iv y_13.t.age, iv y_13.t.proc, iv y_13.t.began, .slice y_13.x.a0 y_13.t.calls.length y_13.x.c0, .slice y_13.x.a1 y_13.t.ans.length y_13.x.c1, .slice y_13.x.a2 y_13.t.rd.length y_13.x.c2, .slice y_13.x.a3 y_13.t.wr.length y_13.x.c3, .slice a_19 ((y_13.t.marks ++ ([((p.t.calls.length : Nat) : Int)] : List Int)).length) c_20, iv y_13.t.state]) (cs' := [iv y_13.t.id, iv y_13.t.age, iv y_13.t.proc, iv y_13.t.began, .slice y_13.x.a0 y_13.t.calls.length y_13.x.c0, .slice y_13.x.a1 y_13.t.ans.length y_13.x.c1, .slice y_13.x.a2 y_13.t.rd.length y_13.x.c2, .slice y_13.x.a3 y_13.t.wr.length y_13.x.c3, .slice a_19 ((y_13.t.marks ++ ([((p.t.calls.length : Nat) : Int)] : List Int)).length) c_20, iv y_13.t.state]) rfl rfl rfl rfl kq rfl rfl (lb rfl) rfl) ?_
    rintro _ _ rfl
    refine ⟨by simp, ?_⟩
    refine jI 5 rfl (jG (v := iv (((y_13.t.marks ++ ([((p.t.calls.length : Nat) : Int)] : List Int)).length : Nat) : Int)) rfl) <| kI (by kernel_rfl) <| jB <| jL <| kO (L' := [Res.rows (rdsX (⟨⟨y_13.x.a0, y_13.x.c0, y_13.x.a1, y_13.x.c1, y_13.x.a2, y_13.x.c2, y_13.x.a3, y_13.x.c3, a_19, c_20⟩, ⟨y_13.t.id, y_13.t.age, y_13.t.proc, y_13.t.began, y_13.t.calls, y_13.t.ans, y_13.t.rd, y_13.t.wr, (y_13.t.marks ++ ([((p.t.calls.length : Nat) : Int)] : List Int)), y_13.t.state⟩⟩ : TX)), Res.row (.slice a_18 1 1) 3 1 1 (([((p.t.calls.length : Nat) : Int)] : List Int).map (Value.int .i64)), bk b_15 31 [iv y_13.t.id, iv y_13.t.age, iv y_13.t.proc, iv y_13.t.began, .slice y_13.x.a0 y_13.t.calls.length y_13.x.c0, .slice y_13.x.a1 y_13.t.ans.length y_13.x.c1, .slice y_13.x.a2 y_13.t.rd.length y_13.x.c2, .slice y_13.x.a3 y_13.t.wr.length y_13.x.c3, .slice a_19 ((y_13.t.marks ++ ([((p.t.calls.length : Nat) : Int)] : List Int)).length) c_20, iv y_13.t.state], bk b_12 31 [iv y_13.t.id, iv y_13.t.age, iv y_13.t.proc, iv y_13.t.began, .slice y_13.x.a0 y_13.t.calls.length y_13.x.c0, .slice y_13.x.a1 y_13.t.ans.length y_13.x.c1, .slice y_13.x.a2 y_13.t.rd.length y_13.x.c2, .slice y_13.x.a3 y_13.t.wr.length y_13.x.c3, .slice a_19 ((y_13.t.marks ++ ([((p.t.calls.length : Nat) : Int)] : List Int)).length) c_20, iv y_13.t.state], bk b_11 31 (xc p)]) (fun w hw => hw.closeR (A := rdsX (⟨⟨y_13.x.a0, y_13.x.c0, y_13.x.a1, y_13.x.c1, y_13.x.a2, y_13.x.c2, y_13.x.a3, y_13.x.c3, a_19, c_20⟩, ⟨y_13.t.id, y_13.t.age, y_13.t.proc, y_13.t.began, y_13.t.calls, y_13.t.ans, y_13.t.rd, y_13.t.wr, (y_13.t.marks ++ ([((p.t.calls.length : Nat) : Int)] : List Int)), y_13.t.state⟩⟩ : TX)) [1, 1, 1, 1, 1] rfl) <| kB (.inl rfl) rfl (je (jX 3 (vs := [iv y_13.t.id, iv y_13.t.age, iv y_13.t.proc, iv y_13.t.began, .slice y_13.x.a0 y_13.t.calls.length y_13.x.c0, .slice y_13.x.a1 y_13.t.ans.length y_13.x.c1, .slice y_13.x.a2 y_13.t.rd.length y_13.x.c2, .slice y_13.x.a3 y_13.t.wr.length y_13.x.c3, .slice a_19 ((y_13.t.marks ++ ([((p.t.calls.length : Nat) : Int)] : List Int)).length) c_20, iv y_13.t.state]) rfl rfl kz kq rfl rfl) ⟨_, rfl⟩) (jN (v := iv (((y_13.t.marks ++ ([((p.t.calls.length : Nat) : Int)] : List Int)).length : Nat) : Int)) rfl) (tS 1 _) ?_
    have hm : p.t.mark = ((⟨⟨y_13.x.a0, y_13.x.c0, y_13.x.a1, y_13.x.c1, y_13.x.a2, y_13.x.c2, y_13.x.a3, y_13.x.c3, a_19, c_20⟩, ⟨y_13.t.id, y_13.t.age, y_13.t.proc, y_13.t.began, y_13.t.calls, y_13.t.ans, y_13.t.rd, y_13.t.wr, (y_13.t.marks ++ ([((p.t.calls.length : Nat) : Int)] : List Int)), y_13.t.state⟩⟩ : TX).t, ((p.t.marks.length + 1 : Nat) : Int)) := by rw [← hy_14]; unfold TD.mark; rw [if_pos (by omega)]
    exact ⟨(⟨⟨y_13.x.a0, y_13.x.c0, y_13.x.a1, y_13.x.c1, y_13.x.a2, y_13.x.c2, y_13.x.a3, y_13.x.c3, a_19, c_20⟩, ⟨y_13.t.id, y_13.t.age, y_13.t.proc, y_13.t.began, y_13.t.calls, y_13.t.ans, y_13.t.rd, y_13.t.wr, (y_13.t.marks ++ ([((p.t.calls.length : Nat) : Int)] : List Int)), y_13.t.state⟩⟩ : TX), by rw [hm], by rw [hm]; (first | rfl | (simp only [List.length_append, List.length_cons, List.length_nil, hml]; done)), rfl⟩
  refine jS (b := true) rfl rfl rfl (cB (cN (dF h_16))) <| jS (b := true) rfl rfl rfl (cB (cN (dF h_16))) <| jS (b := true) rfl rfl rfl (cB (cN (dF h_16))) <| jS (b := true) rfl rfl rfl (cB (cN (dF h_16))) <| jA (kG (v := .bool true) (cB (cN (dF h_16))) rfl) <| jD <| jB <| jO (cB rfl) <| jC <| jE ?_
  refine jK (jX 0 (vs := (xc y_13)) rfl rfl kz kq rfl rfl) ?_
  refine jH rfl (jT 2 (vs := (xc y_13)) (cs' := (xc y_13)) rfl rfl rfl rfl kq rfl rfl (lb rfl) rfl) ?_
  rintro _ _ rfl
  refine jA (jG (v := iv 0) rfl) <| jD <| jB <| jL <| jW <| kR (pick_perm [1] (A := [Res.rows (rdsX y_13)]) (F := [bk b_15 31 (xc y_13), bk b_12 31 (xc y_13), bk b_11 31 (xc p)]) rfl).symm <| kB (.inl rfl) rfl (je (jX 2 (vs := (xc y_13)) rfl rfl kz kq rfl rfl) ⟨_, rfl⟩) (jN (v := iv 0) rfl) (tS 1 _) ?_
  have hm : p.t.mark = (p.t, 0) := if_neg (by omega)
  exact ⟨y_13, by rw [hm]; exact hy_14, by rw [hm], rfl⟩

set_option maxRecDepth 4000 in
set_option maxHeartbeats 1000000 in
theorem Y_specTxMark (p : TX) (hl : p.t.lim 1000000000) :
    Ct Tryz.prog 8 [.agg #[.int .i64 p.t.id, .int .i64 p.t.age, .int .i64 p.t.proc, .int .i64 p.t.began, .slice p.x.a0 p.t.calls.length p.x.c0, .slice p.x.a1 p.t.ans.length p.x.c1, .slice p.x.a2 p.t.rd.length p.x.c2, .slice p.x.a3 p.t.wr.length p.x.c3, .slice p.x.a4 p.t.marks.length p.x.c4, .int .i64 p.t.state]] [] (fun w => SeesA w (rdsX p)) (fun v A' => ∃ z : TX, z.t = p.t.mark.1 ∧ v = .tuple #[.agg #[.int .i64 z.t.id, .int .i64 z.t.age, .int .i64 z.t.proc, .int .i64 z.t.began, .slice z.x.a0 z.t.calls.length z.x.c0, .slice z.x.a1 z.t.ans.length z.x.c1, .slice z.x.a2 z.t.rd.length z.x.c2, .slice z.x.a3 z.t.wr.length z.x.c3, .slice z.x.a4 z.t.marks.length z.x.c4, .int .i64 z.t.state], .int .i64 p.t.mark.2] ∧ A' = [.rows (rdsX z)]) := by
  refine Ct.intro Tryz.func8 rfl Tryz.ntmps8 (lb rfl) fun w0 hpre => ?_
  obtain ⟨hs_1, hs_2, hs_3, hs_4, hs_5⟩ := seesX hpre
  have hlp := hl
  obtain ⟨hb_6, hb_7, hb_8, hb_9, hb_10⟩ := hl
  refine jC <| jE ?_
  refine jH rfl (jy (cs := (xc p)) rfl rfl) ?_
  rintro _ _ ⟨b_11, rfl, rfl⟩
  refine jH rfl (jn (z := xz) (cs := xzc) gH rfl) ?_
  rintro _ _ ⟨b_12, rfl, rfl⟩
  refine jA (jG (v := iv 0) rfl) <| jD <| jB <| jC <| jE <| jK (jX 1 (vs := (xc p)) rfl rfl kz kq rfl rfl) ?_
  refine jH rfl (jM [] Tryz.call32 rfl (Z_specl17Copy p hlp) rfl (fun w hw => hw.seeOutA hpre nMA)) ?_
  rintro _ _ ⟨_, ⟨y_13, hy_14, rfl, rfl⟩, rfl⟩
  refine jH rfl (jT 2 (vs := (xc y_13)) (cs' := (xc y_13)) rfl rfl rfl rfl kq rfl rfl (lb rfl) rfl) ?_
  rintro _ _ rfl
  refine jD <| jB <| jC <| jC <| jE <| jA (jJ fo31_8 rfl) <| jK (jV 2 (v := iv y_13.t.state) rfl rfl kp rfl) <| jA (kN rfl rfl) <| jA (jF (v := .bool (!(decide (y_13.t.state = 1)))) rfl) ?_
  by_cases h_15 : y_13.t.state = 1
  · refine jZ rfl rfl rfl (cB (cN (dT h_15))) (ja (jf (jJ fo31_7 rfl))) ?_
    rintro _ _ ⟨rfl, rfl⟩
    refine jZ rfl rfl rfl (cB (cN (dT h_15))) (ja (jV 2 (v := .slice y_13.x.a4 y_13.t.marks.length y_13.x.c4) rfl rfl gS rfl)) ?_
    rintro _ _ ⟨rfl, rfl⟩
    refine jZ rfl rfl rfl (cB (cN (dT h_15))) (ja (jf (jp gB rfl))) ?_
    rintro _ _ ⟨rfl, rfl⟩
    refine jZ rfl rfl rfl (cB (cN (dT h_15))) (ja (jf (kh rfl rfl))) ?_
    rintro _ _ ⟨rfl, rfl⟩
    refine jA (jv (v := .bool (decide (4 ≤ ((y_13.t.marks.length : Nat) : Int)))) (cB (cN (dT h_15))) rfl) <| jD <| jB ?_
    by_cases h_16 : 4 ≤ ((y_13.t.marks.length : Nat) : Int)
    · refine jO (cB (dT h_16)) <| jC <| jE <| jK (jX 2 (vs := (xc y_13)) rfl rfl kz kq rfl rfl) ?_
      refine jH rfl (jT 1 (vs := (xc y_13)) (cs' := (xc y_13)) rfl rfl rfl rfl kq rfl rfl (lb rfl) rfl) ?_
      rintro _ _ rfl
      refine jA (jG (v := iv 0) rfl) <| jD <| jB <| jL <| jW <| kB (.inl rfl) rfl (je (jX 1 (vs := (xc y_13)) rfl rfl kz kq rfl rfl) ⟨_, rfl⟩) (jN (v := iv 0) rfl) (tS 1 _) ?_
      have hst : y_13.t.state = p.t.state := congrArg TD.state hy_14
      have hml : y_13.t.marks.length = p.t.marks.length := by rw [hy_14]
      have hm : p.t.mark = (p.t, 0) := if_neg (by omega)
      exact ⟨y_13, by rw [hm]; exact hy_14, by rw [hm], rfl⟩
    refine jP (cB (dF h_16)) <| jU <| jB <| jC <| kg (L' := [Res.row (.slice y_13.x.a0 y_13.t.calls.length y_13.x.c0) 51 6 y_13.t.calls.length (y_13.t.calls.flatMap encK), Res.row (.slice y_13.x.a1 y_13.t.ans.length y_13.x.c1) 45 3 y_13.t.ans.length (y_13.t.ans.flatMap encA), rS y_13.x.a2 y_13.x.c2 y_13.t.rd, rS y_13.x.a3 y_13.x.c3 y_13.t.wr, rI y_13.x.a4 y_13.x.c4 y_13.t.marks, bk b_12 31 xzc, bk b_11 31 (xc y_13)]) (fun w hw => hw.openR 0 rfl) ?_
    have hst : y_13.t.state = p.t.state := congrArg TD.state hy_14
    have hml : y_13.t.marks.length = p.t.marks.length := by rw [hy_14]
    refine jE <| jA (jJ fo31_7 rfl) <| jK (jV 6 (v := .slice y_13.x.a4 y_13.t.marks.length y_13.x.c4) rfl rfl gS rfl) <| jA (jJ fo31_4 rfl) <| jK (jV 6 (v := .slice y_13.x.a0 y_13.t.calls.length y_13.x.c0) rfl rfl gb rfl) <| jA (jp gD rfl) ?_
    refine jH rfl (kJ (ps := [(0, nv y_13.t.calls.length)]) (cur := #[nv y_13.t.calls.length]) gB kt Tryz.zeroValue3 rfl (by kernel_rfl) (by decide) (by decide)) ?_
    rintro _ _ ⟨a_17, rfl, rfl⟩
    refine jH rfl (kM 5 (q := 1) (news := ([((y_13.t.calls.length : Nat) : Int)] : List Int).map (Value.int .i64)) (n' := (y_13.t.marks ++ ([((y_13.t.calls.length : Nat) : Int)] : List Int)).length) (cs' := (y_13.t.marks ++ ([((y_13.t.calls.length : Nat) : Int)] : List Int)).map (Value.int .i64)) rfl gB gB Tryz.typeInfo3 rfl (by' := 8) rfl rfl rfl rfl rfl (fun w hw => Src.sees (hw.see (i := 0) rfl) (oneI _)) (by (try simp only [LE]); omega) (by (try simp only [LE]); omega) (by simp only [List.length_append, List.length_take, List.length_drop, List.length_cons, List.length_nil] <;> first | rfl | omega) (by simp only [List.map_append])) ?_
    rintro _ _ ⟨a_18, c_19, rfl, rfl⟩
    refine jA (jJ fo31_7 rfl) ?_
    refine jH rfl (jT 7 (vs := [.slice a_18 ((y_13.t.marks ++ ([((y_13.t.calls.length : Nat) : Int)] : List Int)).length) c_19]) (cs' := [iv y_13.t.id, iv y_13.t.age, iv y_13.t.proc, iv y_13.t.began, .slice y_13.x.a0 y_13.t.calls.length y_13.x.c0, .slice y_13.x.a1 y_13.t.ans.length y_13.x.c1, .slice y_13.x.a2 y_13.t.rd.length y_13.x.c2, .slice y_13.x.a3 y_13.t.wr.length y_13.x.c3, .slice a_18 ((y_13.t.marks ++ ([((y_13.t.calls.length : Nat) : Int)] : List Int)).length) c_19, iv y_13.t.state]) rfl rfl rfl rfl Tryz.sizeOf29 rfl rfl (lb rfl) rfl) ?_
    rintro _ _ rfl
    refine jD <| jB <| jC <| jr [Res.row (.slice a_17 1 1) 3 1 1 (([((y_13.t.calls.length : Nat) : Int)] : List Int).map (Value.int .i64)), Res.row (.slice y_13.x.a0 y_13.t.calls.length y_13.x.c0) 51 6 y_13.t.calls.length (y_13.t.calls.flatMap encK), Res.row (.slice y_13.x.a1 y_13.t.ans.length y_13.x.c1) 45 3 y_13.t.ans.length (y_13.t.ans.flatMap encA), rS y_13.x.a2 y_13.x.c2 y_13.t.rd, rS y_13.x.a3 y_13.x.c3 y_13.t.wr, rI a_18 c_19 (y_13.t.marks ++ ([((y_13.t.calls.length : Nat) : Int)] : List Int)), bk b_11 31 [iv y_13.t.id, iv y_13.t.age, iv y_13.t.proc, iv y_13.t.began, .slice y_13.x.a0 y_13.t.calls.length y_13.x.c0, .slice y_13.x.a1 y_13.t.ans.length y_13.x.c1, .slice y_13.x.a2 y_13.t.rd.length y_13.x.c2, .slice y_13.x.a3 y_13.t.wr.length y_13.x.c3, .slice a_18 ((y_13.t.marks ++ ([((y_13.t.calls.length : Nat) : Int)] : List Int)).length) c_19, iv y_13.t.state]] 5 mixed (by simp) <| jh 0 rfl (jX 6 (vs := [iv y_13.t.id, iv y_13.t.age, iv y_13.t.proc, iv y_13.t.began, .slice y_13.x.a0 y_13.t.calls.length y_13.x.c0, .slice y_13.x.a1 y_13.t.ans.length y_13.x.c1, .slice y_13.x.a2 y_13.t.rd.length y_13.x.c2, .slice y_13.x.a3 y_13.t.wr.length y_13.x.c3, .slice a_18 ((y_13.t.marks ++ ([((y_13.t.calls.length : Nat) : Int)] : List Int)).length) c_19, iv y_13.t.state]) rfl rfl kz kq rfl rfl) <| jI 1 rfl (jJ fo31_7 rfl) <| jh 2 rfl (jV 6 (v := .slice a_18 ((y_13.t.marks ++ ([((y_13.t.calls.length : Nat) : Int)] : List Int)).length) c_19) rfl rfl gS rfl) <| jI 3 rfl (jp gB rfl) <| jQ (i := 4) ?_
    refine jY rfl rfl (jT 6 (vs := [iv y_13.t.id, iv y_13.t.age, iv y_13.t.proc, iv y_13.t.began, .slice y_13.x.a0 y_13.t.calls.length y_13.x.c0, .slice y_13.x.a1 y_13.t.ans.length y_13.x.c1, .slice y_13.x.a2 y_13.t.rd.length y_13.x.c2, .slice y_13.x.a3 y_13.t.wr.length y_13.x.c3, .slice a_18 ((y_13.t.marks ++ ([((y_13.t.calls.length : Nat) : Int)] : List Int)).length) c_19, iv y_13.t.state]) (cs' := [iv y_13.t.id, iv y_13.t.age, iv y_13.t.proc, iv y_13.t.began, .slice y_13.x.a0 y_13.t.calls.length y_13.x.c0, .slice y_13.x.a1 y_13.t.ans.length y_13.x.c1, .slice y_13.x.a2 y_13.t.rd.length y_13.x.c2, .slice y_13.x.a3 y_13.t.wr.length y_13.x.c3, .slice a_18 ((y_13.t.marks ++ ([((y_13.t.calls.length : Nat) : Int)] : List Int)).length) c_19, iv y_13.t.state]) rfl rfl rfl rfl kq rfl rfl (lb rfl) rfl) ?_
    rintro _ _ rfl
    refine ⟨by simp, ?_⟩
    refine jI 5 rfl (jG (v := iv (((y_13.t.marks ++ ([((y_13.t.calls.length : Nat) : Int)] : List Int)).length : Nat) : Int)) rfl) <| kI (by kernel_rfl) <| jB <| jL <| kO (L' := [Res.rows (rdsX (⟨⟨y_13.x.a0, y_13.x.c0, y_13.x.a1, y_13.x.c1, y_13.x.a2, y_13.x.c2, y_13.x.a3, y_13.x.c3, a_18, c_19⟩, ⟨y_13.t.id, y_13.t.age, y_13.t.proc, y_13.t.began, y_13.t.calls, y_13.t.ans, y_13.t.rd, y_13.t.wr, (y_13.t.marks ++ ([((y_13.t.calls.length : Nat) : Int)] : List Int)), y_13.t.state⟩⟩ : TX)), Res.row (.slice a_17 1 1) 3 1 1 (([((y_13.t.calls.length : Nat) : Int)] : List Int).map (Value.int .i64)), bk b_12 31 [iv y_13.t.id, iv y_13.t.age, iv y_13.t.proc, iv y_13.t.began, .slice y_13.x.a0 y_13.t.calls.length y_13.x.c0, .slice y_13.x.a1 y_13.t.ans.length y_13.x.c1, .slice y_13.x.a2 y_13.t.rd.length y_13.x.c2, .slice y_13.x.a3 y_13.t.wr.length y_13.x.c3, .slice a_18 ((y_13.t.marks ++ ([((y_13.t.calls.length : Nat) : Int)] : List Int)).length) c_19, iv y_13.t.state], bk b_11 31 [iv y_13.t.id, iv y_13.t.age, iv y_13.t.proc, iv y_13.t.began, .slice y_13.x.a0 y_13.t.calls.length y_13.x.c0, .slice y_13.x.a1 y_13.t.ans.length y_13.x.c1, .slice y_13.x.a2 y_13.t.rd.length y_13.x.c2, .slice y_13.x.a3 y_13.t.wr.length y_13.x.c3, .slice a_18 ((y_13.t.marks ++ ([((y_13.t.calls.length : Nat) : Int)] : List Int)).length) c_19, iv y_13.t.state]]) (fun w hw => hw.closeR (A := rdsX (⟨⟨y_13.x.a0, y_13.x.c0, y_13.x.a1, y_13.x.c1, y_13.x.a2, y_13.x.c2, y_13.x.a3, y_13.x.c3, a_18, c_19⟩, ⟨y_13.t.id, y_13.t.age, y_13.t.proc, y_13.t.began, y_13.t.calls, y_13.t.ans, y_13.t.rd, y_13.t.wr, (y_13.t.marks ++ ([((y_13.t.calls.length : Nat) : Int)] : List Int)), y_13.t.state⟩⟩ : TX)) [1, 1, 1, 1, 1] rfl) <| kB (.inl rfl) rfl (je (jX 2 (vs := [iv y_13.t.id, iv y_13.t.age, iv y_13.t.proc, iv y_13.t.began, .slice y_13.x.a0 y_13.t.calls.length y_13.x.c0, .slice y_13.x.a1 y_13.t.ans.length y_13.x.c1, .slice y_13.x.a2 y_13.t.rd.length y_13.x.c2, .slice y_13.x.a3 y_13.t.wr.length y_13.x.c3, .slice a_18 ((y_13.t.marks ++ ([((y_13.t.calls.length : Nat) : Int)] : List Int)).length) c_19, iv y_13.t.state]) rfl rfl kz kq rfl rfl) ⟨_, rfl⟩) (jN (v := iv (((y_13.t.marks ++ ([((y_13.t.calls.length : Nat) : Int)] : List Int)).length : Nat) : Int)) rfl) (tS 1 _) ?_
    have hm : p.t.mark = ((⟨⟨y_13.x.a0, y_13.x.c0, y_13.x.a1, y_13.x.c1, y_13.x.a2, y_13.x.c2, y_13.x.a3, y_13.x.c3, a_18, c_19⟩, ⟨y_13.t.id, y_13.t.age, y_13.t.proc, y_13.t.began, y_13.t.calls, y_13.t.ans, y_13.t.rd, y_13.t.wr, (y_13.t.marks ++ ([((y_13.t.calls.length : Nat) : Int)] : List Int)), y_13.t.state⟩⟩ : TX).t, ((p.t.marks.length + 1 : Nat) : Int)) := by rw [← hy_14]; unfold TD.mark; rw [if_pos (by omega)]
    exact ⟨(⟨⟨y_13.x.a0, y_13.x.c0, y_13.x.a1, y_13.x.c1, y_13.x.a2, y_13.x.c2, y_13.x.a3, y_13.x.c3, a_18, c_19⟩, ⟨y_13.t.id, y_13.t.age, y_13.t.proc, y_13.t.began, y_13.t.calls, y_13.t.ans, y_13.t.rd, y_13.t.wr, (y_13.t.marks ++ ([((y_13.t.calls.length : Nat) : Int)] : List Int)), y_13.t.state⟩⟩ : TX), by rw [hm], by rw [hm]; (first | rfl | (simp only [List.length_append, List.length_cons, List.length_nil, hml]; done)), rfl⟩
  refine jS (b := true) rfl rfl rfl (cB (cN (dF h_15))) <| jS (b := true) rfl rfl rfl (cB (cN (dF h_15))) <| jS (b := true) rfl rfl rfl (cB (cN (dF h_15))) <| jS (b := true) rfl rfl rfl (cB (cN (dF h_15))) <| jA (kG (v := .bool true) (cB (cN (dF h_15))) rfl) <| jD <| jB <| jO (cB rfl) <| jC <| jE ?_
  refine jK (jX 2 (vs := (xc y_13)) rfl rfl kz kq rfl rfl) ?_
  refine jH rfl (jT 1 (vs := (xc y_13)) (cs' := (xc y_13)) rfl rfl rfl rfl kq rfl rfl (lb rfl) rfl) ?_
  rintro _ _ rfl
  refine jA (jG (v := iv 0) rfl) <| jD <| jB <| jL <| jW <| kB (.inl rfl) rfl (je (jX 1 (vs := (xc y_13)) rfl rfl kz kq rfl rfl) ⟨_, rfl⟩) (jN (v := iv 0) rfl) (tS 1 _) ?_
  have hst : y_13.t.state = p.t.state := congrArg TD.state hy_14
  have hml : y_13.t.marks.length = p.t.marks.length := by rw [hy_14]
  have hm : p.t.mark = (p.t, 0) := if_neg (by omega)
  exact ⟨y_13, by rw [hm]; exact hy_14, by rw [hm], rfl⟩

theorem Y_clipK (a : Option Addr) (ha : a.bind (·.spot) = none) (m c : Nat) (hm : m ≤ c) (hn : m ≤ 1000000000000) :
    Ct Tryz.prog 36 [.slice a m c] [] (fun _ => True) (fun v A' => v = .slice a m m ∧ A' = []) := by
  refine Ct.intro Tryz.func36 rfl Tryz.ntmps36 (lb rfl) fun w0 hpre => ?_
  refine jC <| jE <| jA (jG (v := .slice none 0 0) rfl) <| jD <| jB <| jC <| jE <| jA (jF (v := .slice a m c) rfl) <| jA (jF (v := .slice a m c) rfl) <| jA (jp gD rfl) ?_
  refine jA (jF (v := .slice a m c) rfl) <| jA (jp gD rfl) <| jA (PO.sliceVmD (j := m) (z := m) gD ko ha rfl rfl rfl (by omega) (by omega)) <| jA (jG (v := .slice a m m) rfl) <| jD <| jB <| jL <| jR (.inl rfl) rfl (jN (v := .slice a m m) rfl) (List.nil_sublist _) ?_
  exact ⟨rfl, rfl⟩

theorem Y_clipA (a : Option Addr) (ha : a.bind (·.spot) = none) (m c : Nat) (hm : m ≤ c) (hn : m ≤ 1000000000000) :
    Ct Tryz.prog 38 [.slice a m c] [] (fun _ => True) (fun v A' => v = .slice a m m ∧ A' = []) := by
  refine Ct.intro Tryz.func38 rfl Tryz.ntmps38 (lb rfl) fun w0 hpre => ?_
  refine jC <| jE <| jA (jG (v := .slice none 0 0) rfl) <| jD <| jB <| jC <| jE <| jA (jF (v := .slice a m c) rfl) <| jA (jF (v := .slice a m c) rfl) <| jA (jp gN rfl) ?_
  refine jA (jF (v := .slice a m c) rfl) <| jA (jp gN rfl) <| jA (PO.sliceVmD (j := m) (z := m) gN kr ha rfl rfl rfl (by omega) (by omega)) <| jA (jG (v := .slice a m m) rfl) <| jD <| jB <| jL <| jR (.inl rfl) rfl (jN (v := .slice a m m) rfl) (List.nil_sublist _) ?_
  exact ⟨rfl, rfl⟩

theorem Y_clipI (a : Option Addr) (ha : a.bind (·.spot) = none) (m c : Nat) (hm : m ≤ c) (hn : m ≤ 1000000000000) :
    Ct Tryz.prog 39 [.slice a m c] [] (fun _ => True) (fun v A' => v = .slice a m m ∧ A' = []) := by
  refine Ct.intro Tryz.func39 rfl Tryz.ntmps39 (lb rfl) fun w0 hpre => ?_
  refine jC <| jE <| jA (jG (v := .slice none 0 0) rfl) <| jD <| jB <| jC <| jE <| jA (jF (v := .slice a m c) rfl) <| jA (jF (v := .slice a m c) rfl) <| jA (jp gB rfl) ?_
  refine jA (jF (v := .slice a m c) rfl) <| jA (jp gB rfl) <| jA (PO.sliceVmD (j := m) (z := m) gB kt ha rfl rfl rfl (by omega) (by omega)) <| jA (jG (v := .slice a m m) rfl) <| jD <| jB <| jL <| jR (.inl rfl) rfl (jN (v := .slice a m m) rfl) (List.nil_sublist _) ?_
  exact ⟨rfl, rfl⟩

set_option maxRecDepth 4000 in
set_option maxHeartbeats 1000000 in
theorem Y_implTxBack (p : TX) (hl : p.t.lim 1000000000) (q : Int) (h_q : -9223372036854775808 ≤ q ∧ q ≤ 9223372036854775807) :
    Ct Tryz.prog 10 [.agg #[.int .i64 p.t.id, .int .i64 p.t.age, .int .i64 p.t.proc, .int .i64 p.t.began, .slice p.x.a0 p.t.calls.length p.x.c0, .slice p.x.a1 p.t.ans.length p.x.c1, .slice p.x.a2 p.t.rd.length p.x.c2, .slice p.x.a3 p.t.wr.length p.x.c3, .slice p.x.a4 p.t.marks.length p.x.c4, .int .i64 p.t.state], .int .i64 q] [] (fun w => SeesA w (rdsX p)) (fun v A' => ∃ z : TX, z.t = (p.t.back q).1 ∧ v = .tuple #[.agg #[.int .i64 z.t.id, .int .i64 z.t.age, .int .i64 z.t.proc, .int .i64 z.t.began, .slice z.x.a0 z.t.calls.length z.x.c0, .slice z.x.a1 z.t.ans.length z.x.c1, .slice z.x.a2 z.t.rd.length z.x.c2, .slice z.x.a3 z.t.wr.length z.x.c3, .slice z.x.a4 z.t.marks.length z.x.c4, .int .i64 z.t.state], .bool (p.t.back q).2] ∧ A' = [.rows (rdsX z)]) := by
  refine Ct.intro Tryz.func10 rfl Tryz.ntmps10 (lb rfl) fun w0 hpre => ?_
  obtain ⟨hs_1, hs_2, hs_3, hs_4, hs_5⟩ := seesX hpre
  have hlp := hl
  obtain ⟨hb_6, hb_7, hb_8, hb_9, hb_10⟩ := hl
  refine jC <| jE ?_
  refine jH rfl (jy (cs := (xc p)) rfl rfl) ?_
  rintro _ _ ⟨b_11, rfl, rfl⟩
  refine jH rfl (jn (z := xz) (cs := xzc) gH rfl) ?_
  rintro _ _ ⟨b_12, rfl, rfl⟩
  refine jA (jG (v := .bool false) rfl) <| jD <| jB <| jC <| jE <| jK (jX 1 (vs := (xc p)) rfl rfl kz kq rfl rfl) ?_
  refine jH rfl (jM [] Tryz.call31 rfl (Z_implTxclone p hlp) rfl (fun w hw => hw.seeOutA hpre nMA)) ?_
  rintro _ _ ⟨_, ⟨y_13, hy_14, rfl, rfl⟩, rfl⟩
  refine jH rfl (jn (z := xz) (cs := xzc) gH rfl) ?_
  rintro _ _ ⟨b_15, rfl, rfl⟩
  refine jH rfl (jT 0 (vs := (xc y_13)) (cs' := (xc y_13)) rfl rfl rfl rfl kq rfl rfl (lb rfl) rfl) ?_
  rintro _ _ rfl
  refine jD <| jB <| jC <| jC <| jE <| jA (jJ fo31_8 rfl) <| jK (jV 3 (v := iv p.t.state) rfl rfl kp rfl) <| jA (kN rfl rfl) <| jA (jF (v := .bool (!(decide (p.t.state = 1)))) rfl) ?_
  by_cases h_16 : p.t.state = 1
  · refine jZ rfl rfl rfl (cB (cN (dT h_16))) (ja (jf (jF (v := iv q) rfl))) ?_
    rintro _ _ ⟨rfl, rfl⟩
    refine jZ rfl rfl rfl (cB (cN (dT h_16))) (ja (jf (jJ fo31_7 rfl))) ?_
    rintro _ _ ⟨rfl, rfl⟩
    refine jZ rfl rfl rfl (cB (cN (dT h_16))) (ja (jV 3 (v := .slice p.x.a4 p.t.marks.length p.x.c4) rfl rfl gS rfl)) ?_
    rintro _ _ ⟨rfl, rfl⟩
    refine jZ rfl rfl rfl (cB (cN (dT h_16))) (ja (jf (jp gB rfl))) ?_
    rintro _ _ ⟨rfl, rfl⟩
    refine jZ rfl rfl rfl (cB (cN (dT h_16))) (jM [] Tryz.call35 rfl (Y_within q 1 ((p.t.marks.length : Nat) : Int)) rfl (fun _ _ => trivial)) ?_
    rintro _ _ ⟨_, ⟨rfl, rfl⟩, rfl⟩
    refine jZ rfl rfl rfl (cB (cN (dT h_16))) (ja (jf (kP rfl))) ?_
    rintro _ _ ⟨rfl, rfl⟩
    refine jA (jv (v := .bool (!(within 1 q ((p.t.marks.length : Nat) : Int)))) (cB (cN (dT h_16))) rfl) <| jD <| jB ?_
    rcases Bool.eq_false_or_eq_true (within 1 q ((p.t.marks.length : Nat) : Int)) with h_17 | h_17
    · have hwi := within_true h_17
      refine jP (cB (cN h_17)) <| jU <| jB <| jC <| kg (L' := [Res.row (.slice y_13.x.a0 y_13.t.calls.length y_13.x.c0) 51 6 y_13.t.calls.length (y_13.t.calls.flatMap encK), Res.row (.slice y_13.x.a1 y_13.t.ans.length y_13.x.c1) 45 3 y_13.t.ans.length (y_13.t.ans.flatMap encA), rS y_13.x.a2 y_13.x.c2 y_13.t.rd, rS y_13.x.a3 y_13.x.c3 y_13.t.wr, rI y_13.x.a4 y_13.x.c4 y_13.t.marks, bk b_15 31 (xc y_13), bk b_12 31 xzc, bk b_11 31 (xc p)]) (fun w hw => hw.openR 1 rfl) ?_
      have hl_calls : y_13.t.calls.length = p.t.calls.length := by rw [hy_14]
      have hl_ans : y_13.t.ans.length = p.t.ans.length := by rw [hy_14]
      have hl_marks : y_13.t.marks.length = p.t.marks.length := by rw [hy_14]
      have hst : y_13.t.state = p.t.state := congrArg TD.state hy_14
      refine jE <| jA (jJ fo31_7 rfl) <| jK (jV 7 (v := .slice p.x.a4 p.t.marks.length p.x.c4) rfl rfl gS rfl) <| jA (jF (v := iv q) rfl) ?_
      obtain ⟨kk_18, hkk_19⟩ : ∃ kk_18 : Nat, q - 1 = ((kk_18 : Nat) : Int) := ⟨(q - 1).toNat, by omega⟩
      refine jA (PO.castVD (kW (c := q - 1) rfl rfl (wr (by omega))) (congrArg (Value.int .i64) hkk_19)) ?_
      obtain ⟨hr_20, hr_20b, -⟩ := sees_some hs_5 (by omega)
      refine jA (jl (i := kk_18) gB kt hr_20 hr_20b rfl rfl (by omega)) <| jK (kK (v := iv (p.t.marks.getD kk_18 0)) hs_5 nM rfl kp (atI (by omega))) <| jA (jG (v := iv (p.t.marks.getD kk_18 0)) rfl) <| jD <| jB <| jC <| jr [Res.row (.slice y_13.x.a0 y_13.t.calls.length y_13.x.c0) 51 6 y_13.t.calls.length (y_13.t.calls.flatMap encK), Res.row (.slice y_13.x.a1 y_13.t.ans.length y_13.x.c1) 45 3 y_13.t.ans.length (y_13.t.ans.flatMap encA), rS y_13.x.a2 y_13.x.c2 y_13.t.rd, rS y_13.x.a3 y_13.x.c3 y_13.t.wr, rI y_13.x.a4 y_13.x.c4 y_13.t.marks, bk b_15 31 (xc y_13), bk b_12 31 xzc, bk b_11 31 (xc p)] 9 mixed (by simp) <| jI 0 rfl (jJ fo31_4 rfl) <| jh 1 rfl (jV 5 (v := .slice y_13.x.a0 y_13.t.calls.length y_13.x.c0) rfl rfl gb rfl) <| jI 2 rfl (jF (v := iv (p.t.marks.getD kk_18 0)) rfl) ?_
      refine jI 3 rfl (jJ fo31_4 rfl) <| jh 4 rfl (jV 5 (v := .slice y_13.x.a0 y_13.t.calls.length y_13.x.c0) rfl rfl gb rfl) <| jI 5 rfl (jp gD rfl) <| jQ (i := 6) ?_
      refine jY rfl rfl (jM [] Tryz.call37 rfl (Y_implbro (p.t.marks.getD kk_18 0) y_13.t.calls.length) rfl (fun _ _ => trivial)) ?_
      rintro _ _ ⟨_, ⟨rfl, rfl⟩, rfl⟩
      have hbro20 := bro_le (p.t.marks.getD kk_18 0) y_13.t.calls.length
      refine ⟨by simp, ?_⟩
      refine JA.facts fun hst => ?_
      obtain ⟨hf_21m, hf_21x, hf_21s, hf_21l⟩ := fits_of hst (i := 0) rfl
      refine jI 7 rfl (PO.sliceVh (j := (bro (p.t.marks.getD kk_18 0) y_13.t.calls.length)) gD ko hf_21s rfl rfl (by omega)) <| jQ (i := 8) ?_
      refine jY rfl rfl (jM [] Tryz.call36 rfl (Y_clipK y_13.x.a0 hf_21s (bro (p.t.marks.getD kk_18 0) y_13.t.calls.length) y_13.x.c0 (by omega) (by omega)) rfl (fun _ _ => trivial)) ?_
      rintro _ _ ⟨_, ⟨rfl, rfl⟩, rfl⟩
      refine ⟨by simp, ?_⟩
      refine jI 9 rfl (jJ fo31_4 rfl) <| jQ (i := 10) ?_
      refine jx rfl (jT 5 (vs := [.slice y_13.x.a0 (bro (p.t.marks.getD kk_18 0) y_13.t.calls.length) (bro (p.t.marks.getD kk_18 0) y_13.t.calls.length)]) (cs' := [iv y_13.t.id, iv y_13.t.age, iv y_13.t.proc, iv y_13.t.began, .slice y_13.x.a0 (bro (p.t.marks.getD kk_18 0) y_13.t.calls.length) (bro (p.t.marks.getD kk_18 0) y_13.t.calls.length), .slice y_13.x.a1 y_13.t.ans.length y_13.x.c1, .slice y_13.x.a2 y_13.t.rd.length y_13.x.c2, .slice y_13.x.a3 y_13.t.wr.length y_13.x.c3, .slice y_13.x.a4 y_13.t.marks.length y_13.x.c4, iv y_13.t.state]) rfl rfl rfl rfl Tryz.sizeOf24 rfl rfl (lb rfl) rfl) ?_
      rintro _ _ rfl
      refine jB <| jC <| jr [Res.row (.slice y_13.x.a0 y_13.t.calls.length y_13.x.c0) 51 6 y_13.t.calls.length (y_13.t.calls.flatMap encK), Res.row (.slice y_13.x.a1 y_13.t.ans.length y_13.x.c1) 45 3 y_13.t.ans.length (y_13.t.ans.flatMap encA), rS y_13.x.a2 y_13.x.c2 y_13.t.rd, rS y_13.x.a3 y_13.x.c3 y_13.t.wr, rI y_13.x.a4 y_13.x.c4 y_13.t.marks, bk b_15 31 [iv y_13.t.id, iv y_13.t.age, iv y_13.t.proc, iv y_13.t.began, .slice y_13.x.a0 (bro (p.t.marks.getD kk_18 0) y_13.t.calls.length) (bro (p.t.marks.getD kk_18 0) y_13.t.calls.length), .slice y_13.x.a1 y_13.t.ans.length y_13.x.c1, .slice y_13.x.a2 y_13.t.rd.length y_13.x.c2, .slice y_13.x.a3 y_13.t.wr.length y_13.x.c3, .slice y_13.x.a4 y_13.t.marks.length y_13.x.c4, iv y_13.t.state], bk b_12 31 xzc, bk b_11 31 (xc p)] 9 mixed (by simp) <| jI 0 rfl (jJ fo31_5 rfl) <| jh 1 rfl (jV 5 (v := .slice y_13.x.a1 y_13.t.ans.length y_13.x.c1) rfl rfl gh rfl) <| jI 2 rfl (jF (v := iv (p.t.marks.getD kk_18 0)) rfl) <| jI 3 rfl (jJ fo31_5 rfl) <| jh 4 rfl (jV 5 (v := .slice y_13.x.a1 y_13.t.ans.length y_13.x.c1) rfl rfl gh rfl) <| jI 5 rfl (jp gN rfl) <| jQ (i := 6) ?_
      refine jY rfl rfl (jM [] Tryz.call37 rfl (Y_implbro (p.t.marks.getD kk_18 0) y_13.t.ans.length) rfl (fun _ _ => trivial)) ?_
      rintro _ _ ⟨_, ⟨rfl, rfl⟩, rfl⟩
      have hbro21 := bro_le (p.t.marks.getD kk_18 0) y_13.t.ans.length
      refine ⟨by simp, ?_⟩
      refine JA.facts fun hst => ?_
      obtain ⟨hf_22m, hf_22x, hf_22s, hf_22l⟩ := fits_of hst (i := 1) rfl
      refine jI 7 rfl (PO.sliceVh (j := (bro (p.t.marks.getD kk_18 0) y_13.t.ans.length)) gN kr hf_22s rfl rfl (by omega)) <| jQ (i := 8) ?_
      refine jY rfl rfl (jM [] Tryz.call38 rfl (Y_clipA y_13.x.a1 hf_22s (bro (p.t.marks.getD kk_18 0) y_13.t.ans.length) y_13.x.c1 (by omega) (by omega)) rfl (fun _ _ => trivial)) ?_
      rintro _ _ ⟨_, ⟨rfl, rfl⟩, rfl⟩
      refine ⟨by simp, ?_⟩
      refine jI 9 rfl (jJ fo31_5 rfl) <| jQ (i := 10) ?_
      refine jx rfl (jT 5 (vs := [.slice y_13.x.a1 (bro (p.t.marks.getD kk_18 0) y_13.t.ans.length) (bro (p.t.marks.getD kk_18 0) y_13.t.ans.length)]) (cs' := [iv y_13.t.id, iv y_13.t.age, iv y_13.t.proc, iv y_13.t.began, .slice y_13.x.a0 (bro (p.t.marks.getD kk_18 0) y_13.t.calls.length) (bro (p.t.marks.getD kk_18 0) y_13.t.calls.length), .slice y_13.x.a1 (bro (p.t.marks.getD kk_18 0) y_13.t.ans.length) (bro (p.t.marks.getD kk_18 0) y_13.t.ans.length), .slice y_13.x.a2 y_13.t.rd.length y_13.x.c2, .slice y_13.x.a3 y_13.t.wr.length y_13.x.c3, .slice y_13.x.a4 y_13.t.marks.length y_13.x.c4, iv y_13.t.state]) rfl rfl rfl rfl Tryz.sizeOf25 rfl rfl (lb rfl) rfl) ?_
      rintro _ _ rfl
      refine jB <| jC <| jE <| jA (jJ fo31_7 rfl) <| jK (jV 5 (v := .slice y_13.x.a4 y_13.t.marks.length y_13.x.c4) rfl rfl gS rfl) <| jA (jF (v := iv q) rfl) <| jA (PO.castVD (kW (c := q - 1) rfl rfl (wr (by omega))) (congrArg (Value.int .i64) hkk_19)) ?_
      refine kc fun hst => ?_
      obtain ⟨hf_23m, hf_23x, hf_23s, hf_23l⟩ := fits_of hst (i := 4) rfl
      refine jA (PO.sliceVh (j := kk_18) gB kt hf_23s rfl rfl (by omega)) ?_
      refine jH rfl (jM [] Tryz.call39 rfl (Y_clipI y_13.x.a4 hf_23s kk_18 y_13.x.c4 (by omega) (by omega)) rfl (fun _ _ => trivial)) ?_
      rintro _ _ ⟨_, ⟨rfl, rfl⟩, rfl⟩
      refine jA (jJ fo31_7 rfl) ?_
      refine jH rfl (jT 5 (vs := [.slice y_13.x.a4 kk_18 kk_18]) (cs' := [iv y_13.t.id, iv y_13.t.age, iv y_13.t.proc, iv y_13.t.began, .slice y_13.x.a0 (bro (p.t.marks.getD kk_18 0) y_13.t.calls.length) (bro (p.t.marks.getD kk_18 0) y_13.t.calls.length), .slice y_13.x.a1 (bro (p.t.marks.getD kk_18 0) y_13.t.ans.length) (bro (p.t.marks.getD kk_18 0) y_13.t.ans.length), .slice y_13.x.a2 y_13.t.rd.length y_13.x.c2, .slice y_13.x.a3 y_13.t.wr.length y_13.x.c3, .slice y_13.x.a4 kk_18 kk_18, iv y_13.t.state]) rfl rfl rfl rfl Tryz.sizeOf29 rfl rfl (lb rfl) rfl) ?_
      rintro _ _ rfl
      refine jD <| jB <| jC <| jE <| jK (jX 5 (vs := [iv y_13.t.id, iv y_13.t.age, iv y_13.t.proc, iv y_13.t.began, .slice y_13.x.a0 (bro (p.t.marks.getD kk_18 0) y_13.t.calls.length) (bro (p.t.marks.getD kk_18 0) y_13.t.calls.length), .slice y_13.x.a1 (bro (p.t.marks.getD kk_18 0) y_13.t.ans.length) (bro (p.t.marks.getD kk_18 0) y_13.t.ans.length), .slice y_13.x.a2 y_13.t.rd.length y_13.x.c2, .slice y_13.x.a3 y_13.t.wr.length y_13.x.c3, .slice y_13.x.a4 kk_18 kk_18, iv y_13.t.state]) rfl rfl kz kq rfl rfl) ?_
      refine jH rfl (jT 6 (vs := [iv y_13.t.id, iv y_13.t.age, iv y_13.t.proc, iv y_13.t.began, .slice y_13.x.a0 (bro (p.t.marks.getD kk_18 0) y_13.t.calls.length) (bro (p.t.marks.getD kk_18 0) y_13.t.calls.length), .slice y_13.x.a1 (bro (p.t.marks.getD kk_18 0) y_13.t.ans.length) (bro (p.t.marks.getD kk_18 0) y_13.t.ans.length), .slice y_13.x.a2 y_13.t.rd.length y_13.x.c2, .slice y_13.x.a3 y_13.t.wr.length y_13.x.c3, .slice y_13.x.a4 kk_18 kk_18, iv y_13.t.state]) (cs' := [iv y_13.t.id, iv y_13.t.age, iv y_13.t.proc, iv y_13.t.began, .slice y_13.x.a0 (bro (p.t.marks.getD kk_18 0) y_13.t.calls.length) (bro (p.t.marks.getD kk_18 0) y_13.t.calls.length), .slice y_13.x.a1 (bro (p.t.marks.getD kk_18 0) y_13.t.ans.length) (bro (p.t.marks.getD kk_18 0) y_13.t.ans.length), .slice y_13.x.a2 y_13.t.rd.length y_13.x.c2, .slice y_13.x.a3 y_13.t.wr.length y_13.x.c3, .slice y_13.x.a4 kk_18 kk_18, iv y_13.t.state]) rfl rfl rfl rfl kq rfl rfl (lb rfl) rfl) ?_
      rintro _ _ rfl
      refine jA (jG (v := .bool true) rfl) <| jD <| jB <| jL ?_
      have hq_24 : (y_13.t.calls.take (bro (p.t.marks.getD kk_18 0) y_13.t.calls.length)).length = bro (p.t.marks.getD kk_18 0) y_13.t.calls.length := len_front (by omega)
      refine kO (L' := [Res.row (.slice y_13.x.a0 ((y_13.t.calls.take (bro (p.t.marks.getD kk_18 0) y_13.t.calls.length)).length) (bro (p.t.marks.getD kk_18 0) y_13.t.calls.length)) 51 6 ((y_13.t.calls.take (bro (p.t.marks.getD kk_18 0) y_13.t.calls.length)).length) ((y_13.t.calls.take (bro (p.t.marks.getD kk_18 0) y_13.t.calls.length)).flatMap encK), Res.row (.slice y_13.x.a1 y_13.t.ans.length y_13.x.c1) 45 3 y_13.t.ans.length (y_13.t.ans.flatMap encA), rS y_13.x.a2 y_13.x.c2 y_13.t.rd, rS y_13.x.a3 y_13.x.c3 y_13.t.wr, rI y_13.x.a4 y_13.x.c4 y_13.t.marks, bk b_15 31 [iv y_13.t.id, iv y_13.t.age, iv y_13.t.proc, iv y_13.t.began, .slice y_13.x.a0 (bro (p.t.marks.getD kk_18 0) y_13.t.calls.length) (bro (p.t.marks.getD kk_18 0) y_13.t.calls.length), .slice y_13.x.a1 (bro (p.t.marks.getD kk_18 0) y_13.t.ans.length) (bro (p.t.marks.getD kk_18 0) y_13.t.ans.length), .slice y_13.x.a2 y_13.t.rd.length y_13.x.c2, .slice y_13.x.a3 y_13.t.wr.length y_13.x.c3, .slice y_13.x.a4 kk_18 kk_18, iv y_13.t.state], bk b_12 31 [iv y_13.t.id, iv y_13.t.age, iv y_13.t.proc, iv y_13.t.began, .slice y_13.x.a0 (bro (p.t.marks.getD kk_18 0) y_13.t.calls.length) (bro (p.t.marks.getD kk_18 0) y_13.t.calls.length), .slice y_13.x.a1 (bro (p.t.marks.getD kk_18 0) y_13.t.ans.length) (bro (p.t.marks.getD kk_18 0) y_13.t.ans.length), .slice y_13.x.a2 y_13.t.rd.length y_13.x.c2, .slice y_13.x.a3 y_13.t.wr.length y_13.x.c3, .slice y_13.x.a4 kk_18 kk_18, iv y_13.t.state], bk b_11 31 (xc p)]) (fun w hw => hw.clip (i := 0) rfl (y_13.t.calls.take (bro (p.t.marks.getD kk_18 0) y_13.t.calls.length)).length (bro (p.t.marks.getD kk_18 0) y_13.t.calls.length) (by omega) (by omega) (by omega) (front_flat encK_len (by omega))) ?_
      have hq_25 : (y_13.t.ans.take (bro (p.t.marks.getD kk_18 0) y_13.t.ans.length)).length = bro (p.t.marks.getD kk_18 0) y_13.t.ans.length := len_front (by omega)
      refine kO (L' := [Res.row (.slice y_13.x.a0 ((y_13.t.calls.take (bro (p.t.marks.getD kk_18 0) y_13.t.calls.length)).length) (bro (p.t.marks.getD kk_18 0) y_13.t.calls.length)) 51 6 ((y_13.t.calls.take (bro (p.t.marks.getD kk_18 0) y_13.t.calls.length)).length) ((y_13.t.calls.take (bro (p.t.marks.getD kk_18 0) y_13.t.calls.length)).flatMap encK), Res.row (.slice y_13.x.a1 ((y_13.t.ans.take (bro (p.t.marks.getD kk_18 0) y_13.t.ans.length)).length) (bro (p.t.marks.getD kk_18 0) y_13.t.ans.length)) 45 3 ((y_13.t.ans.take (bro (p.t.marks.getD kk_18 0) y_13.t.ans.length)).length) ((y_13.t.ans.take (bro (p.t.marks.getD kk_18 0) y_13.t.ans.length)).flatMap encA), rS y_13.x.a2 y_13.x.c2 y_13.t.rd, rS y_13.x.a3 y_13.x.c3 y_13.t.wr, rI y_13.x.a4 y_13.x.c4 y_13.t.marks, bk b_15 31 [iv y_13.t.id, iv y_13.t.age, iv y_13.t.proc, iv y_13.t.began, .slice y_13.x.a0 (bro (p.t.marks.getD kk_18 0) y_13.t.calls.length) (bro (p.t.marks.getD kk_18 0) y_13.t.calls.length), .slice y_13.x.a1 (bro (p.t.marks.getD kk_18 0) y_13.t.ans.length) (bro (p.t.marks.getD kk_18 0) y_13.t.ans.length), .slice y_13.x.a2 y_13.t.rd.length y_13.x.c2, .slice y_13.x.a3 y_13.t.wr.length y_13.x.c3, .slice y_13.x.a4 kk_18 kk_18, iv y_13.t.state], bk b_12 31 [iv y_13.t.id, iv y_13.t.age, iv y_13.t.proc, iv y_13.t.began, .slice y_13.x.a0 (bro (p.t.marks.getD kk_18 0) y_13.t.calls.length) (bro (p.t.marks.getD kk_18 0) y_13.t.calls.length), .slice y_13.x.a1 (bro (p.t.marks.getD kk_18 0) y_13.t.ans.length) (bro (p.t.marks.getD kk_18 0) y_13.t.ans.length), .slice y_13.x.a2 y_13.t.rd.length y_13.x.c2, .slice y_13.x.a3 y_13.t.wr.length y_13.x.c3, .slice y_13.x.a4 kk_18 kk_18, iv y_13.t.state], bk b_11 31 (xc p)]) (fun w hw => hw.clip (i := 1) rfl (y_13.t.ans.take (bro (p.t.marks.getD kk_18 0) y_13.t.ans.length)).length (bro (p.t.marks.getD kk_18 0) y_13.t.ans.length) (by omega) (by omega) (by omega) (front_flat encA_len (by omega))) ?_
      have hq_26 : (y_13.t.marks.take kk_18).length = kk_18 := len_front (by omega)
      refine kO (L' := [Res.row (.slice y_13.x.a0 ((y_13.t.calls.take (bro (p.t.marks.getD kk_18 0) y_13.t.calls.length)).length) (bro (p.t.marks.getD kk_18 0) y_13.t.calls.length)) 51 6 ((y_13.t.calls.take (bro (p.t.marks.getD kk_18 0) y_13.t.calls.length)).length) ((y_13.t.calls.take (bro (p.t.marks.getD kk_18 0) y_13.t.calls.length)).flatMap encK), Res.row (.slice y_13.x.a1 ((y_13.t.ans.take (bro (p.t.marks.getD kk_18 0) y_13.t.ans.length)).length) (bro (p.t.marks.getD kk_18 0) y_13.t.ans.length)) 45 3 ((y_13.t.ans.take (bro (p.t.marks.getD kk_18 0) y_13.t.ans.length)).length) ((y_13.t.ans.take (bro (p.t.marks.getD kk_18 0) y_13.t.ans.length)).flatMap encA), rS y_13.x.a2 y_13.x.c2 y_13.t.rd, rS y_13.x.a3 y_13.x.c3 y_13.t.wr, rI y_13.x.a4 kk_18 (y_13.t.marks.take kk_18), bk b_15 31 [iv y_13.t.id, iv y_13.t.age, iv y_13.t.proc, iv y_13.t.began, .slice y_13.x.a0 (bro (p.t.marks.getD kk_18 0) y_13.t.calls.length) (bro (p.t.marks.getD kk_18 0) y_13.t.calls.length), .slice y_13.x.a1 (bro (p.t.marks.getD kk_18 0) y_13.t.ans.length) (bro (p.t.marks.getD kk_18 0) y_13.t.ans.length), .slice y_13.x.a2 y_13.t.rd.length y_13.x.c2, .slice y_13.x.a3 y_13.t.wr.length y_13.x.c3, .slice y_13.x.a4 kk_18 kk_18, iv y_13.t.state], bk b_12 31 [iv y_13.t.id, iv y_13.t.age, iv y_13.t.proc, iv y_13.t.began, .slice y_13.x.a0 (bro (p.t.marks.getD kk_18 0) y_13.t.calls.length) (bro (p.t.marks.getD kk_18 0) y_13.t.calls.length), .slice y_13.x.a1 (bro (p.t.marks.getD kk_18 0) y_13.t.ans.length) (bro (p.t.marks.getD kk_18 0) y_13.t.ans.length), .slice y_13.x.a2 y_13.t.rd.length y_13.x.c2, .slice y_13.x.a3 y_13.t.wr.length y_13.x.c3, .slice y_13.x.a4 kk_18 kk_18, iv y_13.t.state], bk b_11 31 (xc p)]) (fun w hw => hw.clip (i := 4) rfl (y_13.t.marks.take kk_18).length kk_18 (by omega) (by omega) (by omega) (front_map (by omega))) <| kO (L' := [Res.rows (rdsX (⟨⟨y_13.x.a0, (bro (p.t.marks.getD kk_18 0) y_13.t.calls.length), y_13.x.a1, (bro (p.t.marks.getD kk_18 0) y_13.t.ans.length), y_13.x.a2, y_13.x.c2, y_13.x.a3, y_13.x.c3, y_13.x.a4, kk_18⟩, ⟨y_13.t.id, y_13.t.age, y_13.t.proc, y_13.t.began, y_13.t.calls.take (bro (p.t.marks.getD kk_18 0) y_13.t.calls.length), y_13.t.ans.take (bro (p.t.marks.getD kk_18 0) y_13.t.ans.length), y_13.t.rd, y_13.t.wr, y_13.t.marks.take kk_18, y_13.t.state⟩⟩ : TX)), bk b_15 31 [iv y_13.t.id, iv y_13.t.age, iv y_13.t.proc, iv y_13.t.began, .slice y_13.x.a0 (bro (p.t.marks.getD kk_18 0) y_13.t.calls.length) (bro (p.t.marks.getD kk_18 0) y_13.t.calls.length), .slice y_13.x.a1 (bro (p.t.marks.getD kk_18 0) y_13.t.ans.length) (bro (p.t.marks.getD kk_18 0) y_13.t.ans.length), .slice y_13.x.a2 y_13.t.rd.length y_13.x.c2, .slice y_13.x.a3 y_13.t.wr.length y_13.x.c3, .slice y_13.x.a4 kk_18 kk_18, iv y_13.t.state], bk b_12 31 [iv y_13.t.id, iv y_13.t.age, iv y_13.t.proc, iv y_13.t.began, .slice y_13.x.a0 (bro (p.t.marks.getD kk_18 0) y_13.t.calls.length) (bro (p.t.marks.getD kk_18 0) y_13.t.calls.length), .slice y_13.x.a1 (bro (p.t.marks.getD kk_18 0) y_13.t.ans.length) (bro (p.t.marks.getD kk_18 0) y_13.t.ans.length), .slice y_13.x.a2 y_13.t.rd.length y_13.x.c2, .slice y_13.x.a3 y_13.t.wr.length y_13.x.c3, .slice y_13.x.a4 kk_18 kk_18, iv y_13.t.state], bk b_11 31 (xc p)]) (fun w hw => hw.closeR (A := rdsX (⟨⟨y_13.x.a0, (bro (p.t.marks.getD kk_18 0) y_13.t.calls.length), y_13.x.a1, (bro (p.t.marks.getD kk_18 0) y_13.t.ans.length), y_13.x.a2, y_13.x.c2, y_13.x.a3, y_13.x.c3, y_13.x.a4, kk_18⟩, ⟨y_13.t.id, y_13.t.age, y_13.t.proc, y_13.t.began, y_13.t.calls.take (bro (p.t.marks.getD kk_18 0) y_13.t.calls.length), y_13.t.ans.take (bro (p.t.marks.getD kk_18 0) y_13.t.ans.length), y_13.t.rd, y_13.t.wr, y_13.t.marks.take kk_18, y_13.t.state⟩⟩ : TX)) [0, 0, 0, 0, 0] rfl) <| kB (.inl rfl) rfl (je (jX 2 (vs := [iv y_13.t.id, iv y_13.t.age, iv y_13.t.proc, iv y_13.t.began, .slice y_13.x.a0 (bro (p.t.marks.getD kk_18 0) y_13.t.calls.length) (bro (p.t.marks.getD kk_18 0) y_13.t.calls.length), .slice y_13.x.a1 (bro (p.t.marks.getD kk_18 0) y_13.t.ans.length) (bro (p.t.marks.getD kk_18 0) y_13.t.ans.length), .slice y_13.x.a2 y_13.t.rd.length y_13.x.c2, .slice y_13.x.a3 y_13.t.wr.length y_13.x.c3, .slice y_13.x.a4 kk_18 kk_18, iv y_13.t.state]) rfl rfl kz kq rfl rfl) ⟨_, rfl⟩) (jN (v := .bool true) rfl) (tS 1 _) ?_
      have hm : p.t.back q = ((⟨⟨y_13.x.a0, (bro (p.t.marks.getD kk_18 0) y_13.t.calls.length), y_13.x.a1, (bro (p.t.marks.getD kk_18 0) y_13.t.ans.length), y_13.x.a2, y_13.x.c2, y_13.x.a3, y_13.x.c3, y_13.x.a4, kk_18⟩, ⟨y_13.t.id, y_13.t.age, y_13.t.proc, y_13.t.began, y_13.t.calls.take (bro (p.t.marks.getD kk_18 0) y_13.t.calls.length), y_13.t.ans.take (bro (p.t.marks.getD kk_18 0) y_13.t.ans.length), y_13.t.rd, y_13.t.wr, y_13.t.marks.take kk_18, y_13.t.state⟩⟩ : TX).t, true) := by rw [← hy_14]; unfold TD.back; rw [if_pos (by omega), hkk_19, Int.toNat_natCast]
      exact ⟨(⟨⟨y_13.x.a0, (bro (p.t.marks.getD kk_18 0) y_13.t.calls.length), y_13.x.a1, (bro (p.t.marks.getD kk_18 0) y_13.t.ans.length), y_13.x.a2, y_13.x.c2, y_13.x.a3, y_13.x.c3, y_13.x.a4, kk_18⟩, ⟨y_13.t.id, y_13.t.age, y_13.t.proc, y_13.t.began, y_13.t.calls.take (bro (p.t.marks.getD kk_18 0) y_13.t.calls.length), y_13.t.ans.take (bro (p.t.marks.getD kk_18 0) y_13.t.ans.length), y_13.t.rd, y_13.t.wr, y_13.t.marks.take kk_18, y_13.t.state⟩⟩ : TX), by rw [hm], by rw [hm]; simp only [hq_24, hq_25, hq_26], rfl⟩
    have hwi := within_false h_17
    refine jO (cB (cN h_17)) <| jC <| jE <| jK (jX 0 (vs := (xc y_13)) rfl rfl kz kq rfl rfl) ?_
    refine jH rfl (jT 2 (vs := (xc y_13)) (cs' := (xc y_13)) rfl rfl rfl rfl kq rfl rfl (lb rfl) rfl) ?_
    rintro _ _ rfl
    refine jA (jG (v := .bool false) rfl) <| jD <| jB <| jL <| jW <| kR (pick_perm [1] (A := [Res.rows (rdsX y_13)]) (F := [bk b_15 31 (xc y_13), bk b_12 31 (xc y_13), bk b_11 31 (xc p)]) rfl).symm <| kB (.inl rfl) rfl (je (jX 2 (vs := (xc y_13)) rfl rfl kz kq rfl rfl) ⟨_, rfl⟩) (jN (v := .bool false) rfl) (tS 1 _) ?_
    have hst : y_13.t.state = p.t.state := congrArg TD.state hy_14
    have hml : y_13.t.marks.length = p.t.marks.length := by rw [hy_14]
    have hm : p.t.back q = (p.t, false) := if_neg (by omega)
    exact ⟨y_13, by rw [hm]; exact hy_14, by rw [hm], rfl⟩
  refine jS (b := true) rfl rfl rfl (cB (cN (dF h_16))) <| jS (b := true) rfl rfl rfl (cB (cN (dF h_16))) <| jS (b := true) rfl rfl rfl (cB (cN (dF h_16))) <| jS (b := true) rfl rfl rfl (cB (cN (dF h_16))) <| jS (b := true) rfl rfl rfl (cB (cN (dF h_16))) <| jS (b := true) rfl rfl rfl (cB (cN (dF h_16))) <| jA (kG (v := .bool true) (cB (cN (dF h_16))) rfl) <| jD <| jB <| jO (cB rfl) ?_
  refine jC <| jE <| jK (jX 0 (vs := (xc y_13)) rfl rfl kz kq rfl rfl) ?_
  refine jH rfl (jT 2 (vs := (xc y_13)) (cs' := (xc y_13)) rfl rfl rfl rfl kq rfl rfl (lb rfl) rfl) ?_
  rintro _ _ rfl
  refine jA (jG (v := .bool false) rfl) <| jD <| jB <| jL <| jW <| kR (pick_perm [1] (A := [Res.rows (rdsX y_13)]) (F := [bk b_15 31 (xc y_13), bk b_12 31 (xc y_13), bk b_11 31 (xc p)]) rfl).symm <| kB (.inl rfl) rfl (je (jX 2 (vs := (xc y_13)) rfl rfl kz kq rfl rfl) ⟨_, rfl⟩) (jN (v := .bool false) rfl) (tS 1 _) ?_
  have hst : y_13.t.state = p.t.state := congrArg TD.state hy_14
  have hml : y_13.t.marks.length = p.t.marks.length := by rw [hy_14]
  have hm : p.t.back q = (p.t, false) := if_neg (by omega)
  exact ⟨y_13, by rw [hm]; exact hy_14, by rw [hm], rfl⟩

set_option maxRecDepth 4000 in
set_option maxHeartbeats 1000000 in
theorem Y_specTxBack (p : TX) (hl : p.t.lim 1000000000) (q : Int) (h_q : -9223372036854775808 ≤ q ∧ q ≤ 9223372036854775807) :
    Ct Tryz.prog 11 [.agg #[.int .i64 p.t.id, .int .i64 p.t.age, .int .i64 p.t.proc, .int .i64 p.t.began, .slice p.x.a0 p.t.calls.length p.x.c0, .slice p.x.a1 p.t.ans.length p.x.c1, .slice p.x.a2 p.t.rd.length p.x.c2, .slice p.x.a3 p.t.wr.length p.x.c3, .slice p.x.a4 p.t.marks.length p.x.c4, .int .i64 p.t.state], .int .i64 q] [] (fun w => SeesA w (rdsX p)) (fun v A' => ∃ z : TX, z.t = (p.t.back q).1 ∧ v = .tuple #[.agg #[.int .i64 z.t.id, .int .i64 z.t.age, .int .i64 z.t.proc, .int .i64 z.t.began, .slice z.x.a0 z.t.calls.length z.x.c0, .slice z.x.a1 z.t.ans.length z.x.c1, .slice z.x.a2 z.t.rd.length z.x.c2, .slice z.x.a3 z.t.wr.length z.x.c3, .slice z.x.a4 z.t.marks.length z.x.c4, .int .i64 z.t.state], .bool (p.t.back q).2] ∧ A' = [.rows (rdsX z)]) := by
  refine Ct.intro Tryz.func11 rfl Tryz.ntmps11 (lb rfl) fun w0 hpre => ?_
  obtain ⟨hs_1, hs_2, hs_3, hs_4, hs_5⟩ := seesX hpre
  have hlp := hl
  obtain ⟨hb_6, hb_7, hb_8, hb_9, hb_10⟩ := hl
  refine jC <| jE ?_
  refine jH rfl (jy (cs := (xc p)) rfl rfl) ?_
  rintro _ _ ⟨b_11, rfl, rfl⟩
  refine jH rfl (jn (z := xz) (cs := xzc) gH rfl) ?_
  rintro _ _ ⟨b_12, rfl, rfl⟩
  refine jA (jG (v := .bool false) rfl) <| jD <| jB <| jC <| jE <| jK (jX 1 (vs := (xc p)) rfl rfl kz kq rfl rfl) ?_
  refine jH rfl (jM [] Tryz.call32 rfl (Z_specl17Copy p hlp) rfl (fun w hw => hw.seeOutA hpre nMA)) ?_
  rintro _ _ ⟨_, ⟨y_13, hy_14, rfl, rfl⟩, rfl⟩
  refine jH rfl (jT 2 (vs := (xc y_13)) (cs' := (xc y_13)) rfl rfl rfl rfl kq rfl rfl (lb rfl) rfl) ?_
  rintro _ _ rfl
  refine jD <| jB <| jC <| jC <| jE <| jA (jJ fo31_8 rfl) <| jK (jV 2 (v := iv y_13.t.state) rfl rfl kp rfl) <| jA (kN rfl rfl) <| jA (jF (v := .bool (!(decide (y_13.t.state = 1)))) rfl) ?_
  by_cases h_15 : y_13.t.state = 1
  · refine jZ rfl rfl rfl (cB (cN (dT h_15))) (ja (jf (jF (v := iv q) rfl))) ?_
    rintro _ _ ⟨rfl, rfl⟩
    refine jZ rfl rfl rfl (cB (cN (dT h_15))) (ja (jf (jJ fo31_7 rfl))) ?_
    rintro _ _ ⟨rfl, rfl⟩
    refine jZ rfl rfl rfl (cB (cN (dT h_15))) (ja (jV 2 (v := .slice y_13.x.a4 y_13.t.marks.length y_13.x.c4) rfl rfl gS rfl)) ?_
    rintro _ _ ⟨rfl, rfl⟩
    refine jZ rfl rfl rfl (cB (cN (dT h_15))) (ja (jf (jp gB rfl))) ?_
    rintro _ _ ⟨rfl, rfl⟩
    refine jZ rfl rfl rfl (cB (cN (dT h_15))) (jM [] Tryz.call40 rfl (Y_l01In q 1 ((y_13.t.marks.length : Nat) : Int)) rfl (fun _ _ => trivial)) ?_
    rintro _ _ ⟨_, ⟨rfl, rfl⟩, rfl⟩
    refine jZ rfl rfl rfl (cB (cN (dT h_15))) (ja (jf (kP rfl))) ?_
    rintro _ _ ⟨rfl, rfl⟩
    refine jA (jv (v := .bool (!(within 1 q ((y_13.t.marks.length : Nat) : Int)))) (cB (cN (dT h_15))) rfl) <| jD <| jB ?_
    rcases Bool.eq_false_or_eq_true (within 1 q ((y_13.t.marks.length : Nat) : Int)) with h_16 | h_16
    · have hwi := within_true h_16
      refine jP (cB (cN h_16)) <| jU <| jB <| jC <| kg (L' := [Res.row (.slice y_13.x.a0 y_13.t.calls.length y_13.x.c0) 51 6 y_13.t.calls.length (y_13.t.calls.flatMap encK), Res.row (.slice y_13.x.a1 y_13.t.ans.length y_13.x.c1) 45 3 y_13.t.ans.length (y_13.t.ans.flatMap encA), rS y_13.x.a2 y_13.x.c2 y_13.t.rd, rS y_13.x.a3 y_13.x.c3 y_13.t.wr, rI y_13.x.a4 y_13.x.c4 y_13.t.marks, bk b_12 31 xzc, bk b_11 31 (xc y_13)]) (fun w hw => hw.openR 0 rfl) ?_
      have hl_calls : y_13.t.calls.length = p.t.calls.length := by rw [hy_14]
      have hl_ans : y_13.t.ans.length = p.t.ans.length := by rw [hy_14]
      have hl_marks : y_13.t.marks.length = p.t.marks.length := by rw [hy_14]
      have hst : y_13.t.state = p.t.state := congrArg TD.state hy_14
      refine jE <| jA (jJ fo31_7 rfl) <| jK (jV 6 (v := .slice y_13.x.a4 y_13.t.marks.length y_13.x.c4) rfl rfl gS rfl) <| jA (jF (v := iv q) rfl) ?_
      obtain ⟨kk_17, hkk_18⟩ : ∃ kk_17 : Nat, q - 1 = ((kk_17 : Nat) : Int) := ⟨(q - 1).toNat, by omega⟩
      refine jA (PO.castVD (kW (c := q - 1) rfl rfl (wr (by omega))) (congrArg (Value.int .i64) hkk_18)) ?_
      refine kc fun hst => ?_
      obtain ⟨hr_19, hr_19b, -⟩ := row_some 4 rfl (by omega) hst
      refine jA (jl (i := kk_17) gB kt hr_19 hr_19b rfl rfl (by omega)) <| jK (kl 4 (v := iv (y_13.t.marks.getD kk_17 0)) rfl rfl kp (atI (by omega))) <| jA (jG (v := iv (y_13.t.marks.getD kk_17 0)) rfl) <| jD <| jB <| jC <| jr [Res.row (.slice y_13.x.a0 y_13.t.calls.length y_13.x.c0) 51 6 y_13.t.calls.length (y_13.t.calls.flatMap encK), Res.row (.slice y_13.x.a1 y_13.t.ans.length y_13.x.c1) 45 3 y_13.t.ans.length (y_13.t.ans.flatMap encA), rS y_13.x.a2 y_13.x.c2 y_13.t.rd, rS y_13.x.a3 y_13.x.c3 y_13.t.wr, rI y_13.x.a4 y_13.x.c4 y_13.t.marks, bk b_12 31 xzc, bk b_11 31 (xc y_13)] 8 mixed (by simp) <| jI 0 rfl (jJ fo31_4 rfl) <| jh 1 rfl (jV 6 (v := .slice y_13.x.a0 y_13.t.calls.length y_13.x.c0) rfl rfl gb rfl) <| jI 2 rfl (jF (v := iv (y_13.t.marks.getD kk_17 0)) rfl) ?_
      refine jI 3 rfl (jJ fo31_4 rfl) <| jh 4 rfl (jV 6 (v := .slice y_13.x.a0 y_13.t.calls.length y_13.x.c0) rfl rfl gb rfl) <| jI 5 rfl (jp gD rfl) <| jQ (i := 6) ?_
      refine jY rfl rfl (jM [] Tryz.call41 rfl (Y_specbro (y_13.t.marks.getD kk_17 0) y_13.t.calls.length) rfl (fun _ _ => trivial)) ?_
      rintro _ _ ⟨_, ⟨rfl, rfl⟩, rfl⟩
      have hbro19 := bro_le (y_13.t.marks.getD kk_17 0) y_13.t.calls.length
      refine ⟨by simp, ?_⟩
      refine JA.facts fun hst => ?_
      obtain ⟨hf_20m, hf_20x, hf_20s, hf_20l⟩ := fits_of hst (i := 0) rfl
      refine jI 7 rfl (PO.sliceVh (j := (bro (y_13.t.marks.getD kk_17 0) y_13.t.calls.length)) gD ko hf_20s rfl rfl (by omega)) <| jI 8 rfl (jJ fo31_4 rfl) <| jQ (i := 9) ?_
      refine jx rfl (jT 6 (vs := [.slice y_13.x.a0 (bro (y_13.t.marks.getD kk_17 0) y_13.t.calls.length) y_13.x.c0]) (cs' := [iv y_13.t.id, iv y_13.t.age, iv y_13.t.proc, iv y_13.t.began, .slice y_13.x.a0 (bro (y_13.t.marks.getD kk_17 0) y_13.t.calls.length) y_13.x.c0, .slice y_13.x.a1 y_13.t.ans.length y_13.x.c1, .slice y_13.x.a2 y_13.t.rd.length y_13.x.c2, .slice y_13.x.a3 y_13.t.wr.length y_13.x.c3, .slice y_13.x.a4 y_13.t.marks.length y_13.x.c4, iv y_13.t.state]) rfl rfl rfl rfl Tryz.sizeOf24 rfl rfl (lb rfl) rfl) ?_
      rintro _ _ rfl
      refine jB <| jC <| jr [Res.row (.slice y_13.x.a0 y_13.t.calls.length y_13.x.c0) 51 6 y_13.t.calls.length (y_13.t.calls.flatMap encK), Res.row (.slice y_13.x.a1 y_13.t.ans.length y_13.x.c1) 45 3 y_13.t.ans.length (y_13.t.ans.flatMap encA), rS y_13.x.a2 y_13.x.c2 y_13.t.rd, rS y_13.x.a3 y_13.x.c3 y_13.t.wr, rI y_13.x.a4 y_13.x.c4 y_13.t.marks, bk b_12 31 xzc, bk b_11 31 [iv y_13.t.id, iv y_13.t.age, iv y_13.t.proc, iv y_13.t.began, .slice y_13.x.a0 (bro (y_13.t.marks.getD kk_17 0) y_13.t.calls.length) y_13.x.c0, .slice y_13.x.a1 y_13.t.ans.length y_13.x.c1, .slice y_13.x.a2 y_13.t.rd.length y_13.x.c2, .slice y_13.x.a3 y_13.t.wr.length y_13.x.c3, .slice y_13.x.a4 y_13.t.marks.length y_13.x.c4, iv y_13.t.state]] 8 mixed (by simp) <| jI 0 rfl (jJ fo31_5 rfl) <| jh 1 rfl (jV 6 (v := .slice y_13.x.a1 y_13.t.ans.length y_13.x.c1) rfl rfl gh rfl) <| jI 2 rfl (jF (v := iv (y_13.t.marks.getD kk_17 0)) rfl) <| jI 3 rfl (jJ fo31_5 rfl) <| jh 4 rfl (jV 6 (v := .slice y_13.x.a1 y_13.t.ans.length y_13.x.c1) rfl rfl gh rfl) <| jI 5 rfl (jp gN rfl) <| jQ (i := 6) ?_
      refine jY rfl rfl (jM [] Tryz.call41 rfl (Y_specbro (y_13.t.marks.getD kk_17 0) y_13.t.ans.length) rfl (fun _ _ => trivial)) ?_
      rintro _ _ ⟨_, ⟨rfl, rfl⟩, rfl⟩
      have hbro20 := bro_le (y_13.t.marks.getD kk_17 0) y_13.t.ans.length
      refine ⟨by simp, ?_⟩
      refine JA.facts fun hst => ?_
      obtain ⟨hf_21m, hf_21x, hf_21s, hf_21l⟩ := fits_of hst (i := 1) rfl
      refine jI 7 rfl (PO.sliceVh (j := (bro (y_13.t.marks.getD kk_17 0) y_13.t.ans.length)) gN kr hf_21s rfl rfl (by omega)) <| jI 8 rfl (jJ fo31_5 rfl) <| jQ (i := 9) ?_
      refine jx rfl (jT 6 (vs := [.slice y_13.x.a1 (bro (y_13.t.marks.getD kk_17 0) y_13.t.ans.length) y_13.x.c1]) (cs' := [iv y_13.t.id, iv y_13.t.age, iv y_13.t.proc, iv y_13.t.began, .slice y_13.x.a0 (bro (y_13.t.marks.getD kk_17 0) y_13.t.calls.length) y_13.x.c0, .slice y_13.x.a1 (bro (y_13.t.marks.getD kk_17 0) y_13.t.ans.length) y_13.x.c1, .slice y_13.x.a2 y_13.t.rd.length y_13.x.c2, .slice y_13.x.a3 y_13.t.wr.length y_13.x.c3, .slice y_13.x.a4 y_13.t.marks.length y_13.x.c4, iv y_13.t.state]) rfl rfl rfl rfl Tryz.sizeOf25 rfl rfl (lb rfl) rfl) ?_
      rintro _ _ rfl
      refine jB <| jC <| jE <| jA (jJ fo31_7 rfl) <| jK (jV 6 (v := .slice y_13.x.a4 y_13.t.marks.length y_13.x.c4) rfl rfl gS rfl) <| jA (jF (v := iv q) rfl) <| jA (PO.castVD (kW (c := q - 1) rfl rfl (wr (by omega))) (congrArg (Value.int .i64) hkk_18)) ?_
      refine kc fun hst => ?_
      obtain ⟨hf_22m, hf_22x, hf_22s, hf_22l⟩ := fits_of hst (i := 4) rfl
      refine jA (PO.sliceVh (j := kk_17) gB kt hf_22s rfl rfl (by omega)) <| jA (jJ fo31_7 rfl) ?_
      refine jH rfl (jT 6 (vs := [.slice y_13.x.a4 kk_17 y_13.x.c4]) (cs' := [iv y_13.t.id, iv y_13.t.age, iv y_13.t.proc, iv y_13.t.began, .slice y_13.x.a0 (bro (y_13.t.marks.getD kk_17 0) y_13.t.calls.length) y_13.x.c0, .slice y_13.x.a1 (bro (y_13.t.marks.getD kk_17 0) y_13.t.ans.length) y_13.x.c1, .slice y_13.x.a2 y_13.t.rd.length y_13.x.c2, .slice y_13.x.a3 y_13.t.wr.length y_13.x.c3, .slice y_13.x.a4 kk_17 y_13.x.c4, iv y_13.t.state]) rfl rfl rfl rfl Tryz.sizeOf29 rfl rfl (lb rfl) rfl) ?_
      rintro _ _ rfl
      refine jD <| jB <| jC <| jE <| jK (jX 6 (vs := [iv y_13.t.id, iv y_13.t.age, iv y_13.t.proc, iv y_13.t.began, .slice y_13.x.a0 (bro (y_13.t.marks.getD kk_17 0) y_13.t.calls.length) y_13.x.c0, .slice y_13.x.a1 (bro (y_13.t.marks.getD kk_17 0) y_13.t.ans.length) y_13.x.c1, .slice y_13.x.a2 y_13.t.rd.length y_13.x.c2, .slice y_13.x.a3 y_13.t.wr.length y_13.x.c3, .slice y_13.x.a4 kk_17 y_13.x.c4, iv y_13.t.state]) rfl rfl kz kq rfl rfl) ?_
      refine jH rfl (jT 5 (vs := [iv y_13.t.id, iv y_13.t.age, iv y_13.t.proc, iv y_13.t.began, .slice y_13.x.a0 (bro (y_13.t.marks.getD kk_17 0) y_13.t.calls.length) y_13.x.c0, .slice y_13.x.a1 (bro (y_13.t.marks.getD kk_17 0) y_13.t.ans.length) y_13.x.c1, .slice y_13.x.a2 y_13.t.rd.length y_13.x.c2, .slice y_13.x.a3 y_13.t.wr.length y_13.x.c3, .slice y_13.x.a4 kk_17 y_13.x.c4, iv y_13.t.state]) (cs' := [iv y_13.t.id, iv y_13.t.age, iv y_13.t.proc, iv y_13.t.began, .slice y_13.x.a0 (bro (y_13.t.marks.getD kk_17 0) y_13.t.calls.length) y_13.x.c0, .slice y_13.x.a1 (bro (y_13.t.marks.getD kk_17 0) y_13.t.ans.length) y_13.x.c1, .slice y_13.x.a2 y_13.t.rd.length y_13.x.c2, .slice y_13.x.a3 y_13.t.wr.length y_13.x.c3, .slice y_13.x.a4 kk_17 y_13.x.c4, iv y_13.t.state]) rfl rfl rfl rfl kq rfl rfl (lb rfl) rfl) ?_
      rintro _ _ rfl
      refine jA (jG (v := .bool true) rfl) <| jD <| jB <| jL ?_
      have hq_23 : (y_13.t.calls.take (bro (y_13.t.marks.getD kk_17 0) y_13.t.calls.length)).length = bro (y_13.t.marks.getD kk_17 0) y_13.t.calls.length := len_front (by omega)
      refine kO (L' := [Res.row (.slice y_13.x.a0 ((y_13.t.calls.take (bro (y_13.t.marks.getD kk_17 0) y_13.t.calls.length)).length) y_13.x.c0) 51 6 ((y_13.t.calls.take (bro (y_13.t.marks.getD kk_17 0) y_13.t.calls.length)).length) ((y_13.t.calls.take (bro (y_13.t.marks.getD kk_17 0) y_13.t.calls.length)).flatMap encK), Res.row (.slice y_13.x.a1 y_13.t.ans.length y_13.x.c1) 45 3 y_13.t.ans.length (y_13.t.ans.flatMap encA), rS y_13.x.a2 y_13.x.c2 y_13.t.rd, rS y_13.x.a3 y_13.x.c3 y_13.t.wr, rI y_13.x.a4 y_13.x.c4 y_13.t.marks, bk b_12 31 [iv y_13.t.id, iv y_13.t.age, iv y_13.t.proc, iv y_13.t.began, .slice y_13.x.a0 (bro (y_13.t.marks.getD kk_17 0) y_13.t.calls.length) y_13.x.c0, .slice y_13.x.a1 (bro (y_13.t.marks.getD kk_17 0) y_13.t.ans.length) y_13.x.c1, .slice y_13.x.a2 y_13.t.rd.length y_13.x.c2, .slice y_13.x.a3 y_13.t.wr.length y_13.x.c3, .slice y_13.x.a4 kk_17 y_13.x.c4, iv y_13.t.state], bk b_11 31 [iv y_13.t.id, iv y_13.t.age, iv y_13.t.proc, iv y_13.t.began, .slice y_13.x.a0 (bro (y_13.t.marks.getD kk_17 0) y_13.t.calls.length) y_13.x.c0, .slice y_13.x.a1 (bro (y_13.t.marks.getD kk_17 0) y_13.t.ans.length) y_13.x.c1, .slice y_13.x.a2 y_13.t.rd.length y_13.x.c2, .slice y_13.x.a3 y_13.t.wr.length y_13.x.c3, .slice y_13.x.a4 kk_17 y_13.x.c4, iv y_13.t.state]]) (fun w hw => hw.clip (i := 0) rfl (y_13.t.calls.take (bro (y_13.t.marks.getD kk_17 0) y_13.t.calls.length)).length y_13.x.c0 (by omega) (by omega) (by omega) (front_flat encK_len (by omega))) ?_
      have hq_24 : (y_13.t.ans.take (bro (y_13.t.marks.getD kk_17 0) y_13.t.ans.length)).length = bro (y_13.t.marks.getD kk_17 0) y_13.t.ans.length := len_front (by omega)
      refine kO (L' := [Res.row (.slice y_13.x.a0 ((y_13.t.calls.take (bro (y_13.t.marks.getD kk_17 0) y_13.t.calls.length)).length) y_13.x.c0) 51 6 ((y_13.t.calls.take (bro (y_13.t.marks.getD kk_17 0) y_13.t.calls.length)).length) ((y_13.t.calls.take (bro (y_13.t.marks.getD kk_17 0) y_13.t.calls.length)).flatMap encK), Res.row (.slice y_13.x.a1 ((y_13.t.ans.take (bro (y_13.t.marks.getD kk_17 0) y_13.t.ans.length)).length) y_13.x.c1) 45 3 ((y_13.t.ans.take (bro (y_13.t.marks.getD kk_17 0) y_13.t.ans.length)).length) ((y_13.t.ans.take (bro (y_13.t.marks.getD kk_17 0) y_13.t.ans.length)).flatMap encA), rS y_13.x.a2 y_13.x.c2 y_13.t.rd, rS y_13.x.a3 y_13.x.c3 y_13.t.wr, rI y_13.x.a4 y_13.x.c4 y_13.t.marks, bk b_12 31 [iv y_13.t.id, iv y_13.t.age, iv y_13.t.proc, iv y_13.t.began, .slice y_13.x.a0 (bro (y_13.t.marks.getD kk_17 0) y_13.t.calls.length) y_13.x.c0, .slice y_13.x.a1 (bro (y_13.t.marks.getD kk_17 0) y_13.t.ans.length) y_13.x.c1, .slice y_13.x.a2 y_13.t.rd.length y_13.x.c2, .slice y_13.x.a3 y_13.t.wr.length y_13.x.c3, .slice y_13.x.a4 kk_17 y_13.x.c4, iv y_13.t.state], bk b_11 31 [iv y_13.t.id, iv y_13.t.age, iv y_13.t.proc, iv y_13.t.began, .slice y_13.x.a0 (bro (y_13.t.marks.getD kk_17 0) y_13.t.calls.length) y_13.x.c0, .slice y_13.x.a1 (bro (y_13.t.marks.getD kk_17 0) y_13.t.ans.length) y_13.x.c1, .slice y_13.x.a2 y_13.t.rd.length y_13.x.c2, .slice y_13.x.a3 y_13.t.wr.length y_13.x.c3, .slice y_13.x.a4 kk_17 y_13.x.c4, iv y_13.t.state]]) (fun w hw => hw.clip (i := 1) rfl (y_13.t.ans.take (bro (y_13.t.marks.getD kk_17 0) y_13.t.ans.length)).length y_13.x.c1 (by omega) (by omega) (by omega) (front_flat encA_len (by omega))) ?_
      have hq_25 : (y_13.t.marks.take kk_17).length = kk_17 := len_front (by omega)
      refine kO (L' := [Res.row (.slice y_13.x.a0 ((y_13.t.calls.take (bro (y_13.t.marks.getD kk_17 0) y_13.t.calls.length)).length) y_13.x.c0) 51 6 ((y_13.t.calls.take (bro (y_13.t.marks.getD kk_17 0) y_13.t.calls.length)).length) ((y_13.t.calls.take (bro (y_13.t.marks.getD kk_17 0) y_13.t.calls.length)).flatMap encK), Res.row (.slice y_13.x.a1 ((y_13.t.ans.take (bro (y_13.t.marks.getD kk_17 0) y_13.t.ans.length)).length) y_13.x.c1) 45 3 ((y_13.t.ans.take (bro (y_13.t.marks.getD kk_17 0) y_13.t.ans.length)).length) ((y_13.t.ans.take (bro (y_13.t.marks.getD kk_17 0) y_13.t.ans.length)).flatMap encA), rS y_13.x.a2 y_13.x.c2 y_13.t.rd, rS y_13.x.a3 y_13.x.c3 y_13.t.wr, rI y_13.x.a4 y_13.x.c4 (y_13.t.marks.take kk_17), bk b_12 31 [iv y_13.t.id, iv y_13.t.age, iv y_13.t.proc, iv y_13.t.began, .slice y_13.x.a0 (bro (y_13.t.marks.getD kk_17 0) y_13.t.calls.length) y_13.x.c0, .slice y_13.x.a1 (bro (y_13.t.marks.getD kk_17 0) y_13.t.ans.length) y_13.x.c1, .slice y_13.x.a2 y_13.t.rd.length y_13.x.c2, .slice y_13.x.a3 y_13.t.wr.length y_13.x.c3, .slice y_13.x.a4 kk_17 y_13.x.c4, iv y_13.t.state], bk b_11 31 [iv y_13.t.id, iv y_13.t.age, iv y_13.t.proc, iv y_13.t.began, .slice y_13.x.a0 (bro (y_13.t.marks.getD kk_17 0) y_13.t.calls.length) y_13.x.c0, .slice y_13.x.a1 (bro (y_13.t.marks.getD kk_17 0) y_13.t.ans.length) y_13.x.c1, .slice y_13.x.a2 y_13.t.rd.length y_13.x.c2, .slice y_13.x.a3 y_13.t.wr.length y_13.x.c3, .slice y_13.x.a4 kk_17 y_13.x.c4, iv y_13.t.state]]) (fun w hw => hw.clip (i := 4) rfl (y_13.t.marks.take kk_17).length y_13.x.c4 (by omega) (by omega) (by omega) (front_map (by omega))) <| kO (L' := [Res.rows (rdsX (⟨⟨y_13.x.a0, y_13.x.c0, y_13.x.a1, y_13.x.c1, y_13.x.a2, y_13.x.c2, y_13.x.a3, y_13.x.c3, y_13.x.a4, y_13.x.c4⟩, ⟨y_13.t.id, y_13.t.age, y_13.t.proc, y_13.t.began, y_13.t.calls.take (bro (y_13.t.marks.getD kk_17 0) y_13.t.calls.length), y_13.t.ans.take (bro (y_13.t.marks.getD kk_17 0) y_13.t.ans.length), y_13.t.rd, y_13.t.wr, y_13.t.marks.take kk_17, y_13.t.state⟩⟩ : TX)), bk b_12 31 [iv y_13.t.id, iv y_13.t.age, iv y_13.t.proc, iv y_13.t.began, .slice y_13.x.a0 (bro (y_13.t.marks.getD kk_17 0) y_13.t.calls.length) y_13.x.c0, .slice y_13.x.a1 (bro (y_13.t.marks.getD kk_17 0) y_13.t.ans.length) y_13.x.c1, .slice y_13.x.a2 y_13.t.rd.length y_13.x.c2, .slice y_13.x.a3 y_13.t.wr.length y_13.x.c3, .slice y_13.x.a4 kk_17 y_13.x.c4, iv y_13.t.state], bk b_11 31 [iv y_13.t.id, iv y_13.t.age, iv y_13.t.proc, iv y_13.t.began, .slice y_13.x.a0 (bro (y_13.t.marks.getD kk_17 0) y_13.t.calls.length) y_13.x.c0, .slice y_13.x.a1 (bro (y_13.t.marks.getD kk_17 0) y_13.t.ans.length) y_13.x.c1, .slice y_13.x.a2 y_13.t.rd.length y_13.x.c2, .slice y_13.x.a3 y_13.t.wr.length y_13.x.c3, .slice y_13.x.a4 kk_17 y_13.x.c4, iv y_13.t.state]]) (fun w hw => hw.closeR (A := rdsX (⟨⟨y_13.x.a0, y_13.x.c0, y_13.x.a1, y_13.x.c1, y_13.x.a2, y_13.x.c2, y_13.x.a3, y_13.x.c3, y_13.x.a4, y_13.x.c4⟩, ⟨y_13.t.id, y_13.t.age, y_13.t.proc, y_13.t.began, y_13.t.calls.take (bro (y_13.t.marks.getD kk_17 0) y_13.t.calls.length), y_13.t.ans.take (bro (y_13.t.marks.getD kk_17 0) y_13.t.ans.length), y_13.t.rd, y_13.t.wr, y_13.t.marks.take kk_17, y_13.t.state⟩⟩ : TX)) [0, 0, 0, 0, 0] rfl) <| kB (.inl rfl) rfl (je (jX 1 (vs := [iv y_13.t.id, iv y_13.t.age, iv y_13.t.proc, iv y_13.t.began, .slice y_13.x.a0 (bro (y_13.t.marks.getD kk_17 0) y_13.t.calls.length) y_13.x.c0, .slice y_13.x.a1 (bro (y_13.t.marks.getD kk_17 0) y_13.t.ans.length) y_13.x.c1, .slice y_13.x.a2 y_13.t.rd.length y_13.x.c2, .slice y_13.x.a3 y_13.t.wr.length y_13.x.c3, .slice y_13.x.a4 kk_17 y_13.x.c4, iv y_13.t.state]) rfl rfl kz kq rfl rfl) ⟨_, rfl⟩) (jN (v := .bool true) rfl) (tS 1 _) ?_
      have hm : p.t.back q = ((⟨⟨y_13.x.a0, y_13.x.c0, y_13.x.a1, y_13.x.c1, y_13.x.a2, y_13.x.c2, y_13.x.a3, y_13.x.c3, y_13.x.a4, y_13.x.c4⟩, ⟨y_13.t.id, y_13.t.age, y_13.t.proc, y_13.t.began, y_13.t.calls.take (bro (y_13.t.marks.getD kk_17 0) y_13.t.calls.length), y_13.t.ans.take (bro (y_13.t.marks.getD kk_17 0) y_13.t.ans.length), y_13.t.rd, y_13.t.wr, y_13.t.marks.take kk_17, y_13.t.state⟩⟩ : TX).t, true) := by rw [← hy_14]; unfold TD.back; rw [if_pos (by omega), hkk_18, Int.toNat_natCast]
      exact ⟨(⟨⟨y_13.x.a0, y_13.x.c0, y_13.x.a1, y_13.x.c1, y_13.x.a2, y_13.x.c2, y_13.x.a3, y_13.x.c3, y_13.x.a4, y_13.x.c4⟩, ⟨y_13.t.id, y_13.t.age, y_13.t.proc, y_13.t.began, y_13.t.calls.take (bro (y_13.t.marks.getD kk_17 0) y_13.t.calls.length), y_13.t.ans.take (bro (y_13.t.marks.getD kk_17 0) y_13.t.ans.length), y_13.t.rd, y_13.t.wr, y_13.t.marks.take kk_17, y_13.t.state⟩⟩ : TX), by rw [hm], by rw [hm]; simp only [hq_23, hq_24, hq_25], rfl⟩
    have hwi := within_false h_16
    refine jO (cB (cN h_16)) <| jC <| jE <| jK (jX 2 (vs := (xc y_13)) rfl rfl kz kq rfl rfl) ?_
    refine jH rfl (jT 1 (vs := (xc y_13)) (cs' := (xc y_13)) rfl rfl rfl rfl kq rfl rfl (lb rfl) rfl) ?_
    rintro _ _ rfl
    refine jA (jG (v := .bool false) rfl) <| jD <| jB <| jL <| jW <| kB (.inl rfl) rfl (je (jX 1 (vs := (xc y_13)) rfl rfl kz kq rfl rfl) ⟨_, rfl⟩) (jN (v := .bool false) rfl) (tS 1 _) ?_
    have hst : y_13.t.state = p.t.state := congrArg TD.state hy_14
    have hml : y_13.t.marks.length = p.t.marks.length := by rw [hy_14]
    have hm : p.t.back q = (p.t, false) := if_neg (by omega)
    exact ⟨y_13, by rw [hm]; exact hy_14, by rw [hm], rfl⟩
  refine jS (b := true) rfl rfl rfl (cB (cN (dF h_15))) <| jS (b := true) rfl rfl rfl (cB (cN (dF h_15))) <| jS (b := true) rfl rfl rfl (cB (cN (dF h_15))) <| jS (b := true) rfl rfl rfl (cB (cN (dF h_15))) <| jS (b := true) rfl rfl rfl (cB (cN (dF h_15))) <| jS (b := true) rfl rfl rfl (cB (cN (dF h_15))) <| jA (kG (v := .bool true) (cB (cN (dF h_15))) rfl) <| jD <| jB <| jO (cB rfl) ?_
  refine jC <| jE <| jK (jX 2 (vs := (xc y_13)) rfl rfl kz kq rfl rfl) ?_
  refine jH rfl (jT 1 (vs := (xc y_13)) (cs' := (xc y_13)) rfl rfl rfl rfl kq rfl rfl (lb rfl) rfl) ?_
  rintro _ _ rfl
  refine jA (jG (v := .bool false) rfl) <| jD <| jB <| jL <| jW <| kB (.inl rfl) rfl (je (jX 1 (vs := (xc y_13)) rfl rfl kz kq rfl rfl) ⟨_, rfl⟩) (jN (v := .bool false) rfl) (tS 1 _) ?_
  have hst : y_13.t.state = p.t.state := congrArg TD.state hy_14
  have hml : y_13.t.marks.length = p.t.marks.length := by rw [hy_14]
  have hm : p.t.back q = (p.t, false) := if_neg (by omega)
  exact ⟨y_13, by rw [hm]; exact hy_14, by rw [hm], rfl⟩

end Go.Proofs.YtghfijncihbojaaGreat

set_option linter.unusedSimpArgs false
set_option linter.unusedVariables false
set_option linter.unnecessarySimpa false
namespace Go.Proofs.YtghfijncihbojaaGreat
open Go Go.RowKit
attribute [local irreducible] JL JC JQ JO LO PO JA JX Ct

set_option maxRecDepth 4000 in
set_option maxHeartbeats 1000000 in
theorem Y_sTxSteps (p : TX) (hl : p.t.lim 1000000000) :
    Ct Tryz.prog 96 [.agg #[.int .i64 p.t.id, .int .i64 p.t.age, .int .i64 p.t.proc, .int .i64 p.t.began, .slice p.x.a0 p.t.calls.length p.x.c0, .slice p.x.a1 p.t.ans.length p.x.c1, .slice p.x.a2 p.t.rd.length p.x.c2, .slice p.x.a3 p.t.wr.length p.x.c3, .slice p.x.a4 p.t.marks.length p.x.c4, .int .i64 p.t.state]] [] (fun w => SeesA w (rdsX p)) (fun v A' => ∃ a c, v = .slice a (stepsOf p.t).length c ∧ A' = [Res.row (.slice a ((stepsOf p.t).length) c) 206 7 ((stepsOf p.t).length) ((stepsOf p.t).flatMap encP)]) := by
  refine Ct.intro Tryz.func96 rfl Tryz.ntmps96 (lb rfl) fun w0 hpre => ?_
  obtain ⟨hs_1, hs_2, hs_3, hs_4, hs_5⟩ := seesX hpre
  have hlp := hl
  obtain ⟨hl0_, hl1_, hl2_, hl3_, hl4_⟩ := id hl
  refine jC <| jE ?_
  refine jH rfl (jy (cs := (xc p)) rfl rfl) ?_
  rintro _ _ ⟨b_6, rfl, rfl⟩
  refine jA (jG (v := .slice none 0 0) rfl) <| jD <| jB <| jC <| jE ?_
  refine jH rfl (kJ (ps := []) (cur := #[]) gT ga Tryz.zeroValue206 rfl (by kernel_rfl) (by decide) (by decide)) ?_
  rintro _ _ ⟨a_7, rfl, rfl⟩
  refine jA (jG (v := .slice a_7 0 0) rfl) <| jD <| jB <| jC <| jC <| jE <| jA (jG (v := iv 0) rfl) <| jD <| jB <| jg ?_
  refine kC (fun k_ e_ L_ => ∃ j_ : Nat, ∃ oa : Option Addr, ∃ oc : Nat, ∃ o_ : List SP, (j_ ≤ p.t.calls.length) ∧ (o_.length = j_) ∧ (o_ = (p.t.calls.take j_).map fun c => (⟨p.t.proc, c⟩ : SP)) ∧ e_ 1 = .pointer (some ⟨b_6, 0, none⟩) ∧ e_ 2 = .slice none 0 0 ∧ e_ 3 = .slice oa o_.length oc ∧ e_ 4 = nv j_ ∧ L_ = [Res.row (.slice oa o_.length oc) 206 7 o_.length (o_.flatMap encP), bk b_6 31 (xc p)] ∧ k_ = p.t.calls.length - j_) _ ⟨0, a_7, 0, ([] : List SP), by omega, rfl, rfl, rfl, rfl, rfl, rfl, rfl, rfl⟩ ?_
  rintro _ e_8 _ ⟨j_, oa, oc, o_, hj, hol, ho, he_9, he_10, he_11, he_12, rfl, rfl⟩
  refine jC <| jC <| jE <| jA (jF (v := nv j_) he_12) <| jA (jJ fo31_4 he_9) <| jK (jV 1 (v := .slice p.x.a0 p.t.calls.length p.x.c0) rfl rfl gb rfl) <| jA (jp gD rfl) <| jA (jo rfl rfl) <| jD <| jB ?_
  by_cases h_13 : ((j_ : Nat) : Int) < ((p.t.calls.length : Nat) : Int)
  · have hlt : j_ < p.t.calls.length := by omega
    refine jO (cB (dT h_13)) <| jU <| jB <| jC <| jg <| jr [bk b_6 31 (xc p)] 11 mixed (by simp) <| jI 0 rfl (jF (v := .slice oa o_.length oc) he_11) <| jI 1 rfl (jJ fo31_2 he_9) <| jh 2 rfl (jV 0 (v := iv p.t.proc) rfl rfl kp rfl) <| jI 3 rfl (jJ fo31_4 he_9) ?_
    refine jh 4 rfl (jV 0 (v := .slice p.x.a0 p.t.calls.length p.x.c0) rfl rfl gb rfl) <| jI 5 rfl (jF (v := nv j_) he_12) ?_
    obtain ⟨hr_14, hr_14b, -⟩ := sees_some hs_1 (by omega)
    refine jI 6 rfl (jl (i := j_) gD ko hr_14 hr_14b rfl rfl (by omega)) <| jh 7 rfl (kS (vs := [iv ((p.t.calls.getD j_ k0).kind), str ((p.t.calls.getD j_ k0).name), str ((p.t.calls.getD j_ k0).to_), iv ((p.t.calls.getD j_ k0).a), iv ((p.t.calls.getD j_ k0).b), str ((p.t.calls.getD j_ k0).text)]) hs_1 nM rfl ku ko (flat_take encK_len k0 p.t.calls j_ (by omega)) rfl (by decide)) <| jI 8 rfl (kY (ps := [(0, iv p.t.proc), (1, .agg #[iv ((p.t.calls.getD j_ k0).kind), str ((p.t.calls.getD j_ k0).name), str ((p.t.calls.getD j_ k0).to_), iv ((p.t.calls.getD j_ k0).a), iv ((p.t.calls.getD j_ k0).b), str ((p.t.calls.getD j_ k0).text)])]) (cs := [iv p.t.proc, iv ((p.t.calls.getD j_ k0).kind), str ((p.t.calls.getD j_ k0).name), str ((p.t.calls.getD j_ k0).to_), iv ((p.t.calls.getD j_ k0).a), iv ((p.t.calls.getD j_ k0).b), str ((p.t.calls.getD j_ k0).text)]) rfl (by kernel_rfl)) <| jQ (i := 9) ?_
    refine jY rfl rfl (kJ (ps := [(0, .agg #[iv p.t.proc, iv ((p.t.calls.getD j_ k0).kind), str ((p.t.calls.getD j_ k0).name), str ((p.t.calls.getD j_ k0).to_), iv ((p.t.calls.getD j_ k0).a), iv ((p.t.calls.getD j_ k0).b), str ((p.t.calls.getD j_ k0).text)])]) (cur := #[iv p.t.proc, iv ((p.t.calls.getD j_ k0).kind), str ((p.t.calls.getD j_ k0).name), str ((p.t.calls.getD j_ k0).to_), iv ((p.t.calls.getD j_ k0).a), iv ((p.t.calls.getD j_ k0).b), str ((p.t.calls.getD j_ k0).text)]) gT ga Tryz.zeroValue206 rfl (by kernel_rfl) (by decide) (by decide)) ?_
    rintro _ _ ⟨a_16, rfl, rfl⟩
    refine ⟨(by simp), ?_⟩
    refine jQ (i := 10) ?_
    refine jY rfl rfl (kM 1 (q := 1) (news := ([(⟨p.t.proc, (p.t.calls.getD j_ k0)⟩ : SP)] : List SP).flatMap encP) (n' := (o_ ++ ([(⟨p.t.proc, (p.t.calls.getD j_ k0)⟩ : SP)] : List SP)).length) (cs' := (o_ ++ ([(⟨p.t.proc, (p.t.calls.getD j_ k0)⟩ : SP)] : List SP)).flatMap encP) rfl gT gT Tryz.typeInfo206 rfl (by' := 80) rfl rfl rfl rfl rfl (fun w hw => Src.sees (hw.see (i := 0) rfl) (oneP _)) (by (try simp only [LE]); omega) (by (try simp only [LE]); omega) (by simp only [List.length_append, List.length_take, List.length_drop, List.length_cons, List.length_nil] <;> first | rfl | omega) (by simp only [List.flatMap_append])) ?_
    rintro _ _ ⟨a_19, c_20, rfl, rfl⟩
    refine ⟨(by simp), ?_⟩
    refine jI 11 rfl (jG (v := .slice a_19 ((o_ ++ ([(⟨p.t.proc, (p.t.calls.getD j_ k0)⟩ : SP)] : List SP)).length) c_20) rfl) <| kI (by kernel_rfl) <| jk <| jB <| jE <| jA (jF (v := nv j_) he_12) <| jA (ji (c := ((j_ + 1 : Nat) : Int)) rfl rfl (wr (by omega))) <| jA (jG (v := iv ((j_ + 1 : Nat) : Int)) rfl) <| jD <| kH [1, 1] (A := [Res.row (.slice a_19 ((o_ ++ ([(⟨p.t.proc, (p.t.calls.getD j_ k0)⟩ : SP)] : List SP)).length) c_20) 206 7 ((o_ ++ ([(⟨p.t.proc, (p.t.calls.getD j_ k0)⟩ : SP)] : List SP)).length) ((o_ ++ ([(⟨p.t.proc, (p.t.calls.getD j_ k0)⟩ : SP)] : List SP)).flatMap encP), bk b_6 31 (xc p)]) rfl ?_
    refine ju (p.t.calls.length - (j_ + 1)) (by omega) ⟨j_ + 1, a_19, c_20, (o_ ++ ([(⟨p.t.proc, (p.t.calls.getD j_ k0)⟩ : SP)] : List SP)), by omega, (by rw [List.length_append, hol]; rfl), (by rw [take_at (getD_some (d := k0) hlt), List.map_append, ← ho]; rfl), he_9, he_10, rfl, rfl, rfl, rfl⟩
  refine jP (cB (dF h_13)) <| jz <| jj <| jj <| kA <| jB <| jC <| jE <| jA (jF (v := .slice oa o_.length oc) he_11) <| jA (jG (v := .slice oa o_.length oc) rfl) ?_
  refine jD <| jB <| jL <| jR (.inl rfl) rfl (jN (v := .slice oa o_.length oc) rfl) (tS 1 _) ?_
  have he : o_ = stepsOf p.t := by rw [ho, List.take_of_length_le (by omega)]; rfl
  exact ⟨oa, oc, by rw [he], by rw [he] <;> rfl⟩

set_option maxRecDepth 4000 in
set_option maxHeartbeats 1000000 in
theorem Y_sTxView (p : TX) (hl : p.t.lim 500000000) (sa : Option Addr) (sc : Nat) (s : List Cell) (n : Nat) (hO : okC' n 1048576 s) (hn : n ≤ 18000000) (hc : okT p.t) (hg : grow n p.t.calls.length ≤ 2800000) (hgT : growT n 0 p.t.calls.length ≤ 20000000) :
    Ct Tryz.prog 51 [.slice sa s.length sc, .agg #[.int .i64 p.t.id, .int .i64 p.t.age, .int .i64 p.t.proc, .int .i64 p.t.began, .slice p.x.a0 p.t.calls.length p.x.c0, .slice p.x.a1 p.t.ans.length p.x.c1, .slice p.x.a2 p.t.rd.length p.x.c2, .slice p.x.a3 p.t.wr.length p.x.c3, .slice p.x.a4 p.t.marks.length p.x.c4, .int .i64 p.t.state]] [] (fun w => Sees w (.slice sa s.length sc) 2 s.length (s.flatMap encC) ∧ SeesA w (rdsX p)) (fun v A' => ∃ a c v', viewL s p.t = v' ∧ okC' (grow n p.t.calls.length) 1048576 v' ∧ v = .slice a v'.length c ∧ A' = [rC a c v']) := by
  refine Ct.intro Tryz.func51 rfl Tryz.ntmps51 (lb rfl) fun w0 hpre => ?_
  have hs_s : Sees w0 _ _ _ _ := hpre.1
  have hl := hl.mono (show 500000000 ≤ 1000000000 by decide)
  obtain ⟨hs_1, hs_2, hs_3, hs_4, hs_5⟩ := seesX hpre.2
  have hlp := hl
  obtain ⟨hl0_, hl1_, hl2_, hl3_, hl4_⟩ := id hl
  have hO1 := hO.1
  have hsl : (stepsOf p.t).length = p.t.calls.length := List.length_map _
  have hsP := okSteps_of hc
  have hcp := hc.pr
  have hcn := hc.n
  refine jC <| jE ?_
  refine jH rfl (jy (cs := (xc p)) rfl rfl) ?_
  rintro _ _ ⟨b_6, rfl, rfl⟩
  refine jA (jG (v := .slice none 0 0) rfl) <| jD <| jB <| jC <| jE <| jA (jF (v := .slice sa s.length sc) rfl) <| jK (jX 0 (vs := (xc p)) rfl rfl kz kq rfl rfl) ?_
  refine jH rfl (jM [] Tryz.call96 rfl (Y_sTxSteps p hlp) rfl (fun w hw => hw.seeOutA hpre.2 nMA)) ?_
  rintro _ _ ⟨_, ⟨a_7, c_8, rfl, rfl⟩, rfl⟩
  refine jH rfl (jM [] Tryz.call95 rfl (D_run15 sa sc s a_7 c_8 (stepsOf p.t) (by have hl_ := (hO).1; omega) (by omega) hO (by omega) hsP (by rw [hsl]; omega) (by rw [hsl]; omega)) rfl (fun w hw => ⟨hw.seeOut_ hs_s nM, hw.see (i := 0) rfl⟩)) ?_
  rintro _ _ ⟨_, ⟨a_9, c_10, v_11, a_12, c_13, o_14, a_15, c_16, r_17, a_18, c_19, w_20, e_21, hO_22, hl_23, ht_24, rfl, rfl⟩, rfl⟩
  refine jA (jF (v := .tuple #[.slice a_9 v_11.length c_10, .slice a_12 o_14.length c_13, .agg #[.slice a_15 r_17.length c_16, .slice a_18 w_20.length c_19]]) rfl) <| jA (jb (v := .slice a_9 v_11.length c_10) rfl rfl) <| jA (jb (v := .slice a_12 o_14.length c_13) rfl rfl) <| jA (jb (v := .agg #[.slice a_15 r_17.length c_16, .slice a_18 w_20.length c_19]) rfl rfl) ?_
  refine jH rfl (jn (z := .agg #[.slice none 0 0, .slice none 0 0]) (cs := [.slice none 0 0, .slice none 0 0]) gU rfl) ?_
  rintro _ _ ⟨b_25, rfl, rfl⟩
  refine jA (jG (v := .slice a_9 v_11.length c_10) rfl) <| jA (jG (v := .slice a_12 o_14.length c_13) rfl) ?_
  refine jH rfl (jT 0 (vs := [.slice a_15 r_17.length c_16, .slice a_18 w_20.length c_19]) (cs' := [.slice a_15 r_17.length c_16, .slice a_18 w_20.length c_19]) rfl rfl rfl rfl kx rfl rfl (lb rfl) rfl) ?_
  rintro _ _ rfl
  refine jD <| jB <| jC <| jE <| jA (jF (v := .slice a_9 v_11.length c_10) rfl) <| jA (jG (v := .slice a_9 v_11.length c_10) rfl) <| jD <| jB <| jL <| kR (pick_perm [1] (A := [rC a_9 c_10 v_11]) (F := [bk b_25 28 [.slice a_15 r_17.length c_16, .slice a_18 w_20.length c_19], Res.row (.slice a_12 o_14.length c_13) 45 3 o_14.length (o_14.flatMap encA), rS a_15 c_16 r_17, rS a_18 c_19 w_20, Res.row (.slice a_7 ((stepsOf p.t).length) c_8) 206 7 ((stepsOf p.t).length) ((stepsOf p.t).flatMap encP), bk b_6 31 (xc p)]) rfl).symm ?_
  refine jR (.inl rfl) rfl (jN (v := .slice a_9 v_11.length c_10) rfl) (tS 1 _) ?_
  exact ⟨a_9, c_10, v_11, (show viewL s p.t = _ by unfold viewL; rw [e_21]), (by rw [hsl] at *; exact hO_22), rfl, rfl⟩

theorem Y_iTxNew (a b c : Int) :
    Ct Tryz.prog 19 [.int .i64 a, .int .i64 b, .int .i64 c] [] (fun _ => True) (fun v A' => ∃ z : TX, z.t = TD.new a b c ∧ v = .agg #[.int .i64 z.t.id, .int .i64 z.t.age, .int .i64 z.t.proc, .int .i64 z.t.began, .slice z.x.a0 z.t.calls.length z.x.c0, .slice z.x.a1 z.t.ans.length z.x.c1, .slice z.x.a2 z.t.rd.length z.x.c2, .slice z.x.a3 z.t.wr.length z.x.c3, .slice z.x.a4 z.t.marks.length z.x.c4, .int .i64 z.t.state] ∧ A' = [.rows (rdsX z)]) := by
  refine Ct.intro Tryz.func19 rfl Tryz.ntmps19 (lb rfl) fun w0 hpre => ?_
  refine jC <| jE ?_
  refine jH rfl (jn (z := xz) (cs := xzc) gH rfl) ?_
  rintro _ _ ⟨b_1, rfl, rfl⟩
  refine jD <| jB <| jC <| jE <| jA (jF (v := iv a) rfl) <| jA (jF (v := iv b) rfl) <| jA (jF (v := iv c) rfl) <| jA (kY (ps := [(0, iv a), (1, iv b), (2, iv c), (8, iv 1)]) (cs := [iv a, iv b, iv c, iv 0, .slice none 0 0, .slice none 0 0, .slice none 0 0, .slice none 0 0, .slice none 0 0, iv 1]) rfl (by kernel_rfl)) ?_
  refine jH rfl (jT 0 (vs := [iv a, iv b, iv c, iv 0, .slice none 0 0, .slice none 0 0, .slice none 0 0, .slice none 0 0, .slice none 0 0, iv 1]) (cs' := [iv a, iv b, iv c, iv 0, .slice none 0 0, .slice none 0 0, .slice none 0 0, .slice none 0 0, .slice none 0 0, iv 1]) rfl rfl rfl rfl kq rfl rfl (lb rfl) rfl) ?_
  rintro _ _ rfl
  refine jD <| jB <| jL <| JQ.nilRow 51 6 <| JQ.nilRow 45 3 <| JQ.nilRow 9 1 <| JQ.nilRow 9 1 <| JQ.nilRow 3 1 <| kO (L' := [Res.rows (rdsX (⟨⟨none, 0, none, 0, none, 0, none, 0, none, 0⟩, TD.new a b c⟩ : TX)), bk b_1 31 [iv a, iv b, iv c, iv 0, .slice none 0 0, .slice none 0 0, .slice none 0 0, .slice none 0 0, .slice none 0 0, iv 1]]) (fun w hw => hw.closeR (A := rdsX (⟨⟨none, 0, none, 0, none, 0, none, 0, none, 0⟩, TD.new a b c⟩ : TX)) [4, 3, 2, 1, 0] rfl) <| jR (.inl rfl) rfl (je (jX 1 (vs := [iv a, iv b, iv c, iv 0, .slice none 0 0, .slice none 0 0, .slice none 0 0, .slice none 0 0, .slice none 0 0, iv 1]) rfl rfl kz kq rfl rfl) ⟨_, rfl⟩) (tS 1 _) ?_
  exact ⟨(⟨⟨none, 0, none, 0, none, 0, none, 0, none, 0⟩, TD.new a b c⟩ : TX), rfl, rfl, rfl⟩

theorem Y_sTxNew (a b c : Int) :
    Ct Tryz.prog 245 [.int .i64 a, .int .i64 b, .int .i64 c] [] (fun _ => True) (fun v A' => ∃ z : TX, z.t = TD.new a b c ∧ v = .agg #[.int .i64 z.t.id, .int .i64 z.t.age, .int .i64 z.t.proc, .int .i64 z.t.began, .slice z.x.a0 z.t.calls.length z.x.c0, .slice z.x.a1 z.t.ans.length z.x.c1, .slice z.x.a2 z.t.rd.length z.x.c2, .slice z.x.a3 z.t.wr.length z.x.c3, .slice z.x.a4 z.t.marks.length z.x.c4, .int .i64 z.t.state] ∧ A' = [.rows (rdsX z)]) := by
  refine Ct.intro Tryz.func245 rfl Tryz.ntmps245 (lb rfl) fun w0 hpre => ?_
  refine jC <| jE ?_
  refine jH rfl (jn (z := xz) (cs := xzc) gH rfl) ?_
  rintro _ _ ⟨b_1, rfl, rfl⟩
  refine jD <| jB <| jC <| jE <| jA (jF (v := iv a) rfl) <| jA (jF (v := iv b) rfl) <| jA (jF (v := iv c) rfl) <| jA (kY (ps := [(0, iv a), (1, iv b), (2, iv c), (8, iv 1)]) (cs := [iv a, iv b, iv c, iv 0, .slice none 0 0, .slice none 0 0, .slice none 0 0, .slice none 0 0, .slice none 0 0, iv 1]) rfl (by kernel_rfl)) ?_
  refine jH rfl (jT 0 (vs := [iv a, iv b, iv c, iv 0, .slice none 0 0, .slice none 0 0, .slice none 0 0, .slice none 0 0, .slice none 0 0, iv 1]) (cs' := [iv a, iv b, iv c, iv 0, .slice none 0 0, .slice none 0 0, .slice none 0 0, .slice none 0 0, .slice none 0 0, iv 1]) rfl rfl rfl rfl kq rfl rfl (lb rfl) rfl) ?_
  rintro _ _ rfl
  refine jD <| jB <| jL <| JQ.nilRow 51 6 <| JQ.nilRow 45 3 <| JQ.nilRow 9 1 <| JQ.nilRow 9 1 <| JQ.nilRow 3 1 <| kO (L' := [Res.rows (rdsX (⟨⟨none, 0, none, 0, none, 0, none, 0, none, 0⟩, TD.new a b c⟩ : TX)), bk b_1 31 [iv a, iv b, iv c, iv 0, .slice none 0 0, .slice none 0 0, .slice none 0 0, .slice none 0 0, .slice none 0 0, iv 1]]) (fun w hw => hw.closeR (A := rdsX (⟨⟨none, 0, none, 0, none, 0, none, 0, none, 0⟩, TD.new a b c⟩ : TX)) [4, 3, 2, 1, 0] rfl) <| jR (.inl rfl) rfl (je (jX 1 (vs := [iv a, iv b, iv c, iv 0, .slice none 0 0, .slice none 0 0, .slice none 0 0, .slice none 0 0, .slice none 0 0, iv 1]) rfl rfl kz kq rfl rfl) ⟨_, rfl⟩) (tS 1 _) ?_
  exact ⟨(⟨⟨none, 0, none, 0, none, 0, none, 0, none, 0⟩, TD.new a b c⟩ : TX), rfl, rfl, rfl⟩

set_option maxRecDepth 4000 in
set_option maxHeartbeats 1000000 in
theorem Y_sTxAsk (p : TX) (hl : p.t.lim 500000000) (sa : Option Addr) (sc : Nat) (s : List Cell) (n : Nat) (hO : okC' n 1048576 s) (hn : n ≤ 18000000) (hc : okT p.t) (hg0 : p.t.calls.length < 12 → grow n p.t.calls.length ≤ 2800000) (hgT0 : p.t.calls.length < 12 → growT n 0 p.t.calls.length ≤ 20000000) (c : CL) (hcc : c.ok 1048576) :
    Ct Tryz.prog 20 [.slice sa s.length sc, .agg #[.int .i64 p.t.id, .int .i64 p.t.age, .int .i64 p.t.proc, .int .i64 p.t.began, .slice p.x.a0 p.t.calls.length p.x.c0, .slice p.x.a1 p.t.ans.length p.x.c1, .slice p.x.a2 p.t.rd.length p.x.c2, .slice p.x.a3 p.t.wr.length p.x.c3, .slice p.x.a4 p.t.marks.length p.x.c4, .int .i64 p.t.state], .agg #[.int .i64 c.kind, str c.name, str c.to_, .int .i64 c.a, .int .i64 c.b, str c.text]] [] (fun w => Sees w (.slice sa s.length sc) 2 s.length (s.flatMap encC) ∧ SeesA w (rdsX p)) (fun v A' => ∃ (z : TX) (a : AN), TD.askV (viewL s p.t) p.t c = (z.t, a) ∧ ((0 ≤ a.code ∧ a.code ≤ 9) ∧ (-1 ≤ a.n ∧ a.n ≤ 1000000000) ∧ a.text.length ≤ 30000000000000) ∧ (z.t.rd.length ≤ p.t.rd.length + 20000000 ∧ z.t.wr.length ≤ p.t.wr.length + 20000000) ∧ v = .tuple #[.agg #[.int .i64 z.t.id, .int .i64 z.t.age, .int .i64 z.t.proc, .int .i64 z.t.began, .slice z.x.a0 z.t.calls.length z.x.c0, .slice z.x.a1 z.t.ans.length z.x.c1, .slice z.x.a2 z.t.rd.length z.x.c2, .slice z.x.a3 z.t.wr.length z.x.c3, .slice z.x.a4 z.t.marks.length z.x.c4, .int .i64 z.t.state], .agg #[.int .i64 a.code, .int .i64 a.n, str a.text]] ∧ A' = [.rows (rdsX z)]) := by
  have hlv := hl
  refine Ct.intro Tryz.func20 rfl Tryz.ntmps20 (lb rfl) fun w0 hpre => ?_
  have hs_s : Sees w0 _ _ _ _ := hpre.1
  have hl := hl.mono (show 500000000 ≤ 1000000000 by decide)
  obtain ⟨hs_1, hs_2, hs_3, hs_4, hs_5⟩ := seesX hpre.2
  have hlp := hl
  obtain ⟨hl0_, hl1_, hl2_, hl3_, hl4_⟩ := id hl
  have hO1 := hO.1
  have hsl : (stepsOf p.t).length = p.t.calls.length := List.length_map _
  have hsP := okSteps_of hc
  have hcp := hc.pr
  have hcn := hc.n
  obtain ⟨hc1, hc2, hc3, hc4, hc5, hc6⟩ := id hcc
  refine jC <| jE ?_
  refine jH rfl (jy (cs := (xc p)) rfl rfl) ?_
  rintro _ _ ⟨b_6, rfl, rfl⟩
  refine jH rfl (jy (cs := [iv c.kind, str c.name, str c.to_, iv c.a, iv c.b, str c.text]) rfl rfl) ?_
  rintro _ _ ⟨b_7, rfl, rfl⟩
  refine jH rfl (jn (z := xz) (cs := xzc) gH rfl) ?_
  rintro _ _ ⟨b_8, rfl, rfl⟩
  refine jH rfl (jn (z := .agg #[iv 0, iv 0, str []]) (cs := [iv 0, iv 0, str []]) gG rfl) ?_
  rintro _ _ ⟨b_9, rfl, rfl⟩
  refine jD <| jB <| jC <| jE <| jK (jX 3 (vs := (xc p)) rfl rfl kz kq rfl rfl) ?_
  refine jH rfl (jM [] Tryz.call32 rfl (Z_specl17Copy p hlp) rfl (fun w hw => hw.seeOutA hpre.2 nMA)) ?_
  rintro _ _ ⟨_, ⟨y_10, hy_11, rfl, rfl⟩, rfl⟩
  refine jH rfl (jT 4 (vs := (xc y_10)) (cs' := (xc y_10)) rfl rfl rfl rfl kq rfl rfl (lb rfl) rfl) ?_
  rintro _ _ rfl
  refine jD <| jB <| jC <| jC ?_
  have hst : y_10.t.state = p.t.state := congrArg TD.state hy_11
  have hcl : y_10.t.calls.length = p.t.calls.length := by rw [hy_11]
  have hpr : y_10.t.proc = p.t.proc := congrArg TD.proc hy_11
  have hgy : grow n y_10.t.calls.length = grow n p.t.calls.length := by rw [hcl]
  refine jE <| jA (jJ fo31_8 rfl) <| jK (jV 4 (v := iv y_10.t.state) rfl rfl kp rfl) <| jA (kN rfl rfl) <| jD <| jB ?_
  by_cases h_12 : y_10.t.state = 1
  · refine jP (cB (cN (dT h_12))) <| jU <| jB <| jC <| jC <| jE <| jA (jJ fo31_4 rfl) <| jK (jV 4 (v := .slice y_10.x.a0 y_10.t.calls.length y_10.x.c0) rfl rfl gb rfl) <| jA (jp gD rfl) <| jA (kh rfl rfl) ?_
    refine jD <| jB ?_
    by_cases h_13 : 12 ≤ ((y_10.t.calls.length : Nat) : Int)
    · refine jO (cB (dT h_13)) <| jC <| jE <| jK (jX 4 (vs := (xc y_10)) rfl rfl kz kq rfl rfl) <| jA (kY (ps := [(0, iv 3)]) (cs := [iv 3, iv 0, str []]) rfl (by kernel_rfl)) ?_
      refine jH rfl (jT 2 (vs := (xc y_10)) (cs' := (xc y_10)) rfl rfl rfl rfl kq rfl rfl (lb rfl) rfl) ?_
      rintro _ _ rfl
      refine jH rfl (jT 1 (vs := [iv 3, iv 0, str []]) (cs' := [iv 3, iv 0, str []]) rfl rfl rfl rfl kr rfl rfl (lb rfl) rfl) ?_
      rintro _ _ rfl
      refine jD <| jB <| jL <| jW <| kB (.inl rfl) rfl (je (jX 2 (vs := (xc y_10)) rfl rfl kz kq rfl rfl) ⟨_, rfl⟩) (je (jX 1 (vs := [iv 3, iv 0, str []]) rfl rfl gA kr rfl rfl) ⟨_, rfl⟩) (tS 1 _) ?_
      have hm : TD.askV (viewL s p.t) p.t c = (p.t, (⟨3, 0, []⟩ : AN)) := by first | exact askV_off (by omega) | exact askV_full (by omega) (by omega)
      exact ⟨y_10, (⟨3, 0, []⟩ : AN), by rw [hm, hy_11], (by (try dsimp only); (try simp only [List.length_nil]); omega), (by rw [hy_11]; omega), rfl, rfl⟩
    refine jP (cB (dF h_13)) <| jU <| jB <| jC ?_
    have hg := hg0 (by omega)
    have hgT := hgT0 (by omega)
    refine JC.cut (fun e_ L_ => ∃ a_14 : Option Addr, ∃ c_15 : Nat, ∃ v_16 : List Cell, ∃ x_19 : MA, ∃ m_20 : MS, ∃ A_21 : AN, ∃ b_25 : Nat, ∃ b_26 : Nat, (viewL s y_10.t = v_16) ∧ (okC' (grow (n) y_10.t.calls.length) 1048576 v_16) ∧ ((⟨v_16, [], []⟩ : MS).doCall y_10.t.proc c = (m_20, A_21)) ∧ (m_20.ok (3 * (grow (n) y_10.t.calls.length) + 20) (7 * (grow (n) y_10.t.calls.length) + 200)) ∧ ((0 ≤ A_21.code ∧ A_21.code ≤ 9) ∧ (-1 ≤ A_21.n ∧ A_21.n ≤ 1000000000) ∧ A_21.text.length ≤ 30000000000000) ∧ e_ 4 = .pointer (some ⟨b_6, 0, none⟩) ∧ e_ 5 = .pointer (some ⟨b_7, 0, none⟩) ∧ e_ 6 = .pointer (some ⟨b_8, 0, none⟩) ∧ e_ 7 = .pointer (some ⟨b_9, 0, none⟩) ∧ e_ 9 = .pointer (some ⟨b_25, 0, none⟩) ∧ e_ 10 = .pointer (some ⟨b_26, 0, none⟩) ∧ L_ = [bk b_26 28 [.slice x_19.a1 m_20.r.length x_19.c1, .slice x_19.a2 m_20.w.length x_19.c2], bk b_25 45 [iv A_21.code, iv A_21.n, str A_21.text], rC x_19.a0 x_19.c0 m_20.s, rS x_19.a1 x_19.c1 m_20.r, rS x_19.a2 x_19.c2 m_20.w, rC a_14 c_15 v_16, Res.rows (rdsX y_10), bk b_9 45 [iv 0, iv 0, str []], bk b_8 31 xzc, bk b_7 51 [iv c.kind, str c.name, str c.to_, iv c.a, iv c.b, str c.text], bk b_6 31 (xc y_10)]) ?_ ?_
    · have hg := hg0 (by omega)
      have hgT := hgT0 (by omega)
      refine jr [bk b_7 51 [iv c.kind, str c.name, str c.to_, iv c.a, iv c.b, str c.text], bk b_6 31 (xc y_10)] 13 mixed (by simp) <| jI 0 rfl (jF (v := .slice sa s.length sc) rfl) <| jh 1 rfl (jX 1 (vs := (xc y_10)) rfl rfl kz kq rfl rfl) <| jI 3 rfl (jJ fo31_2 rfl) <| jh 4 rfl (jV 1 (v := iv y_10.t.proc) rfl rfl kp rfl) <| jh 5 rfl (jX 0 (vs := [iv c.kind, str c.name, str c.to_, iv c.a, iv c.b, str c.text]) rfl rfl ku ko rfl rfl) ?_
      refine JA.three (i := 2) (j := 11) (k := 12) (by kernel_rfl) ?_ ?_ ?_
      · refine jY rfl rfl (jM [] Tryz.call51 rfl (Y_sTxView y_10 (by rw [hy_11]; exact hlv) sa sc s n hO (by omega) (by rw [hy_11]; exact hc) (by rw [hy_11]; exact hg) (by rw [hy_11]; exact hgT)) rfl (fun w hw => ⟨hw.seeOut_ hs_s nM, hw.seeRows 0 rfl⟩)) ?_
        rintro _ _ ⟨_, ⟨a_49, c_50, v_51, e_52, hO_53, rfl, rfl⟩, rfl⟩
        refine ⟨(by simp), ?_⟩
        refine JA.three (i := 6) (j := 11) (k := 12) (by kernel_rfl) ?_ ?_ ?_
        · refine jY rfl rfl (jM [] Tryz.call50 rfl (D_callOn a_49 c_50 v_51 y_10.t.proc c (by have hl_ := (hO_53).1; omega) (by omega) hcc hO_53 (by omega)) rfl (fun w hw => hw.see (i := 0) rfl)) ?_
          rintro _ _ ⟨_, ⟨x_62, m_63, A_64, e_65, k_66, f_67, rfl, rfl⟩, rfl⟩
          refine ⟨(by simp), ?_⟩
          refine jI 7 rfl (jF (v := .tuple #[.slice x_62.a0 m_63.s.length x_62.c0, .agg #[iv A_64.code, iv A_64.n, str A_64.text], .agg #[.slice x_62.a1 m_63.r.length x_62.c1, .slice x_62.a2 m_63.w.length x_62.c2]]) rfl) <| jI 8 rfl (jb (v := .slice x_62.a0 m_63.s.length x_62.c0) rfl rfl) <| jI 9 rfl (jb (v := .agg #[iv A_64.code, iv A_64.n, str A_64.text]) rfl rfl) <| jI 10 rfl (jb (v := .agg #[.slice x_62.a1 m_63.r.length x_62.c1, .slice x_62.a2 m_63.w.length x_62.c2]) rfl rfl) ?_
          refine kX (i := 11) (j := 12) (by kernel_rfl) ?_ ?_
          · refine jY rfl rfl (jn (z := .agg #[iv 0, iv 0, str []]) (cs := [iv 0, iv 0, str []]) gG rfl) ?_
            rintro _ _ ⟨b_70, rfl, rfl⟩
            refine ⟨(by simp), ?_⟩
            refine jQ (i := 12) ?_
            refine jY rfl rfl (jn (z := .agg #[.slice none 0 0, .slice none 0 0]) (cs := [.slice none 0 0, .slice none 0 0]) gU rfl) ?_
            rintro _ _ ⟨b_72, rfl, rfl⟩
            refine ⟨(by simp), ?_⟩
            refine jI 13 rfl (jG (v := .slice x_62.a0 m_63.s.length x_62.c0) rfl) <| jQ (i := 14) ?_
            refine kF rfl (jT 1 (vs := [iv A_64.code, iv A_64.n, str A_64.text]) (cs' := [iv A_64.code, iv A_64.n, str A_64.text]) rfl rfl rfl rfl kr rfl rfl (lb rfl) rfl) ?_
            rintro _ _ rfl
            refine jQ (i := 15) ?_
            refine jx rfl (jT 0 (vs := [.slice x_62.a1 m_63.r.length x_62.c1, .slice x_62.a2 m_63.w.length x_62.c2]) (cs' := [.slice x_62.a1 m_63.r.length x_62.c1, .slice x_62.a2 m_63.w.length x_62.c2]) rfl rfl rfl rfl kx rfl rfl (lb rfl) rfl) ?_
            rintro _ _ rfl
            refine kZ [0, 0, 0, 0, 0, 0, 0, 0, 0, 0, 0] ?_
            exact kT ⟨a_49, c_50, v_51, x_62, m_63, A_64, b_70, b_72, e_52, hO_53, e_65, k_66, f_67, rfl, rfl, rfl, rfl, rfl, rfl,(by kernel_rfl)⟩
          refine jY rfl rfl (jn (z := .agg #[.slice none 0 0, .slice none 0 0]) (cs := [.slice none 0 0, .slice none 0 0]) gU rfl) ?_
          rintro _ _ ⟨b_73, rfl, rfl⟩
          refine ⟨(by simp), ?_⟩
          refine jQ (i := 11) ?_
          refine jY rfl rfl (jn (z := .agg #[iv 0, iv 0, str []]) (cs := [iv 0, iv 0, str []]) gG rfl) ?_
          rintro _ _ ⟨b_75, rfl, rfl⟩
          refine ⟨(by simp), ?_⟩
          refine jI 13 rfl (jG (v := .slice x_62.a0 m_63.s.length x_62.c0) rfl) <| jQ (i := 14) ?_
          refine kF rfl (jT 0 (vs := [iv A_64.code, iv A_64.n, str A_64.text]) (cs' := [iv A_64.code, iv A_64.n, str A_64.text]) rfl rfl rfl rfl kr rfl rfl (lb rfl) rfl) ?_
          rintro _ _ rfl
          refine jQ (i := 15) ?_
          refine jx rfl (jT 1 (vs := [.slice x_62.a1 m_63.r.length x_62.c1, .slice x_62.a2 m_63.w.length x_62.c2]) (cs' := [.slice x_62.a1 m_63.r.length x_62.c1, .slice x_62.a2 m_63.w.length x_62.c2]) rfl rfl rfl rfl kx rfl rfl (lb rfl) rfl) ?_
          rintro _ _ rfl
          refine kZ [1, 0, 0, 0, 0, 0, 0, 0, 0, 0, 0] ?_
          exact kT ⟨a_49, c_50, v_51, x_62, m_63, A_64, b_75, b_73, e_52, hO_53, e_65, k_66, f_67, rfl, rfl, rfl, rfl, rfl, rfl,(by kernel_rfl)⟩
        · refine jY rfl rfl (jn (z := .agg #[iv 0, iv 0, str []]) (cs := [iv 0, iv 0, str []]) gG rfl) ?_
          rintro _ _ ⟨b_76, rfl, rfl⟩
          refine ⟨(by simp), ?_⟩
          refine kX (i := 6) (j := 12) (by kernel_rfl) ?_ ?_
          · refine jY rfl rfl (jM [] Tryz.call50 rfl (D_callOn a_49 c_50 v_51 y_10.t.proc c (by have hl_ := (hO_53).1; omega) (by omega) hcc hO_53 (by omega)) rfl (fun w hw => hw.see (i := 1) rfl)) ?_
            rintro _ _ ⟨_, ⟨x_84, m_85, A_86, e_87, k_88, f_89, rfl, rfl⟩, rfl⟩
            refine ⟨(by simp), ?_⟩
            refine jI 7 rfl (jF (v := .tuple #[.slice x_84.a0 m_85.s.length x_84.c0, .agg #[iv A_86.code, iv A_86.n, str A_86.text], .agg #[.slice x_84.a1 m_85.r.length x_84.c1, .slice x_84.a2 m_85.w.length x_84.c2]]) rfl) <| jI 8 rfl (jb (v := .slice x_84.a0 m_85.s.length x_84.c0) rfl rfl) <| jI 9 rfl (jb (v := .agg #[iv A_86.code, iv A_86.n, str A_86.text]) rfl rfl) <| jI 10 rfl (jb (v := .agg #[.slice x_84.a1 m_85.r.length x_84.c1, .slice x_84.a2 m_85.w.length x_84.c2]) rfl rfl) <| jQ (i := 12) ?_
            refine jY rfl rfl (jn (z := .agg #[.slice none 0 0, .slice none 0 0]) (cs := [.slice none 0 0, .slice none 0 0]) gU rfl) ?_
            rintro _ _ ⟨b_91, rfl, rfl⟩
            refine ⟨(by simp), ?_⟩
            refine jI 13 rfl (jG (v := .slice x_84.a0 m_85.s.length x_84.c0) rfl) <| jQ (i := 14) ?_
            refine kF rfl (jT 4 (vs := [iv A_86.code, iv A_86.n, str A_86.text]) (cs' := [iv A_86.code, iv A_86.n, str A_86.text]) rfl rfl rfl rfl kr rfl rfl (lb rfl) rfl) ?_
            rintro _ _ rfl
            refine jQ (i := 15) ?_
            refine jx rfl (jT 0 (vs := [.slice x_84.a1 m_85.r.length x_84.c1, .slice x_84.a2 m_85.w.length x_84.c2]) (cs' := [.slice x_84.a1 m_85.r.length x_84.c1, .slice x_84.a2 m_85.w.length x_84.c2]) rfl rfl rfl rfl kx rfl rfl (lb rfl) rfl) ?_
            rintro _ _ rfl
            refine kZ [0, 3, 0, 0, 0, 0, 0, 0, 0, 0, 0] ?_
            exact kT ⟨a_49, c_50, v_51, x_84, m_85, A_86, b_76, b_91, e_52, hO_53, e_87, k_88, f_89, rfl, rfl, rfl, rfl, rfl, rfl,(by kernel_rfl)⟩
          refine jY rfl rfl (jn (z := .agg #[.slice none 0 0, .slice none 0 0]) (cs := [.slice none 0 0, .slice none 0 0]) gU rfl) ?_
          rintro _ _ ⟨b_92, rfl, rfl⟩
          refine ⟨(by simp), ?_⟩
          refine jQ (i := 6) ?_
          refine jY rfl rfl (jM [] Tryz.call50 rfl (D_callOn a_49 c_50 v_51 y_10.t.proc c (by have hl_ := (hO_53).1; omega) (by omega) hcc hO_53 (by omega)) rfl (fun w hw => hw.see (i := 2) rfl)) ?_
          rintro _ _ ⟨_, ⟨x_99, m_100, A_101, e_102, k_103, f_104, rfl, rfl⟩, rfl⟩
          refine ⟨(by simp), ?_⟩
          refine jI 7 rfl (jF (v := .tuple #[.slice x_99.a0 m_100.s.length x_99.c0, .agg #[iv A_101.code, iv A_101.n, str A_101.text], .agg #[.slice x_99.a1 m_100.r.length x_99.c1, .slice x_99.a2 m_100.w.length x_99.c2]]) rfl) <| jI 8 rfl (jb (v := .slice x_99.a0 m_100.s.length x_99.c0) rfl rfl) <| jI 9 rfl (jb (v := .agg #[iv A_101.code, iv A_101.n, str A_101.text]) rfl rfl) <| jI 10 rfl (jb (v := .agg #[.slice x_99.a1 m_100.r.length x_99.c1, .slice x_99.a2 m_100.w.length x_99.c2]) rfl rfl) <| jI 13 rfl (jG (v := .slice x_99.a0 m_100.s.length x_99.c0) rfl) <| jQ (i := 14) ?_
          refine kF rfl (jT 4 (vs := [iv A_101.code, iv A_101.n, str A_101.text]) (cs' := [iv A_101.code, iv A_101.n, str A_101.text]) rfl rfl rfl rfl kr rfl rfl (lb rfl) rfl) ?_
          rintro _ _ rfl
          refine jQ (i := 15) ?_
          refine jx rfl (jT 3 (vs := [.slice x_99.a1 m_100.r.length x_99.c1, .slice x_99.a2 m_100.w.length x_99.c2]) (cs' := [.slice x_99.a1 m_100.r.length x_99.c1, .slice x_99.a2 m_100.w.length x_99.c2]) rfl rfl rfl rfl kx rfl rfl (lb rfl) rfl) ?_
          rintro _ _ rfl
          refine kZ [3, 3, 0, 0, 0, 0, 0, 0, 0, 0, 0] ?_
          exact kT ⟨a_49, c_50, v_51, x_99, m_100, A_101, b_76, b_92, e_52, hO_53, e_102, k_103, f_104, rfl, rfl, rfl, rfl, rfl, rfl,(by kernel_rfl)⟩
        refine jY rfl rfl (jn (z := .agg #[.slice none 0 0, .slice none 0 0]) (cs := [.slice none 0 0, .slice none 0 0]) gU rfl) ?_
        rintro _ _ ⟨b_105, rfl, rfl⟩
        refine ⟨(by simp), ?_⟩
        refine kX (i := 6) (j := 11) (by kernel_rfl) ?_ ?_
        · refine jY rfl rfl (jM [] Tryz.call50 rfl (D_callOn a_49 c_50 v_51 y_10.t.proc c (by have hl_ := (hO_53).1; omega) (by omega) hcc hO_53 (by omega)) rfl (fun w hw => hw.see (i := 1) rfl)) ?_
          rintro _ _ ⟨_, ⟨x_113, m_114, A_115, e_116, k_117, f_118, rfl, rfl⟩, rfl⟩
          refine ⟨(by simp), ?_⟩
          refine jI 7 rfl (jF (v := .tuple #[.slice x_113.a0 m_114.s.length x_113.c0, .agg #[iv A_115.code, iv A_115.n, str A_115.text], .agg #[.slice x_113.a1 m_114.r.length x_113.c1, .slice x_113.a2 m_114.w.length x_113.c2]]) rfl) <| jI 8 rfl (jb (v := .slice x_113.a0 m_114.s.length x_113.c0) rfl rfl) <| jI 9 rfl (jb (v := .agg #[iv A_115.code, iv A_115.n, str A_115.text]) rfl rfl) <| jI 10 rfl (jb (v := .agg #[.slice x_113.a1 m_114.r.length x_113.c1, .slice x_113.a2 m_114.w.length x_113.c2]) rfl rfl) <| jQ (i := 11) ?_
          refine jY rfl rfl (jn (z := .agg #[iv 0, iv 0, str []]) (cs := [iv 0, iv 0, str []]) gG rfl) ?_
          rintro _ _ ⟨b_120, rfl, rfl⟩
          refine ⟨(by simp), ?_⟩
          refine jI 13 rfl (jG (v := .slice x_113.a0 m_114.s.length x_113.c0) rfl) <| jQ (i := 14) ?_
          refine kF rfl (jT 0 (vs := [iv A_115.code, iv A_115.n, str A_115.text]) (cs' := [iv A_115.code, iv A_115.n, str A_115.text]) rfl rfl rfl rfl kr rfl rfl (lb rfl) rfl) ?_
          rintro _ _ rfl
          refine jQ (i := 15) ?_
          refine jx rfl (jT 4 (vs := [.slice x_113.a1 m_114.r.length x_113.c1, .slice x_113.a2 m_114.w.length x_113.c2]) (cs' := [.slice x_113.a1 m_114.r.length x_113.c1, .slice x_113.a2 m_114.w.length x_113.c2]) rfl rfl rfl rfl kx rfl rfl (lb rfl) rfl) ?_
          rintro _ _ rfl
          refine kZ [4, 0, 0, 0, 0, 0, 0, 0, 0, 0, 0] ?_
          exact kT ⟨a_49, c_50, v_51, x_113, m_114, A_115, b_120, b_105, e_52, hO_53, e_116, k_117, f_118, rfl, rfl, rfl, rfl, rfl, rfl,(by kernel_rfl)⟩
        refine jY rfl rfl (jn (z := .agg #[iv 0, iv 0, str []]) (cs := [iv 0, iv 0, str []]) gG rfl) ?_
        rintro _ _ ⟨b_121, rfl, rfl⟩
        refine ⟨(by simp), ?_⟩
        refine jQ (i := 6) ?_
        refine jY rfl rfl (jM [] Tryz.call50 rfl (D_callOn a_49 c_50 v_51 y_10.t.proc c (by have hl_ := (hO_53).1; omega) (by omega) hcc hO_53 (by omega)) rfl (fun w hw => hw.see (i := 2) rfl)) ?_
        rintro _ _ ⟨_, ⟨x_128, m_129, A_130, e_131, k_132, f_133, rfl, rfl⟩, rfl⟩
        refine ⟨(by simp), ?_⟩
        refine jI 7 rfl (jF (v := .tuple #[.slice x_128.a0 m_129.s.length x_128.c0, .agg #[iv A_130.code, iv A_130.n, str A_130.text], .agg #[.slice x_128.a1 m_129.r.length x_128.c1, .slice x_128.a2 m_129.w.length x_128.c2]]) rfl) <| jI 8 rfl (jb (v := .slice x_128.a0 m_129.s.length x_128.c0) rfl rfl) <| jI 9 rfl (jb (v := .agg #[iv A_130.code, iv A_130.n, str A_130.text]) rfl rfl) <| jI 10 rfl (jb (v := .agg #[.slice x_128.a1 m_129.r.length x_128.c1, .slice x_128.a2 m_129.w.length x_128.c2]) rfl rfl) <| jI 13 rfl (jG (v := .slice x_128.a0 m_129.s.length x_128.c0) rfl) <| jQ (i := 14) ?_
        refine kF rfl (jT 3 (vs := [iv A_130.code, iv A_130.n, str A_130.text]) (cs' := [iv A_130.code, iv A_130.n, str A_130.text]) rfl rfl rfl rfl kr rfl rfl (lb rfl) rfl) ?_
        rintro _ _ rfl
        refine jQ (i := 15) ?_
        refine jx rfl (jT 4 (vs := [.slice x_128.a1 m_129.r.length x_128.c1, .slice x_128.a2 m_129.w.length x_128.c2]) (cs' := [.slice x_128.a1 m_129.r.length x_128.c1, .slice x_128.a2 m_129.w.length x_128.c2]) rfl rfl rfl rfl kx rfl rfl (lb rfl) rfl) ?_
        rintro _ _ rfl
        refine kZ [4, 3, 0, 0, 0, 0, 0, 0, 0, 0, 0] ?_
        exact kT ⟨a_49, c_50, v_51, x_128, m_129, A_130, b_121, b_105, e_52, hO_53, e_131, k_132, f_133, rfl, rfl, rfl, rfl, rfl, rfl,(by kernel_rfl)⟩
      · refine jY rfl rfl (jn (z := .agg #[iv 0, iv 0, str []]) (cs := [iv 0, iv 0, str []]) gG rfl) ?_
        rintro _ _ ⟨b_134, rfl, rfl⟩
        refine ⟨(by simp), ?_⟩
        refine kX (i := 2) (j := 12) (by kernel_rfl) ?_ ?_
        · refine jY rfl rfl (jM [] Tryz.call51 rfl (Y_sTxView y_10 (by rw [hy_11]; exact hlv) sa sc s n hO (by omega) (by rw [hy_11]; exact hc) (by rw [hy_11]; exact hg) (by rw [hy_11]; exact hgT)) rfl (fun w hw => ⟨hw.seeOut_ hs_s nM, hw.seeRows 1 rfl⟩)) ?_
          rintro _ _ ⟨_, ⟨a_141, c_142, v_143, e_144, hO_145, rfl, rfl⟩, rfl⟩
          refine ⟨(by simp), ?_⟩
          refine kX (i := 6) (j := 12) (by kernel_rfl) ?_ ?_
          · refine jY rfl rfl (jM [] Tryz.call50 rfl (D_callOn a_141 c_142 v_143 y_10.t.proc c (by have hl_ := (hO_145).1; omega) (by omega) hcc hO_145 (by omega)) rfl (fun w hw => hw.see (i := 0) rfl)) ?_
            rintro _ _ ⟨_, ⟨x_153, m_154, A_155, e_156, k_157, f_158, rfl, rfl⟩, rfl⟩
            refine ⟨(by simp), ?_⟩
            refine jI 7 rfl (jF (v := .tuple #[.slice x_153.a0 m_154.s.length x_153.c0, .agg #[iv A_155.code, iv A_155.n, str A_155.text], .agg #[.slice x_153.a1 m_154.r.length x_153.c1, .slice x_153.a2 m_154.w.length x_153.c2]]) rfl) <| jI 8 rfl (jb (v := .slice x_153.a0 m_154.s.length x_153.c0) rfl rfl) <| jI 9 rfl (jb (v := .agg #[iv A_155.code, iv A_155.n, str A_155.text]) rfl rfl) <| jI 10 rfl (jb (v := .agg #[.slice x_153.a1 m_154.r.length x_153.c1, .slice x_153.a2 m_154.w.length x_153.c2]) rfl rfl) <| jQ (i := 12) ?_
            refine jY rfl rfl (jn (z := .agg #[.slice none 0 0, .slice none 0 0]) (cs := [.slice none 0 0, .slice none 0 0]) gU rfl) ?_
            rintro _ _ ⟨b_160, rfl, rfl⟩
            refine ⟨(by simp), ?_⟩
            refine jI 13 rfl (jG (v := .slice x_153.a0 m_154.s.length x_153.c0) rfl) <| jQ (i := 14) ?_
            refine kF rfl (jT 5 (vs := [iv A_155.code, iv A_155.n, str A_155.text]) (cs' := [iv A_155.code, iv A_155.n, str A_155.text]) rfl rfl rfl rfl kr rfl rfl (lb rfl) rfl) ?_
            rintro _ _ rfl
            refine jQ (i := 15) ?_
            refine jx rfl (jT 0 (vs := [.slice x_153.a1 m_154.r.length x_153.c1, .slice x_153.a2 m_154.w.length x_153.c2]) (cs' := [.slice x_153.a1 m_154.r.length x_153.c1, .slice x_153.a2 m_154.w.length x_153.c2]) rfl rfl rfl rfl kx rfl rfl (lb rfl) rfl) ?_
            rintro _ _ rfl
            refine kZ [0, 4, 0, 0, 0, 0, 0, 0, 0, 0, 0] ?_
            exact kT ⟨a_141, c_142, v_143, x_153, m_154, A_155, b_134, b_160, e_144, hO_145, e_156, k_157, f_158, rfl, rfl, rfl, rfl, rfl, rfl,(by kernel_rfl)⟩
          refine jY rfl rfl (jn (z := .agg #[.slice none 0 0, .slice none 0 0]) (cs := [.slice none 0 0, .slice none 0 0]) gU rfl) ?_
          rintro _ _ ⟨b_161, rfl, rfl⟩
          refine ⟨(by simp), ?_⟩
          refine jQ (i := 6) ?_
          refine jY rfl rfl (jM [] Tryz.call50 rfl (D_callOn a_141 c_142 v_143 y_10.t.proc c (by have hl_ := (hO_145).1; omega) (by omega) hcc hO_145 (by omega)) rfl (fun w hw => hw.see (i := 1) rfl)) ?_
          rintro _ _ ⟨_, ⟨x_168, m_169, A_170, e_171, k_172, f_173, rfl, rfl⟩, rfl⟩
          refine ⟨(by simp), ?_⟩
          refine jI 7 rfl (jF (v := .tuple #[.slice x_168.a0 m_169.s.length x_168.c0, .agg #[iv A_170.code, iv A_170.n, str A_170.text], .agg #[.slice x_168.a1 m_169.r.length x_168.c1, .slice x_168.a2 m_169.w.length x_168.c2]]) rfl) <| jI 8 rfl (jb (v := .slice x_168.a0 m_169.s.length x_168.c0) rfl rfl) <| jI 9 rfl (jb (v := .agg #[iv A_170.code, iv A_170.n, str A_170.text]) rfl rfl) <| jI 10 rfl (jb (v := .agg #[.slice x_168.a1 m_169.r.length x_168.c1, .slice x_168.a2 m_169.w.length x_168.c2]) rfl rfl) <| jI 13 rfl (jG (v := .slice x_168.a0 m_169.s.length x_168.c0) rfl) <| jQ (i := 14) ?_
          refine kF rfl (jT 5 (vs := [iv A_170.code, iv A_170.n, str A_170.text]) (cs' := [iv A_170.code, iv A_170.n, str A_170.text]) rfl rfl rfl rfl kr rfl rfl (lb rfl) rfl) ?_
          rintro _ _ rfl
          refine jQ (i := 15) ?_
          refine jx rfl (jT 3 (vs := [.slice x_168.a1 m_169.r.length x_168.c1, .slice x_168.a2 m_169.w.length x_168.c2]) (cs' := [.slice x_168.a1 m_169.r.length x_168.c1, .slice x_168.a2 m_169.w.length x_168.c2]) rfl rfl rfl rfl kx rfl rfl (lb rfl) rfl) ?_
          rintro _ _ rfl
          refine kZ [3, 4, 0, 0, 0, 0, 0, 0, 0, 0, 0] ?_
          exact kT ⟨a_141, c_142, v_143, x_168, m_169, A_170, b_134, b_161, e_144, hO_145, e_171, k_172, f_173, rfl, rfl, rfl, rfl, rfl, rfl,(by kernel_rfl)⟩
        refine jY rfl rfl (jn (z := .agg #[.slice none 0 0, .slice none 0 0]) (cs := [.slice none 0 0, .slice none 0 0]) gU rfl) ?_
        rintro _ _ ⟨b_174, rfl, rfl⟩
        refine ⟨(by simp), ?_⟩
        refine jQ (i := 2) ?_
        refine jY rfl rfl (jM [] Tryz.call51 rfl (Y_sTxView y_10 (by rw [hy_11]; exact hlv) sa sc s n hO (by omega) (by rw [hy_11]; exact hc) (by rw [hy_11]; exact hg) (by rw [hy_11]; exact hgT)) rfl (fun w hw => ⟨hw.seeOut_ hs_s nM, hw.seeRows 2 rfl⟩)) ?_
        rintro _ _ ⟨_, ⟨a_180, c_181, v_182, e_183, hO_184, rfl, rfl⟩, rfl⟩
        refine ⟨(by simp), ?_⟩
        refine jQ (i := 6) ?_
        refine jY rfl rfl (jM [] Tryz.call50 rfl (D_callOn a_180 c_181 v_182 y_10.t.proc c (by have hl_ := (hO_184).1; omega) (by omega) hcc hO_184 (by omega)) rfl (fun w hw => hw.see (i := 0) rfl)) ?_
        rintro _ _ ⟨_, ⟨x_191, m_192, A_193, e_194, k_195, f_196, rfl, rfl⟩, rfl⟩
        refine ⟨(by simp), ?_⟩
        refine jI 7 rfl (jF (v := .tuple #[.slice x_191.a0 m_192.s.length x_191.c0, .agg #[iv A_193.code, iv A_193.n, str A_193.text], .agg #[.slice x_191.a1 m_192.r.length x_191.c1, .slice x_191.a2 m_192.w.length x_191.c2]]) rfl) <| jI 8 rfl (jb (v := .slice x_191.a0 m_192.s.length x_191.c0) rfl rfl) <| jI 9 rfl (jb (v := .agg #[iv A_193.code, iv A_193.n, str A_193.text]) rfl rfl) <| jI 10 rfl (jb (v := .agg #[.slice x_191.a1 m_192.r.length x_191.c1, .slice x_191.a2 m_192.w.length x_191.c2]) rfl rfl) <| jI 13 rfl (jG (v := .slice x_191.a0 m_192.s.length x_191.c0) rfl) <| jQ (i := 14) ?_
        refine kF rfl (jT 5 (vs := [iv A_193.code, iv A_193.n, str A_193.text]) (cs' := [iv A_193.code, iv A_193.n, str A_193.text]) rfl rfl rfl rfl kr rfl rfl (lb rfl) rfl) ?_
        rintro _ _ rfl
        refine jQ (i := 15) ?_
        refine jx rfl (jT 4 (vs := [.slice x_191.a1 m_192.r.length x_191.c1, .slice x_191.a2 m_192.w.length x_191.c2]) (cs' := [.slice x_191.a1 m_192.r.length x_191.c1, .slice x_191.a2 m_192.w.length x_191.c2]) rfl rfl rfl rfl kx rfl rfl (lb rfl) rfl) ?_
        rintro _ _ rfl
        refine kZ [4, 4, 0, 0, 0, 0, 0, 0, 0, 0, 0] ?_
        exact kT ⟨a_180, c_181, v_182, x_191, m_192, A_193, b_134, b_174, e_183, hO_184, e_194, k_195, f_196, rfl, rfl, rfl, rfl, rfl, rfl,(by kernel_rfl)⟩
      refine jY rfl rfl (jn (z := .agg #[.slice none 0 0, .slice none 0 0]) (cs := [.slice none 0 0, .slice none 0 0]) gU rfl) ?_
      rintro _ _ ⟨b_197, rfl, rfl⟩
      refine ⟨(by simp), ?_⟩
      refine kX (i := 2) (j := 11) (by kernel_rfl) ?_ ?_
      · refine jY rfl rfl (jM [] Tryz.call51 rfl (Y_sTxView y_10 (by rw [hy_11]; exact hlv) sa sc s n hO (by omega) (by rw [hy_11]; exact hc) (by rw [hy_11]; exact hg) (by rw [hy_11]; exact hgT)) rfl (fun w hw => ⟨hw.seeOut_ hs_s nM, hw.seeRows 1 rfl⟩)) ?_
        rintro _ _ ⟨_, ⟨a_204, c_205, v_206, e_207, hO_208, rfl, rfl⟩, rfl⟩
        refine ⟨(by simp), ?_⟩
        refine kX (i := 6) (j := 11) (by kernel_rfl) ?_ ?_
        · refine jY rfl rfl (jM [] Tryz.call50 rfl (D_callOn a_204 c_205 v_206 y_10.t.proc c (by have hl_ := (hO_208).1; omega) (by omega) hcc hO_208 (by omega)) rfl (fun w hw => hw.see (i := 0) rfl)) ?_
          rintro _ _ ⟨_, ⟨x_216, m_217, A_218, e_219, k_220, f_221, rfl, rfl⟩, rfl⟩
          refine ⟨(by simp), ?_⟩
          refine jI 7 rfl (jF (v := .tuple #[.slice x_216.a0 m_217.s.length x_216.c0, .agg #[iv A_218.code, iv A_218.n, str A_218.text], .agg #[.slice x_216.a1 m_217.r.length x_216.c1, .slice x_216.a2 m_217.w.length x_216.c2]]) rfl) <| jI 8 rfl (jb (v := .slice x_216.a0 m_217.s.length x_216.c0) rfl rfl) <| jI 9 rfl (jb (v := .agg #[iv A_218.code, iv A_218.n, str A_218.text]) rfl rfl) <| jI 10 rfl (jb (v := .agg #[.slice x_216.a1 m_217.r.length x_216.c1, .slice x_216.a2 m_217.w.length x_216.c2]) rfl rfl) <| jQ (i := 11) ?_
          refine jY rfl rfl (jn (z := .agg #[iv 0, iv 0, str []]) (cs := [iv 0, iv 0, str []]) gG rfl) ?_
          rintro _ _ ⟨b_223, rfl, rfl⟩
          refine ⟨(by simp), ?_⟩
          refine jI 13 rfl (jG (v := .slice x_216.a0 m_217.s.length x_216.c0) rfl) <| jQ (i := 14) ?_
          refine kF rfl (jT 0 (vs := [iv A_218.code, iv A_218.n, str A_218.text]) (cs' := [iv A_218.code, iv A_218.n, str A_218.text]) rfl rfl rfl rfl kr rfl rfl (lb rfl) rfl) ?_
          rintro _ _ rfl
          refine jQ (i := 15) ?_
          refine jx rfl (jT 5 (vs := [.slice x_216.a1 m_217.r.length x_216.c1, .slice x_216.a2 m_217.w.length x_216.c2]) (cs' := [.slice x_216.a1 m_217.r.length x_216.c1, .slice x_216.a2 m_217.w.length x_216.c2]) rfl rfl rfl rfl kx rfl rfl (lb rfl) rfl) ?_
          rintro _ _ rfl
          refine kZ [5, 0, 0, 0, 0, 0, 0, 0, 0, 0, 0] ?_
          exact kT ⟨a_204, c_205, v_206, x_216, m_217, A_218, b_223, b_197, e_207, hO_208, e_219, k_220, f_221, rfl, rfl, rfl, rfl, rfl, rfl,(by kernel_rfl)⟩
        refine jY rfl rfl (jn (z := .agg #[iv 0, iv 0, str []]) (cs := [iv 0, iv 0, str []]) gG rfl) ?_
        rintro _ _ ⟨b_224, rfl, rfl⟩
        refine ⟨(by simp), ?_⟩
        refine jQ (i := 6) ?_
        refine jY rfl rfl (jM [] Tryz.call50 rfl (D_callOn a_204 c_205 v_206 y_10.t.proc c (by have hl_ := (hO_208).1; omega) (by omega) hcc hO_208 (by omega)) rfl (fun w hw => hw.see (i := 1) rfl)) ?_
        rintro _ _ ⟨_, ⟨x_231, m_232, A_233, e_234, k_235, f_236, rfl, rfl⟩, rfl⟩
        refine ⟨(by simp), ?_⟩
        refine jI 7 rfl (jF (v := .tuple #[.slice x_231.a0 m_232.s.length x_231.c0, .agg #[iv A_233.code, iv A_233.n, str A_233.text], .agg #[.slice x_231.a1 m_232.r.length x_231.c1, .slice x_231.a2 m_232.w.length x_231.c2]]) rfl) <| jI 8 rfl (jb (v := .slice x_231.a0 m_232.s.length x_231.c0) rfl rfl) <| jI 9 rfl (jb (v := .agg #[iv A_233.code, iv A_233.n, str A_233.text]) rfl rfl) <| jI 10 rfl (jb (v := .agg #[.slice x_231.a1 m_232.r.length x_231.c1, .slice x_231.a2 m_232.w.length x_231.c2]) rfl rfl) <| jI 13 rfl (jG (v := .slice x_231.a0 m_232.s.length x_231.c0) rfl) <| jQ (i := 14) ?_
        refine kF rfl (jT 3 (vs := [iv A_233.code, iv A_233.n, str A_233.text]) (cs' := [iv A_233.code, iv A_233.n, str A_233.text]) rfl rfl rfl rfl kr rfl rfl (lb rfl) rfl) ?_
        rintro _ _ rfl
        refine jQ (i := 15) ?_
        refine jx rfl (jT 5 (vs := [.slice x_231.a1 m_232.r.length x_231.c1, .slice x_231.a2 m_232.w.length x_231.c2]) (cs' := [.slice x_231.a1 m_232.r.length x_231.c1, .slice x_231.a2 m_232.w.length x_231.c2]) rfl rfl rfl rfl kx rfl rfl (lb rfl) rfl) ?_
        rintro _ _ rfl
        refine kZ [5, 3, 0, 0, 0, 0, 0, 0, 0, 0, 0] ?_
        exact kT ⟨a_204, c_205, v_206, x_231, m_232, A_233, b_224, b_197, e_207, hO_208, e_234, k_235, f_236, rfl, rfl, rfl, rfl, rfl, rfl,(by kernel_rfl)⟩
      refine jY rfl rfl (jn (z := .agg #[iv 0, iv 0, str []]) (cs := [iv 0, iv 0, str []]) gG rfl) ?_
      rintro _ _ ⟨b_237, rfl, rfl⟩
      refine ⟨(by simp), ?_⟩
      refine jQ (i := 2) ?_
      refine jY rfl rfl (jM [] Tryz.call51 rfl (Y_sTxView y_10 (by rw [hy_11]; exact hlv) sa sc s n hO (by omega) (by rw [hy_11]; exact hc) (by rw [hy_11]; exact hg) (by rw [hy_11]; exact hgT)) rfl (fun w hw => ⟨hw.seeOut_ hs_s nM, hw.seeRows 2 rfl⟩)) ?_
      rintro _ _ ⟨_, ⟨a_243, c_244, v_245, e_246, hO_247, rfl, rfl⟩, rfl⟩
      refine ⟨(by simp), ?_⟩
      refine jQ (i := 6) ?_
      refine jY rfl rfl (jM [] Tryz.call50 rfl (D_callOn a_243 c_244 v_245 y_10.t.proc c (by have hl_ := (hO_247).1; omega) (by omega) hcc hO_247 (by omega)) rfl (fun w hw => hw.see (i := 0) rfl)) ?_
      rintro _ _ ⟨_, ⟨x_254, m_255, A_256, e_257, k_258, f_259, rfl, rfl⟩, rfl⟩
      refine ⟨(by simp), ?_⟩
      refine jI 7 rfl (jF (v := .tuple #[.slice x_254.a0 m_255.s.length x_254.c0, .agg #[iv A_256.code, iv A_256.n, str A_256.text], .agg #[.slice x_254.a1 m_255.r.length x_254.c1, .slice x_254.a2 m_255.w.length x_254.c2]]) rfl) <| jI 8 rfl (jb (v := .slice x_254.a0 m_255.s.length x_254.c0) rfl rfl) <| jI 9 rfl (jb (v := .agg #[iv A_256.code, iv A_256.n, str A_256.text]) rfl rfl) <| jI 10 rfl (jb (v := .agg #[.slice x_254.a1 m_255.r.length x_254.c1, .slice x_254.a2 m_255.w.length x_254.c2]) rfl rfl) <| jI 13 rfl (jG (v := .slice x_254.a0 m_255.s.length x_254.c0) rfl) <| jQ (i := 14) ?_
      refine kF rfl (jT 4 (vs := [iv A_256.code, iv A_256.n, str A_256.text]) (cs' := [iv A_256.code, iv A_256.n, str A_256.text]) rfl rfl rfl rfl kr rfl rfl (lb rfl) rfl) ?_
      rintro _ _ rfl
      refine jQ (i := 15) ?_
      refine jx rfl (jT 5 (vs := [.slice x_254.a1 m_255.r.length x_254.c1, .slice x_254.a2 m_255.w.length x_254.c2]) (cs' := [.slice x_254.a1 m_255.r.length x_254.c1, .slice x_254.a2 m_255.w.length x_254.c2]) rfl rfl rfl rfl kx rfl rfl (lb rfl) rfl) ?_
      rintro _ _ rfl
      refine kZ [5, 4, 0, 0, 0, 0, 0, 0, 0, 0, 0] ?_
      exact kT ⟨a_243, c_244, v_245, x_254, m_255, A_256, b_237, b_197, e_246, hO_247, e_257, k_258, f_259, rfl, rfl, rfl, rfl, rfl, rfl,(by kernel_rfl)⟩
    rintro e_260 _ ⟨a_14, c_15, v_16, x_19, m_20, A_21, b_25, b_26, e_17, hO_18, e_22, k_23, f_24, he_261, he_262, he_263, he_264, he_265, he_266, rfl⟩
    refine jB <| jC <| kg (L' := [Res.row (.slice y_10.x.a0 y_10.t.calls.length y_10.x.c0) 51 6 y_10.t.calls.length (y_10.t.calls.flatMap encK), Res.row (.slice y_10.x.a1 y_10.t.ans.length y_10.x.c1) 45 3 y_10.t.ans.length (y_10.t.ans.flatMap encA), rS y_10.x.a2 y_10.x.c2 y_10.t.rd, rS y_10.x.a3 y_10.x.c3 y_10.t.wr, rI y_10.x.a4 y_10.x.c4 y_10.t.marks, bk b_26 28 [.slice x_19.a1 m_20.r.length x_19.c1, .slice x_19.a2 m_20.w.length x_19.c2], bk b_25 45 [iv A_21.code, iv A_21.n, str A_21.text], rC x_19.a0 x_19.c0 m_20.s, rS x_19.a1 x_19.c1 m_20.r, rS x_19.a2 x_19.c2 m_20.w, rC a_14 c_15 v_16, bk b_9 45 [iv 0, iv 0, str []], bk b_8 31 xzc, bk b_7 51 [iv c.kind, str c.name, str c.to_, iv c.a, iv c.b, str c.text], bk b_6 31 (xc y_10)]) (fun w hw => hw.openR 6 rfl) ?_
    have hl_calls : y_10.t.calls.length = p.t.calls.length := by rw [hy_11]
    have hl_ans : y_10.t.ans.length = p.t.ans.length := by rw [hy_11]
    have hl_rd : y_10.t.rd.length = p.t.rd.length := by rw [hy_11]
    have hl_wr : y_10.t.wr.length = p.t.wr.length := by rw [hy_11]
    refine jE <| jA (jJ fo31_4 he_261) <| jK (jV 14 (v := .slice y_10.x.a0 y_10.t.calls.length y_10.x.c0) rfl rfl gb rfl) <| jK (jX 13 (vs := [iv c.kind, str c.name, str c.to_, iv c.a, iv c.b, str c.text]) rfl he_262 ku ko rfl rfl) ?_
    refine jH rfl (kJ (ps := [(0, .agg #[iv c.kind, str c.name, str c.to_, iv c.a, iv c.b, str c.text])]) (cur := #[iv c.kind, str c.name, str c.to_, iv c.a, iv c.b, str c.text]) gD ko gr rfl (by kernel_rfl) (by decide) (by decide)) ?_
    rintro _ _ ⟨a_267, rfl, rfl⟩
    refine jH rfl (kM 1 (q := 1) (news := ([c] : List CL).flatMap encK) (n' := (y_10.t.calls ++ ([c] : List CL)).length) (cs' := (y_10.t.calls ++ ([c] : List CL)).flatMap encK) rfl gD gD Tryz.typeInfo51 rfl (by' := 72) rfl rfl rfl rfl rfl (fun w hw => Src.sees (hw.see (i := 0) rfl) (oneK _)) (by (try simp only [LE]); omega) (by (try simp only [LE]); omega) (by simp only [List.length_append, List.length_take, List.length_drop, List.length_cons, List.length_nil] <;> first | rfl | omega) (by simp only [List.flatMap_append])) ?_
    rintro _ _ ⟨a_268, c_269, rfl, rfl⟩
    refine jA (jJ fo31_4 he_261) ?_
    refine jH rfl (jT 15 (vs := [.slice a_268 ((y_10.t.calls ++ ([c] : List CL)).length) c_269]) (cs' := [iv y_10.t.id, iv y_10.t.age, iv y_10.t.proc, iv y_10.t.began, .slice a_268 ((y_10.t.calls ++ ([c] : List CL)).length) c_269, .slice y_10.x.a1 y_10.t.ans.length y_10.x.c1, .slice y_10.x.a2 y_10.t.rd.length y_10.x.c2, .slice y_10.x.a3 y_10.t.wr.length y_10.x.c3, .slice y_10.x.a4 y_10.t.marks.length y_10.x.c4, iv y_10.t.state]) rfl rfl rfl rfl Tryz.sizeOf24 rfl rfl (lb rfl) rfl) ?_
    rintro _ _ rfl
    refine jD <| jB <| jC <| jE <| jA (jJ fo31_5 he_261) <| jK (jV 15 (v := .slice y_10.x.a1 y_10.t.ans.length y_10.x.c1) rfl rfl gh rfl) <| jK (jX 7 (vs := [iv A_21.code, iv A_21.n, str A_21.text]) rfl he_265 gA kr rfl rfl) ?_
    refine jH rfl (kJ (ps := [(0, .agg #[iv A_21.code, iv A_21.n, str A_21.text])]) (cur := #[iv A_21.code, iv A_21.n, str A_21.text]) gN kr gG rfl (by kernel_rfl) (by decide) (by decide)) ?_
    rintro _ _ ⟨a_270, rfl, rfl⟩
    refine jH rfl (kM 3 (q := 1) (news := ([A_21] : List AN).flatMap encA) (n' := (y_10.t.ans ++ ([A_21] : List AN)).length) (cs' := (y_10.t.ans ++ ([A_21] : List AN)).flatMap encA) rfl gN gN Tryz.typeInfo45 rfl (by' := 32) rfl rfl rfl rfl rfl (fun w hw => Src.sees (hw.see (i := 0) rfl) (oneA _)) (by (try simp only [LE]); omega) (by (try simp only [LE]); omega) (by simp only [List.length_append, List.length_take, List.length_drop, List.length_cons, List.length_nil] <;> first | rfl | omega) (by simp only [List.flatMap_append])) ?_
    rintro _ _ ⟨a_271, c_272, rfl, rfl⟩
    refine jA (jJ fo31_5 he_261) ?_
    refine jH rfl (jT 16 (vs := [.slice a_271 ((y_10.t.ans ++ ([A_21] : List AN)).length) c_272]) (cs' := [iv y_10.t.id, iv y_10.t.age, iv y_10.t.proc, iv y_10.t.began, .slice a_268 ((y_10.t.calls ++ ([c] : List CL)).length) c_269, .slice a_271 ((y_10.t.ans ++ ([A_21] : List AN)).length) c_272, .slice y_10.x.a2 y_10.t.rd.length y_10.x.c2, .slice y_10.x.a3 y_10.t.wr.length y_10.x.c3, .slice y_10.x.a4 y_10.t.marks.length y_10.x.c4, iv y_10.t.state]) rfl rfl rfl rfl Tryz.sizeOf25 rfl rfl (lb rfl) rfl) ?_
    rintro _ _ rfl
    refine jD <| jB <| jC ?_
    have hkr := k_23.2.1
    have hkw := k_23.2.2.1
    refine jE <| jA (jJ fo31_6 he_261) <| jK (jX 16 (vs := [.slice y_10.x.a2 y_10.t.rd.length y_10.x.c2, .slice y_10.x.a3 y_10.t.wr.length y_10.x.c3]) rfl rfl gL kx rfl rfl) <| jK (jX 7 (vs := [.slice x_19.a1 m_20.r.length x_19.c1, .slice x_19.a2 m_20.w.length x_19.c2]) rfl he_266 gL kx rfl rfl) ?_
    refine jH rfl (jM [] Tryz.call52 rfl (C_joinTouch y_10.x.a2 y_10.x.a3 x_19.a1 x_19.a2 y_10.x.c2 y_10.x.c3 x_19.c1 x_19.c2 y_10.t.rd y_10.t.wr m_20.r m_20.w (by omega) (by omega) (by (try simp only [List.length_nil]); omega) (by (try simp only [List.length_nil]); omega)) rfl (fun w hw => ⟨hw.see (i := 4) rfl, hw.see (i := 5) rfl, hw.see (i := 10) rfl, hw.see (i := 11) rfl⟩)) ?_
    rintro _ _ ⟨_, ⟨a_273, c_274, a_275, c_276, rfl, rfl⟩, rfl⟩
    refine jA (jJ fo31_6 he_261) ?_
    refine jH rfl (jT 18 (vs := [.slice a_273 ((m_20.r.foldl addSpan y_10.t.rd).length) c_274, .slice a_275 ((m_20.w.foldl addSpan y_10.t.wr).length) c_276]) (cs' := [iv y_10.t.id, iv y_10.t.age, iv y_10.t.proc, iv y_10.t.began, .slice a_268 ((y_10.t.calls ++ ([c] : List CL)).length) c_269, .slice a_271 ((y_10.t.ans ++ ([A_21] : List AN)).length) c_272, .slice a_273 ((m_20.r.foldl addSpan y_10.t.rd).length) c_274, .slice a_275 ((m_20.w.foldl addSpan y_10.t.wr).length) c_276, .slice y_10.x.a4 y_10.t.marks.length y_10.x.c4, iv y_10.t.state]) rfl rfl rfl rfl kx rfl rfl (lb rfl) rfl) ?_
    rintro _ _ rfl
    refine jD <| jB <| jC <| jr [bk b_25 45 [iv A_21.code, iv A_21.n, str A_21.text], bk b_6 31 [iv y_10.t.id, iv y_10.t.age, iv y_10.t.proc, iv y_10.t.began, .slice a_268 ((y_10.t.calls ++ ([c] : List CL)).length) c_269, .slice a_271 ((y_10.t.ans ++ ([A_21] : List AN)).length) c_272, .slice a_273 ((m_20.r.foldl addSpan y_10.t.rd).length) c_274, .slice a_275 ((m_20.w.foldl addSpan y_10.t.wr).length) c_276, .slice y_10.x.a4 y_10.t.marks.length y_10.x.c4, iv y_10.t.state]] 3 mixed (by simp) <| jh 0 rfl (jX 1 (vs := [iv y_10.t.id, iv y_10.t.age, iv y_10.t.proc, iv y_10.t.began, .slice a_268 ((y_10.t.calls ++ ([c] : List CL)).length) c_269, .slice a_271 ((y_10.t.ans ++ ([A_21] : List AN)).length) c_272, .slice a_273 ((m_20.r.foldl addSpan y_10.t.rd).length) c_274, .slice a_275 ((m_20.w.foldl addSpan y_10.t.wr).length) c_276, .slice y_10.x.a4 y_10.t.marks.length y_10.x.c4, iv y_10.t.state]) rfl he_261 kz kq rfl rfl) <| jh 1 rfl (jX 0 (vs := [iv A_21.code, iv A_21.n, str A_21.text]) rfl he_265 gA kr rfl rfl) <| jQ (i := 2) ?_
    refine jY rfl rfl (jT 16 (vs := [iv y_10.t.id, iv y_10.t.age, iv y_10.t.proc, iv y_10.t.began, .slice a_268 ((y_10.t.calls ++ ([c] : List CL)).length) c_269, .slice a_271 ((y_10.t.ans ++ ([A_21] : List AN)).length) c_272, .slice a_273 ((m_20.r.foldl addSpan y_10.t.rd).length) c_274, .slice a_275 ((m_20.w.foldl addSpan y_10.t.wr).length) c_276, .slice y_10.x.a4 y_10.t.marks.length y_10.x.c4, iv y_10.t.state]) (cs' := [iv y_10.t.id, iv y_10.t.age, iv y_10.t.proc, iv y_10.t.began, .slice a_268 ((y_10.t.calls ++ ([c] : List CL)).length) c_269, .slice a_271 ((y_10.t.ans ++ ([A_21] : List AN)).length) c_272, .slice a_273 ((m_20.r.foldl addSpan y_10.t.rd).length) c_274, .slice a_275 ((m_20.w.foldl addSpan y_10.t.wr).length) c_276, .slice y_10.x.a4 y_10.t.marks.length y_10.x.c4, iv y_10.t.state]) rfl he_263 rfl rfl kq rfl rfl (lb rfl) rfl) ?_
    rintro _ _ rfl
    refine ⟨(by simp), ?_⟩
    refine jQ (i := 3) ?_
    refine jx rfl (jT 15 (vs := [iv A_21.code, iv A_21.n, str A_21.text]) (cs' := [iv A_21.code, iv A_21.n, str A_21.text]) rfl he_264 rfl rfl kr rfl rfl (lb rfl) rfl) ?_
    rintro _ _ rfl
    refine jB <| jL <| kO (L' := [Res.rows (rdsX (⟨⟨a_268, c_269, a_271, c_272, a_273, c_274, a_275, c_276, y_10.x.a4, y_10.x.c4⟩, ⟨y_10.t.id, y_10.t.age, y_10.t.proc, y_10.t.began, (y_10.t.calls ++ ([c] : List CL)), (y_10.t.ans ++ ([A_21] : List AN)), (m_20.r.foldl addSpan y_10.t.rd), (m_20.w.foldl addSpan y_10.t.wr), y_10.t.marks, y_10.t.state⟩⟩ : TX)), Res.row (.slice a_270 1 1) 45 3 1 (([A_21] : List AN).flatMap encA), Res.row (.slice a_267 1 1) 51 6 1 (([c] : List CL).flatMap encK), rS y_10.x.a2 y_10.x.c2 y_10.t.rd, rS y_10.x.a3 y_10.x.c3 y_10.t.wr, bk b_26 28 [.slice x_19.a1 m_20.r.length x_19.c1, .slice x_19.a2 m_20.w.length x_19.c2], bk b_25 45 [iv A_21.code, iv A_21.n, str A_21.text], rC x_19.a0 x_19.c0 m_20.s, rS x_19.a1 x_19.c1 m_20.r, rS x_19.a2 x_19.c2 m_20.w, rC a_14 c_15 v_16, bk b_9 45 [iv A_21.code, iv A_21.n, str A_21.text], bk b_8 31 [iv y_10.t.id, iv y_10.t.age, iv y_10.t.proc, iv y_10.t.began, .slice a_268 ((y_10.t.calls ++ ([c] : List CL)).length) c_269, .slice a_271 ((y_10.t.ans ++ ([A_21] : List AN)).length) c_272, .slice a_273 ((m_20.r.foldl addSpan y_10.t.rd).length) c_274, .slice a_275 ((m_20.w.foldl addSpan y_10.t.wr).length) c_276, .slice y_10.x.a4 y_10.t.marks.length y_10.x.c4, iv y_10.t.state], bk b_7 51 [iv c.kind, str c.name, str c.to_, iv c.a, iv c.b, str c.text], bk b_6 31 [iv y_10.t.id, iv y_10.t.age, iv y_10.t.proc, iv y_10.t.began, .slice a_268 ((y_10.t.calls ++ ([c] : List CL)).length) c_269, .slice a_271 ((y_10.t.ans ++ ([A_21] : List AN)).length) c_272, .slice a_273 ((m_20.r.foldl addSpan y_10.t.rd).length) c_274, .slice a_275 ((m_20.w.foldl addSpan y_10.t.wr).length) c_276, .slice y_10.x.a4 y_10.t.marks.length y_10.x.c4, iv y_10.t.state]]) (fun w hw => hw.closeR (A := rdsX (⟨⟨a_268, c_269, a_271, c_272, a_273, c_274, a_275, c_276, y_10.x.a4, y_10.x.c4⟩, ⟨y_10.t.id, y_10.t.age, y_10.t.proc, y_10.t.began, (y_10.t.calls ++ ([c] : List CL)), (y_10.t.ans ++ ([A_21] : List AN)), (m_20.r.foldl addSpan y_10.t.rd), (m_20.w.foldl addSpan y_10.t.wr), y_10.t.marks, y_10.t.state⟩⟩ : TX)) [4, 4, 0, 0, 4] rfl) <| kB (.inl rfl) rfl (je (jX 12 (vs := [iv y_10.t.id, iv y_10.t.age, iv y_10.t.proc, iv y_10.t.began, .slice a_268 ((y_10.t.calls ++ ([c] : List CL)).length) c_269, .slice a_271 ((y_10.t.ans ++ ([A_21] : List AN)).length) c_272, .slice a_273 ((m_20.r.foldl addSpan y_10.t.rd).length) c_274, .slice a_275 ((m_20.w.foldl addSpan y_10.t.wr).length) c_276, .slice y_10.x.a4 y_10.t.marks.length y_10.x.c4, iv y_10.t.state]) rfl he_263 kz kq rfl rfl) ⟨_, he_263⟩) (je (jX 11 (vs := [iv A_21.code, iv A_21.n, str A_21.text]) rfl he_264 gA kr rfl rfl) ⟨_, he_264⟩) (tS 1 _) ?_
    have hv := e_17
    have hd := e_22
    try rw [hy_11] at hv
    try rw [hpr] at hd
    have hm : TD.askV (viewL s p.t) p.t c = ((⟨⟨a_268, c_269, a_271, c_272, a_273, c_274, a_275, c_276, y_10.x.a4, y_10.x.c4⟩, ⟨y_10.t.id, y_10.t.age, y_10.t.proc, y_10.t.began, (y_10.t.calls ++ ([c] : List CL)), (y_10.t.ans ++ ([A_21] : List AN)), (m_20.r.foldl addSpan y_10.t.rd), (m_20.w.foldl addSpan y_10.t.wr), y_10.t.marks, y_10.t.state⟩⟩ : TX).t, A_21) := by rw [askV_on (by omega) (by omega), hv, hd, ← hy_11]
    exact ⟨(⟨⟨a_268, c_269, a_271, c_272, a_273, c_274, a_275, c_276, y_10.x.a4, y_10.x.c4⟩, ⟨y_10.t.id, y_10.t.age, y_10.t.proc, y_10.t.began, (y_10.t.calls ++ ([c] : List CL)), (y_10.t.ans ++ ([A_21] : List AN)), (m_20.r.foldl addSpan y_10.t.rd), (m_20.w.foldl addSpan y_10.t.wr), y_10.t.marks, y_10.t.state⟩⟩ : TX), A_21, hm, (by omega), ⟨(by have h_ := foldSpan_len m_20.r y_10.t.rd; dsimp only; omega), (by have h_ := foldSpan_len m_20.w y_10.t.wr; dsimp only; omega)⟩, rfl, rfl⟩
  refine jO (cB (cN (dF h_12))) <| jC <| jE <| jK (jX 4 (vs := (xc y_10)) rfl rfl kz kq rfl rfl) <| jA (kY (ps := [(0, iv 2)]) (cs := [iv 2, iv 0, str []]) rfl (by kernel_rfl)) ?_
  refine jH rfl (jT 2 (vs := (xc y_10)) (cs' := (xc y_10)) rfl rfl rfl rfl kq rfl rfl (lb rfl) rfl) ?_
  rintro _ _ rfl
  refine jH rfl (jT 1 (vs := [iv 2, iv 0, str []]) (cs' := [iv 2, iv 0, str []]) rfl rfl rfl rfl kr rfl rfl (lb rfl) rfl) ?_
  rintro _ _ rfl
  refine jD <| jB <| jL <| jW <| kB (.inl rfl) rfl (je (jX 2 (vs := (xc y_10)) rfl rfl kz kq rfl rfl) ⟨_, rfl⟩) (je (jX 1 (vs := [iv 2, iv 0, str []]) rfl rfl gA kr rfl rfl) ⟨_, rfl⟩) (tS 1 _) ?_
  have hm : TD.askV (viewL s p.t) p.t c = (p.t, (⟨2, 0, []⟩ : AN)) := by first | exact askV_off (by omega) | exact askV_full (by omega) (by omega)
  exact ⟨y_10, (⟨2, 0, []⟩ : AN), by rw [hm, hy_11], (by (try dsimp only); (try simp only [List.length_nil]); omega), (by rw [hy_11]; omega), rfl, rfl⟩

end Go.Proofs.YtghfijncihbojaaGreat
