/-
Texts of the walk, joined: what each one proves stands at its theorems.
-/
import Derived.Test.YthlfmbbaomdciaaGreatDoorB0S64RUN
set_option linter.unusedSimpArgs false
set_option linter.unusedVariables false
set_option linter.unnecessarySimpa false
set_option maxHeartbeats 4000000
set_option maxRecDepth 4000
namespace Go.Proofs.YthlfmbbaomdciaaGreatDoor
open Go Go.RowKit
attribute [local irreducible] JL JC JQ JO LO PO JA JX Ct
theorem Z_cloneK (a : Option Addr) (c : Nat) (s : List CL) (hn : s.length ≤ 1000000000000) :
   Ct Tryz.prog 189 [.slice a s.length c] [] (fun w_ => Sees w_ (.slice a s.length c) 6 s.length (s.flatMap encK)) (fun v A' => ∃ a' c', v = .slice a' s.length c' ∧ A' = [.row (.slice a' s.length c') 43 6 s.length (s.flatMap encK)]) := by
 refine Ct.intro Tryz.func189 rfl Tryz.ntmps189 (lb rfl) fun w0 hpre => ?_
 have hs_a : Sees w0 _ _ _ _ := hpre
 refine go ?_
 refine jK (PO.eqNil kf rfl rfl) ?_
 refine go ?_
 rcases Bool.eq_false_or_eq_true (a.isNone) with h_1 | h_1
 · refine go ?_
   refine JQ.nilrow 43 6 ?_
   refine jE (.inl rfl) rfl (jC (v := .slice none 0 0) rfl) (List.Sublist.refl _) ?_
   have ha : a = none := by simpa using h_1
   have hz : s.length = 0 := sees_none (ha ▸ hpre)
   have hs0 : s = [] := List.length_eq_zero_iff.1 hz
   subst hs0
   exact ⟨none, 0, rfl, rfl⟩
 refine go ?_
 refine jF rfl (jR (ps := []) (cur := #[]) kf kX Tryz.zeroValue43 rfl (by kernel_rfl) (by decide) (by decide)) ?_
 rintro _ _ ⟨a_2, rfl, rfl⟩
 refine go ?_
 refine jF rfl (jX 0 (q := s.length) (news := s.flatMap encK) (n' := s.length) (cs' := s.flatMap encK) rfl kf kf Tryz.typeInfo43 rfl (by' := 72) rfl rfl rfl rfl rfl (fun w hw => Src.sees (hw.seeOut_ hs_a nM) (oneK _)) (by (try simp only [LE]); omega) (by (try simp only [LE]); omega) (by (try simp only [List.length_take, List.length_drop]); first | rfl | omega) rfl) ?_
 rintro _ _ ⟨a_3, c_4, rfl, rfl⟩
 refine go ?_
 refine jE (.inl rfl) rfl (jC (v := .slice a_3 s.length c_4) rfl) (List.Sublist.refl _) ?_
 exact ⟨_, _, rfl, rfl⟩

theorem Z_cloneA (a : Option Addr) (c : Nat) (s : List AN) (hn : s.length ≤ 1000000000000) :
   Ct Tryz.prog 190 [.slice a s.length c] [] (fun w_ => Sees w_ (.slice a s.length c) 3 s.length (s.flatMap encA)) (fun v A' => ∃ a' c', v = .slice a' s.length c' ∧ A' = [.row (.slice a' s.length c') 39 3 s.length (s.flatMap encA)]) := by
 refine Ct.intro Tryz.func190 rfl Tryz.ntmps190 (lb rfl) fun w0 hpre => ?_
 have hs_a : Sees w0 _ _ _ _ := hpre
 refine go ?_
 refine jK (PO.eqNil ke rfl rfl) ?_
 refine go ?_
 rcases Bool.eq_false_or_eq_true (a.isNone) with h_1 | h_1
 · refine go ?_
   refine JQ.nilrow 39 3 ?_
   refine jE (.inl rfl) rfl (jC (v := .slice none 0 0) rfl) (List.Sublist.refl _) ?_
   have ha : a = none := by simpa using h_1
   have hz : s.length = 0 := sees_none (ha ▸ hpre)
   have hs0 : s = [] := List.length_eq_zero_iff.1 hz
   subst hs0
   exact ⟨none, 0, rfl, rfl⟩
 refine go ?_
 refine jF rfl (jR (ps := []) (cur := #[]) ke kY Tryz.zeroValue39 rfl (by kernel_rfl) (by decide) (by decide)) ?_
 rintro _ _ ⟨a_2, rfl, rfl⟩
 refine go ?_
 refine jF rfl (jX 0 (q := s.length) (news := s.flatMap encA) (n' := s.length) (cs' := s.flatMap encA) rfl ke ke Tryz.typeInfo39 rfl (by' := 32) rfl rfl rfl rfl rfl (fun w hw => Src.sees (hw.seeOut_ hs_a nM) (oneA _)) (by (try simp only [LE]); omega) (by (try simp only [LE]); omega) (by (try simp only [List.length_take, List.length_drop]); first | rfl | omega) rfl) ?_
 rintro _ _ ⟨a_3, c_4, rfl, rfl⟩
 refine go ?_
 refine jE (.inl rfl) rfl (jC (v := .slice a_3 s.length c_4) rfl) (List.Sublist.refl _) ?_
 exact ⟨_, _, rfl, rfl⟩

theorem Z_cloneI (a : Option Addr) (c : Nat) (s : List Int) (hn : s.length ≤ 1000000000000) :
   Ct Tryz.prog 191 [.slice a s.length c] [] (fun w_ => Sees w_ (.slice a s.length c) 1 s.length (s.map (Value.int .i64))) (fun v A' => ∃ a' c', v = .slice a' s.length c' ∧ A' = [.row (.slice a' s.length c') 3 1 s.length (s.map (Value.int .i64))]) := by
 refine Ct.intro Tryz.func191 rfl Tryz.ntmps191 (lb rfl) fun w0 hpre => ?_
 have hs_a : Sees w0 _ _ _ _ := hpre
 refine go ?_
 refine jK (PO.eqNil kL rfl rfl) ?_
 refine go ?_
 rcases Bool.eq_false_or_eq_true (a.isNone) with h_1 | h_1
 · refine go ?_
   refine JQ.nilrow 3 1 ?_
   refine jE (.inl rfl) rfl (jC (v := .slice none 0 0) rfl) (List.Sublist.refl _) ?_
   have ha : a = none := by simpa using h_1
   have hz : s.length = 0 := sees_none (ha ▸ hpre)
   have hs0 : s = [] := List.length_eq_zero_iff.1 hz
   subst hs0
   exact ⟨none, 0, rfl, rfl⟩
 refine go ?_
 refine jF rfl (jR (ps := []) (cur := #[]) kL kS kZ rfl (by kernel_rfl) (by decide) (by decide)) ?_
 rintro _ _ ⟨a_2, rfl, rfl⟩
 refine go ?_
 refine jF rfl (jX 0 (q := s.length) (news := s.map (Value.int .i64)) (n' := s.length) (cs' := s.map (Value.int .i64)) rfl kL kL kl rfl (by' := 8) rfl rfl rfl rfl rfl (fun w hw => Src.sees (hw.seeOut_ hs_a nM) (oneI _)) (by (try simp only [LE]); omega) (by (try simp only [LE]); omega) (by (try simp only [List.length_take, List.length_drop]); first | rfl | omega) rfl) ?_
 rintro _ _ ⟨a_3, c_4, rfl, rfl⟩
 refine go ?_
 refine jE (.inl rfl) rfl (jC (v := .slice a_3 s.length c_4) rfl) (List.Sublist.refl _) ?_
 exact ⟨_, _, rfl, rfl⟩

theorem Z_cloneTouch (a1 a2 : Option Addr) (ac1 ac2 : Nat) (r w : List Str) (hr : r.length ≤ 1000000000) (hw_ : w.length ≤ 1000000000) :
   Ct Tryz.prog 108 [.agg #[.slice a1 r.length ac1, .slice a2 w.length ac2]] [] (fun w_ => Sees w_ (.slice a1 r.length ac1) 1 r.length (r.map str) ∧ Sees w_ (.slice a2 w.length ac2) 1 w.length (w.map str)) (fun v A' => ∃ b1 d1 b2 d2, v = .agg #[.slice b1 r.length d1, .slice b2 w.length d2] ∧ A' = [.row (.slice b1 r.length d1) 9 1 r.length (r.map str), .row (.slice b2 w.length d2) 9 1 w.length (w.map str)]) := by
 refine Ct.intro Tryz.func108 rfl Tryz.ntmps108 (lb rfl) fun w0 hpre => ?_
 refine go ?_
 refine jM [.slice a1 r.length ac1, .slice a2 w.length ac2] fun b_1 => ?_
 refine jG [.slice none 0 0, .slice none 0 0] fun b_2 => ?_
 refine go ?_
 refine jH [0, 0] 7 ?_
 refine go ?_
 refine jB (i := 2) ?_
 refine jI [] (C_cloneS a1 ac1 r (by omega)) (hpre := fun w hw => hw.seeOut_ hpre.1 nM) ?_
 rintro _ _ ⟨a_9, c_10, rfl, rfl⟩
 refine jB (i := 5) ?_
 refine jI [] (C_cloneS a2 ac2 w (by omega)) (hpre := fun w hw => hw.seeOut_ hpre.2 nM) ?_
 rintro _ _ ⟨a_13, c_14, rfl, rfl⟩
 refine jd 6 rfl (je (ps := [(0, .slice a_9 r.length c_10), (1, .slice a_13 w.length c_14)]) (cs := [.slice a_9 r.length c_10, .slice a_13 w.length c_14]) rfl (by kernel_rfl)) ?_
 refine jB (i := 7) ?_
 refine jS 2 [.slice a_9 r.length c_10, .slice a_13 w.length c_14] ?_
 refine go ?_
 exact jJ [1, 0] ⟨_, _, _, _, rfl, rfl⟩

theorem Z_implTxclone (p : TX) (hl : p.t.lim 1000000000) :
   Ct Tryz.prog 97 [.agg #[.int .i64 p.t.id, .int .i64 p.t.age, .int .i64 p.t.proc, .int .i64 p.t.began, .slice p.x.a0 p.t.calls.length p.x.c0, .slice p.x.a1 p.t.ans.length p.x.c1, .slice p.x.a2 p.t.rd.length p.x.c2, .slice p.x.a3 p.t.wr.length p.x.c3, .slice p.x.a4 p.t.marks.length p.x.c4, .int .i64 p.t.state]] [] (fun w => SeesA w (rdsX p)) (fun v A' => ∃ y : TX, y.t = p.t ∧ v = .agg #[.int .i64 y.t.id, .int .i64 y.t.age, .int .i64 y.t.proc, .int .i64 y.t.began, .slice y.x.a0 y.t.calls.length y.x.c0, .slice y.x.a1 y.t.ans.length y.x.c1, .slice y.x.a2 y.t.rd.length y.x.c2, .slice y.x.a3 y.t.wr.length y.x.c3, .slice y.x.a4 y.t.marks.length y.x.c4, .int .i64 y.t.state] ∧ A' = [.rows (rdsX y)]) := by
 obtain ⟨hb0, hb1, hb2, hb3, hb4⟩ := hl
 refine Ct.intro Tryz.func97 rfl Tryz.ntmps97 (lb rfl) fun w0 hpre => ?_
 obtain ⟨hs_1, hs_2, hs_3, hs_4, hs_5⟩ := seesX hpre
 refine go ?_
 refine jM (xc p) fun b_6 => ?_
 refine jG xzc fun b_7 => ?_
 refine go ?_
 refine jH [0, 0] 12 ?_
 refine go ?_
 refine jB (i := 2) ?_
 refine jI [] (Z_cloneK p.x.a0 p.x.c0 p.t.calls (by omega)) (hpre := fun w hw => hw.seeOut_ hs_1 nM) ?_
 rintro _ _ ⟨a_22, c_23, rfl, rfl⟩
 refine go ?_
 refine jB (i := 5) ?_
 refine jI [] (Z_cloneA p.x.a1 p.x.c1 p.t.ans (by omega)) (hpre := fun w hw => hw.seeOut_ hs_2 nM) ?_
 rintro _ _ ⟨a_28, c_29, rfl, rfl⟩
 refine jB (i := 8) ?_
 refine jI [] (Z_cloneI p.x.a4 p.x.c4 p.t.marks (by omega)) (hpre := fun w hw => hw.seeOut_ hs_5 nM) ?_
 rintro _ _ ⟨a_32, c_33, rfl, rfl⟩
 refine jB (i := 11) ?_
 refine jI [] (Z_cloneTouch p.x.a2 p.x.a3 p.x.c2 p.x.c3 p.t.rd p.t.wr (by omega) (by omega)) (hpre := fun w hw => ⟨hw.seeOut_ hs_3 nM, hw.seeOut_ hs_4 nM⟩) ?_
 rintro _ _ ⟨a_38, c_39, a_40, c_41, rfl, rfl⟩
 refine jB (i := 13) ?_
 refine jf 6 [iv p.t.id, iv p.t.age, iv p.t.proc, iv p.t.began, .slice a_22 p.t.calls.length c_23, .slice p.x.a1 p.t.ans.length p.x.c1, .slice p.x.a2 p.t.rd.length p.x.c2, .slice p.x.a3 p.t.wr.length p.x.c3, .slice p.x.a4 p.t.marks.length p.x.c4, iv p.t.state] ?_
 refine go ?_
 refine jB (i := 15) ?_
 refine jf 6 [iv p.t.id, iv p.t.age, iv p.t.proc, iv p.t.began, .slice a_22 p.t.calls.length c_23, .slice a_28 p.t.ans.length c_29, .slice p.x.a2 p.t.rd.length p.x.c2, .slice p.x.a3 p.t.wr.length p.x.c3, .slice p.x.a4 p.t.marks.length p.x.c4, iv p.t.state] ?_
 refine go ?_
 refine jB (i := 17) ?_
 refine jf 6 [iv p.t.id, iv p.t.age, iv p.t.proc, iv p.t.began, .slice a_22 p.t.calls.length c_23, .slice a_28 p.t.ans.length c_29, .slice p.x.a2 p.t.rd.length p.x.c2, .slice p.x.a3 p.t.wr.length p.x.c3, .slice a_32 p.t.marks.length c_33, iv p.t.state] ?_
 refine go ?_
 refine jB (i := 19) ?_
 refine jS 6 [iv p.t.id, iv p.t.age, iv p.t.proc, iv p.t.began, .slice a_22 p.t.calls.length c_23, .slice a_28 p.t.ans.length c_29, .slice a_38 p.t.rd.length c_39, .slice a_40 p.t.wr.length c_41, .slice a_32 p.t.marks.length c_33, iv p.t.state] ?_
 refine go ?_
 refine jD 5 [iv p.t.id, iv p.t.age, iv p.t.proc, iv p.t.began, .slice a_22 p.t.calls.length c_23, .slice a_28 p.t.ans.length c_29, .slice a_38 p.t.rd.length c_39, .slice a_40 p.t.wr.length c_41, .slice a_32 p.t.marks.length c_33, iv p.t.state] ?_
 refine jb <| jT <| jz ?_
 refine jw (L' := [Res.rows (rdsX (⟨⟨a_22, c_23, a_28, c_29, a_38, c_39, a_40, c_41, a_32, c_33⟩, p.t⟩ : TX)), bk b_7 35 [iv p.t.id, iv p.t.age, iv p.t.proc, iv p.t.began, .slice a_22 p.t.calls.length c_23, .slice a_28 p.t.ans.length c_29, .slice a_38 p.t.rd.length c_39, .slice a_40 p.t.wr.length c_41, .slice a_32 p.t.marks.length c_33, iv p.t.state], bk b_6 35 [iv p.t.id, iv p.t.age, iv p.t.proc, iv p.t.began, .slice a_22 p.t.calls.length c_23, .slice a_28 p.t.ans.length c_29, .slice a_38 p.t.rd.length c_39, .slice a_40 p.t.wr.length c_41, .slice a_32 p.t.marks.length c_33, iv p.t.state]]) (fun w hw => hw.closeR (A := rdsX (⟨⟨a_22, c_23, a_28, c_29, a_38, c_39, a_40, c_41, a_32, c_33⟩, p.t⟩ : TX)) [4, 3, 0, 0, 0] rfl) ?_
 exact jJ [0] ⟨(⟨⟨a_22, c_23, a_28, c_29, a_38, c_39, a_40, c_41, a_32, c_33⟩, p.t⟩ : TX), rfl, rfl, rfl⟩

theorem Z_specl17Copy (p : TX) (hl : p.t.lim 1000000000) :
   Ct Tryz.prog 134 [.agg #[.int .i64 p.t.id, .int .i64 p.t.age, .int .i64 p.t.proc, .int .i64 p.t.began, .slice p.x.a0 p.t.calls.length p.x.c0, .slice p.x.a1 p.t.ans.length p.x.c1, .slice p.x.a2 p.t.rd.length p.x.c2, .slice p.x.a3 p.t.wr.length p.x.c3, .slice p.x.a4 p.t.marks.length p.x.c4, .int .i64 p.t.state]] [] (fun w => SeesA w (rdsX p)) (fun v A' => ∃ y : TX, y.t = p.t ∧ v = .agg #[.int .i64 y.t.id, .int .i64 y.t.age, .int .i64 y.t.proc, .int .i64 y.t.began, .slice y.x.a0 y.t.calls.length y.x.c0, .slice y.x.a1 y.t.ans.length y.x.c1, .slice y.x.a2 y.t.rd.length y.x.c2, .slice y.x.a3 y.t.wr.length y.x.c3, .slice y.x.a4 y.t.marks.length y.x.c4, .int .i64 y.t.state] ∧ A' = [.rows (rdsX y)]) := by
 obtain ⟨hb0, hb1, hb2, hb3, hb4⟩ := hl
 refine Ct.intro Tryz.func134 rfl Tryz.ntmps134 (lb rfl) fun w0 hpre => ?_
 obtain ⟨hs_1, hs_2, hs_3, hs_4, hs_5⟩ := seesX hpre
 refine go ?_
 refine jM (xc p) fun b_6 => ?_
 refine jG xzc fun b_7 => ?_
 refine go ?_
 refine jF rfl (jR (ps := []) (cur := #[]) kf kX Tryz.zeroValue43 rfl (by kernel_rfl) (by decide) (by decide)) ?_
 rintro _ _ ⟨a_8, rfl, rfl⟩
 refine go ?_
 refine jF rfl (jX 0 (q := p.t.calls.length) (news := p.t.calls.flatMap encK) (n' := p.t.calls.length) (cs' := p.t.calls.flatMap encK) rfl kf kf Tryz.typeInfo43 rfl (by' := 72) rfl rfl rfl rfl rfl (fun w hw => Src.sees (hw.seeOut_ hs_1 nM) (oneK _)) (by (try simp only [LE]); omega) (by (try simp only [LE]); omega) (by (try simp only [List.length_take, List.length_drop]); first | rfl | omega) rfl) ?_
 rintro _ _ ⟨a_9, c_10, rfl, rfl⟩
 refine go ?_
 refine jD 2 [iv p.t.id, iv p.t.age, iv p.t.proc, iv p.t.began, .slice a_9 p.t.calls.length c_10, .slice p.x.a1 p.t.ans.length p.x.c1, .slice p.x.a2 p.t.rd.length p.x.c2, .slice p.x.a3 p.t.wr.length p.x.c3, .slice p.x.a4 p.t.marks.length p.x.c4, iv p.t.state] ?_
 refine go ?_
 refine jF rfl (jR (ps := []) (cur := #[]) ke kY Tryz.zeroValue39 rfl (by kernel_rfl) (by decide) (by decide)) ?_
 rintro _ _ ⟨a_11, rfl, rfl⟩
 refine go ?_
 refine jF rfl (jX 0 (q := p.t.ans.length) (news := p.t.ans.flatMap encA) (n' := p.t.ans.length) (cs' := p.t.ans.flatMap encA) rfl ke ke Tryz.typeInfo39 rfl (by' := 32) rfl rfl rfl rfl rfl (fun w hw => Src.sees (hw.seeOut_ hs_2 nM) (oneA _)) (by (try simp only [LE]); omega) (by (try simp only [LE]); omega) (by (try simp only [List.length_take, List.length_drop]); first | rfl | omega) rfl) ?_
 rintro _ _ ⟨a_12, c_13, rfl, rfl⟩
 refine go ?_
 refine jD 3 [iv p.t.id, iv p.t.age, iv p.t.proc, iv p.t.began, .slice a_9 p.t.calls.length c_10, .slice a_12 p.t.ans.length c_13, .slice p.x.a2 p.t.rd.length p.x.c2, .slice p.x.a3 p.t.wr.length p.x.c3, .slice p.x.a4 p.t.marks.length p.x.c4, iv p.t.state] ?_
 refine go ?_
 refine jH [0, 0, 0, 0] 11 ?_
 refine go ?_
 repeat' first
   | refine jZ (i := 0) (j := 5) (by decide +kernel) ?_ ?_
   | refine jZ (i := 4) (j := 5) (by decide +kernel) ?_ ?_
   | refine jB (i := 5) ?_ (by decide +kernel)
   | refine jB (i := 9) ?_ (by decide +kernel)
   | refine jB (i := 12) ?_ (by decide +kernel)
   | refine jB (i := 4) ?_ (by decide +kernel)
   | refine jB (i := 0) ?_ (by decide +kernel)
   | (refine ja (i := 0) rfl rfl (jR (ps := []) (cur := #[]) kI kM kV rfl (by kernel_rfl) (by decide) (by decide)) ?_; rintro _ _ ⟨a_25, rfl, rfl⟩; refine ⟨all_go, ?_⟩)
   | (refine ja (i := 4) rfl rfl (jX 0 (q := p.t.rd.length) (news := p.t.rd.map str) (n' := p.t.rd.length) (cs' := p.t.rd.map str) rfl kI kI kd rfl (by' := 16) rfl rfl rfl rfl rfl (fun w hw => Src.sees (hw.seeOut_ hs_3 nM) (oneS _)) (by (try simp only [LE]); omega) (by (try simp only [LE]); omega) (by (try simp only [List.length_take, List.length_drop]); first | rfl | omega) rfl) ?_; rintro _ _ ⟨a_29, c_30, rfl, rfl⟩; refine ⟨all_go, ?_⟩)
   | (refine ja (i := 5) rfl rfl (jR (ps := []) (cur := #[]) kI kM kV rfl (by kernel_rfl) (by decide) (by decide)) ?_; rintro _ _ ⟨a_32, rfl, rfl⟩; refine ⟨all_go, ?_⟩)
   | (refine ja (i := 9) rfl rfl (jX 0 (q := p.t.wr.length) (news := p.t.wr.map str) (n' := p.t.wr.length) (cs' := p.t.wr.map str) rfl kI kI kd rfl (by' := 16) rfl rfl rfl rfl rfl (fun w hw => Src.sees (hw.seeOut_ hs_4 nM) (oneS _)) (by (try simp only [LE]); omega) (by (try simp only [LE]); omega) (by (try simp only [List.length_take, List.length_drop]); first | rfl | omega) rfl) ?_; rintro _ _ ⟨a_35, c_36, rfl, rfl⟩; refine ⟨all_go, ?_⟩; refine jd 10 rfl (je (ps := [(0, .slice a_29 p.t.rd.length c_30), (1, .slice a_35 p.t.wr.length c_36)]) (cs := [.slice a_29 p.t.rd.length c_30, .slice a_35 p.t.wr.length c_36]) rfl (by kernel_rfl)) ?_; refine go ?_)
   | (refine jS (i := 12) 5 [iv p.t.id, iv p.t.age, iv p.t.proc, iv p.t.began, .slice a_9 p.t.calls.length c_10, .slice a_12 p.t.ans.length c_13, .slice a_29 p.t.rd.length c_30, .slice a_35 p.t.wr.length c_36, .slice p.x.a4 p.t.marks.length p.x.c4, iv p.t.state] ?_; refine go ?_; refine jF rfl (jR (ps := []) (cur := #[]) kL kS kZ rfl (by kernel_rfl) (by decide) (by decide)) ?_; rintro _ _ ⟨a_37, rfl, rfl⟩; refine go ?_; refine jF rfl (jX 0 (q := p.t.marks.length) (news := p.t.marks.map (Value.int .i64)) (n' := p.t.marks.length) (cs' := p.t.marks.map (Value.int .i64)) rfl kL kL kl rfl (by' := 8) rfl rfl rfl rfl rfl (fun w hw => Src.sees (hw.seeOut_ hs_5 nM) (oneI _)) (by (try simp only [LE]); omega) (by (try simp only [LE]); omega) (by (try simp only [List.length_take, List.length_drop]); first | rfl | omega) rfl) ?_; rintro _ _ ⟨a_38, c_39, rfl, rfl⟩; refine go ?_; refine jD 6 [iv p.t.id, iv p.t.age, iv p.t.proc, iv p.t.began, .slice a_9 p.t.calls.length c_10, .slice a_12 p.t.ans.length c_13, .slice a_29 p.t.rd.length c_30, .slice a_35 p.t.wr.length c_36, .slice a_38 p.t.marks.length c_39, iv p.t.state] ?_; refine go ?_; refine jD 5 [iv p.t.id, iv p.t.age, iv p.t.proc, iv p.t.began, .slice a_9 p.t.calls.length c_10, .slice a_12 p.t.ans.length c_13, .slice a_29 p.t.rd.length c_30, .slice a_35 p.t.wr.length c_36, .slice a_38 p.t.marks.length c_39, iv p.t.state] ?_; refine jb <| jT <| jz ?_; refine jw (L' := [Res.rows (rdsX (⟨⟨a_9, c_10, a_12, c_13, a_29, c_30, a_35, c_36, a_38, c_39⟩, p.t⟩ : TX)), bk b_7 35 [iv p.t.id, iv p.t.age, iv p.t.proc, iv p.t.began, .slice a_9 p.t.calls.length c_10, .slice a_12 p.t.ans.length c_13, .slice a_29 p.t.rd.length c_30, .slice a_35 p.t.wr.length c_36, .slice a_38 p.t.marks.length c_39, iv p.t.state], bk b_6 35 [iv p.t.id, iv p.t.age, iv p.t.proc, iv p.t.began, .slice a_9 p.t.calls.length c_10, .slice a_12 p.t.ans.length c_13, .slice a_29 p.t.rd.length c_30, .slice a_35 p.t.wr.length c_36, .slice a_38 p.t.marks.length c_39, iv p.t.state]]) (fun w hw => hw.closeR (A := rdsX (⟨⟨a_9, c_10, a_12, c_13, a_29, c_30, a_35, c_36, a_38, c_39⟩, p.t⟩ : TX)) [4, 3, 2, 1, 0] rfl) ?_)
   | (refine ja (i := 4) rfl rfl (jX 1 (q := p.t.rd.length) (news := p.t.rd.map str) (n' := p.t.rd.length) (cs' := p.t.rd.map str) rfl kI kI kd rfl (by' := 16) rfl rfl rfl rfl rfl (fun w hw => Src.sees (hw.seeOut_ hs_3 nM) (oneS _)) (by (try simp only [LE]); omega) (by (try simp only [LE]); omega) (by (try simp only [List.length_take, List.length_drop]); first | rfl | omega) rfl) ?_; rintro _ _ ⟨a_29, c_30, rfl, rfl⟩; refine ⟨all_go, ?_⟩)
   | (refine ja (i := 9) rfl rfl (jX 1 (q := p.t.wr.length) (news := p.t.wr.map str) (n' := p.t.wr.length) (cs' := p.t.wr.map str) rfl kI kI kd rfl (by' := 16) rfl rfl rfl rfl rfl (fun w hw => Src.sees (hw.seeOut_ hs_4 nM) (oneS _)) (by (try simp only [LE]); omega) (by (try simp only [LE]); omega) (by (try simp only [List.length_take, List.length_drop]); first | rfl | omega) rfl) ?_; rintro _ _ ⟨a_35, c_36, rfl, rfl⟩; refine ⟨all_go, ?_⟩; refine jd 10 rfl (je (ps := [(0, .slice a_29 p.t.rd.length c_30), (1, .slice a_35 p.t.wr.length c_36)]) (cs := [.slice a_29 p.t.rd.length c_30, .slice a_35 p.t.wr.length c_36]) rfl (by kernel_rfl)) ?_; refine go ?_)
   | (refine jS (i := 12) 5 [iv p.t.id, iv p.t.age, iv p.t.proc, iv p.t.began, .slice a_9 p.t.calls.length c_10, .slice a_12 p.t.ans.length c_13, .slice a_29 p.t.rd.length c_30, .slice a_35 p.t.wr.length c_36, .slice p.x.a4 p.t.marks.length p.x.c4, iv p.t.state] ?_; refine go ?_; refine jF rfl (jR (ps := []) (cur := #[]) kL kS kZ rfl (by kernel_rfl) (by decide) (by decide)) ?_; rintro _ _ ⟨a_37, rfl, rfl⟩; refine go ?_; refine jF rfl (jX 0 (q := p.t.marks.length) (news := p.t.marks.map (Value.int .i64)) (n' := p.t.marks.length) (cs' := p.t.marks.map (Value.int .i64)) rfl kL kL kl rfl (by' := 8) rfl rfl rfl rfl rfl (fun w hw => Src.sees (hw.seeOut_ hs_5 nM) (oneI _)) (by (try simp only [LE]); omega) (by (try simp only [LE]); omega) (by (try simp only [List.length_take, List.length_drop]); first | rfl | omega) rfl) ?_; rintro _ _ ⟨a_38, c_39, rfl, rfl⟩; refine go ?_; refine jD 6 [iv p.t.id, iv p.t.age, iv p.t.proc, iv p.t.began, .slice a_9 p.t.calls.length c_10, .slice a_12 p.t.ans.length c_13, .slice a_29 p.t.rd.length c_30, .slice a_35 p.t.wr.length c_36, .slice a_38 p.t.marks.length c_39, iv p.t.state] ?_; refine go ?_; refine jD 5 [iv p.t.id, iv p.t.age, iv p.t.proc, iv p.t.began, .slice a_9 p.t.calls.length c_10, .slice a_12 p.t.ans.length c_13, .slice a_29 p.t.rd.length c_30, .slice a_35 p.t.wr.length c_36, .slice a_38 p.t.marks.length c_39, iv p.t.state] ?_; refine jb <| jT <| jz ?_; refine jw (L' := [Res.rows (rdsX (⟨⟨a_9, c_10, a_12, c_13, a_29, c_30, a_35, c_36, a_38, c_39⟩, p.t⟩ : TX)), bk b_7 35 [iv p.t.id, iv p.t.age, iv p.t.proc, iv p.t.began, .slice a_9 p.t.calls.length c_10, .slice a_12 p.t.ans.length c_13, .slice a_29 p.t.rd.length c_30, .slice a_35 p.t.wr.length c_36, .slice a_38 p.t.marks.length c_39, iv p.t.state], bk b_6 35 [iv p.t.id, iv p.t.age, iv p.t.proc, iv p.t.began, .slice a_9 p.t.calls.length c_10, .slice a_12 p.t.ans.length c_13, .slice a_29 p.t.rd.length c_30, .slice a_35 p.t.wr.length c_36, .slice a_38 p.t.marks.length c_39, iv p.t.state]]) (fun w hw => hw.closeR (A := rdsX (⟨⟨a_9, c_10, a_12, c_13, a_29, c_30, a_35, c_36, a_38, c_39⟩, p.t⟩ : TX)) [4, 3, 1, 1, 0] rfl) ?_)
   | exact jJ [0] ⟨(⟨⟨a_9, c_10, a_12, c_13, a_29, c_30, a_35, c_36, a_38, c_39⟩, p.t⟩ : TX), rfl, rfl, rfl⟩
end Go.Proofs.YthlfmbbaomdciaaGreatDoor
namespace Go.Proofs.YthlfmbbaomdciaaGreatDoor
open Go Go.RowKit
def TD.drop (t : TD) : TD × Bool := ({ t with state := 3 }, true)
end Go.Proofs.YthlfmbbaomdciaaGreatDoor
namespace Go.Proofs.YthlfmbbaomdciaaGreatDoor
open Go Go.RowKit
section
variable {P : Program} {ops : Array Oper} {Q : Exit → Act → World → Prop} {n : Nat} {w0 w : World} {D : List Nat} {L M : List Res} {e : Env} {z fuel : Nat} {listed : Array Bool}
variable {ty : TypeId} {pos : String} {aft : Array Edge} {i j : Nat} {vs : List Value} {x y : Operand} {t ty' b o k : Nat} {cs : List Value} {v : Value}
theorem JX.sx (cs' : List Value) [hs : TyS P t k] (h : JA P ops Q n w0 D [] z fuel (listed.setIfInBounds i true) (L.set j (bk b ty' cs')) e) (hi : ops[i]? = some ⟨none, .store t x y, ty, pos, aft, none⟩ := by rfl)
   (hx : rd n e x = .pointer (some ⟨b, o, none⟩) := by rfl) (hL : L[j]? = some (bk b ty' cs) := by exact agQ) (hy : rd n e y = v := by rfl) (hv : v.cells.toList = vs := by rfl)
   (hk : vs.length = k := by rfl) (h1 : vs.all (·.oneCell') = true := by rfl) (hfit : o + k ≤ cs.length := by exact lb rfl) (hc : cs.take o ++ vs ++ cs.drop (o + k) = cs' := by rfl) (hiz : z ≤ i := by decide)
   (hl : ((List.range listed.size).all fun k => Nat.ble z k || listed.getD k true) = true := by kernel_rfl) : JX P ops Q n w0 D M z fuel listed L e i := jf j cs' h hi hL hx hy hv hk h1 hfit hc hiz hl
theorem JX.sy (cs' : List Value) [hs : TyS P t k] (h : JQ Q .normal n w0 D (L.set j (bk b ty' cs')) e) (hi : ops[i]? = some ⟨none, .store t x y, ty, pos, aft, none⟩ := by rfl)
   (hx : rd n e x = .pointer (some ⟨b, o, none⟩) := by rfl) (hL : L[j]? = some (bk b ty' cs) := by exact agQ) (hy : rd n e y = v := by rfl) (hv : v.cells.toList = vs := by rfl)
   (hk : vs.length = k := by rfl) (h1 : vs.all (·.oneCell') = true := by rfl) (hfit : o + k ≤ cs.length := by exact lb rfl) (hc : cs.take o ++ vs ++ cs.drop (o + k) = cs' := by rfl) (hiz : z ≤ i := by decide)
   (hr : Region.ready .any ops (listed.setIfInBounds i true) = [] := by kernel_rfl) : JX P ops Q n w0 D M z fuel listed L e i := jS j cs' h hi hL hx hy hv hk h1 hfit hc hiz hr
theorem pa_nil : pickA [] L = [] := rfl
theorem pa_cons {is : List Nat} {r : Res} {A : List Res} (h : L[i]? = some r) (t : pickA is (L.eraseIdx i) = A) : pickA (i :: is) L = r :: A := by simp [pickA, h, t]
theorem pa_go {is : List Nat} {A : List Res} (h : pickA is L = A := by (repeat (first | exact pa_nil | (apply pa_cons; exact agQ)))) : pickA is L = A := h
theorem JQ.cq {is : List Nat} {I : Env → List Res → Prop} {A : List Res} (h : I e A) (hp : pickA is L = A := by exact pa_go) (ho : okP is L = true := by kernel_rfl) : JQ (Cut n w0 D I) .normal n w0 D L e := jh is h hp ho
theorem cloJ {q : Exit} (A : List RD) (is : List Nat) {F : List Res} (h : JQ Q q n w0 D (.rows A :: F) e) (hp : pick is L = some (A.map RD.res, F) := by rfl) : JQ Q q n w0 D L e := jw (fun _ hw => hw.closeR is hp) h
theorem St.sg {a : Option Addr} {m m' c : Nat} (hw : St w0 D L w) (hL : L[i]? = some (.row (.slice a m c) t k m' cs) := by exact agQ) : Sees w (.slice a m c) k m' cs := hw.see hL
theorem St.sr {rs : List RD} (hw : St w0 D L w) (hL : L[i]? = some (.rows rs) := by exact agQ) : SeesA w rs := hw.seeRows i hL
end
attribute [local irreducible] JL JC JQ JO LO PO JA JX Ct

set_option maxRecDepth 4000 in
theorem Y_iTxSteps (p : TX) (hl : p.t.lim 1000000000) :
   Ct Tryz.prog 48 [.agg #[.int .i64 p.t.id, .int .i64 p.t.age, .int .i64 p.t.proc, .int .i64 p.t.began, .slice p.x.a0 p.t.calls.length p.x.c0, .slice p.x.a1 p.t.ans.length p.x.c1, .slice p.x.a2 p.t.rd.length p.x.c2, .slice p.x.a3 p.t.wr.length p.x.c3, .slice p.x.a4 p.t.marks.length p.x.c4, .int .i64 p.t.state]] [] (fun w => SeesA w (rdsX p)) (fun v A' => ∃ a c, v = .slice a (stepsOf p.t).length c ∧ A' = [Res.row (.slice a ((stepsOf p.t).length) c) 45 7 ((stepsOf p.t).length) ((stepsOf p.t).flatMap encP)]) := by
 refine Ct.intro Tryz.func48 rfl Tryz.ntmps48 (lb rfl) fun w0 hpre => ?_
 obtain ⟨hs_1, hs_2, hs_3, hs_4, hs_5⟩ := seesX hpre
 have hlp := hl
 obtain ⟨hl0_, hl1_, hl2_, hl3_, hl4_⟩ := id hl
 refine go ?_
 refine jM (xc p) fun b_6 => ?_
 refine go ?_
 refine JC.nilRow 45 7 ?_
 refine jL (fun k_ e_ L_ => ∃ j_ : Nat, ∃ oa : Option Addr, ∃ oc : Nat, ∃ o_ : List SP, (j_ ≤ p.t.calls.length) ∧ (o_.length = j_) ∧ (o_ = (p.t.calls.take j_).map fun c => (⟨p.t.proc, c⟩ : SP)) ∧ EL e_ [(1, .pointer (some ⟨b_6, 0, none⟩)), (2, .slice none 0 0), (3, .slice oa o_.length oc), (7, .slice p.x.a0 p.t.calls.length p.x.c0), (8, nv p.t.calls.length), (9, nv j_)] ∧ L_ = [Res.row (.slice oa o_.length oc) 45 7 o_.length (o_.flatMap encP), bk b_6 35 (xc p)] ∧ k_ = p.t.calls.length - j_) _ ⟨0, none, 0, ([] : List SP), by omega, rfl, rfl, EL.go, rfl, rfl⟩ ?_
 rintro _ _ _ ⟨j_, oa, oc, o_, hj, hol, ho, ⟨_, rfl⟩, rfl, rfl⟩
 refine go ?_
 by_cases h_7 : ((j_ : Nat) : Int) < ((p.t.calls.length : Nat) : Int)
 · have hlt : j_ < p.t.calls.length := by omega
   refine go ?_
   obtain ⟨hr_8, hr_8b, -⟩ := sees_some hs_1 (by omega)
   refine go ?_
   refine jU (jj (vs := [iv (p.t.calls.getD j_ k0).kind, str (p.t.calls.getD j_ k0).name, str (p.t.calls.getD j_ k0).to_, iv (p.t.calls.getD j_ k0).a, iv (p.t.calls.getD j_ k0).b, str (p.t.calls.getD j_ k0).text]) hs_1 nM rfl ki kX (flat_take encK_len k0 p.t.calls j_ (by omega)) rfl (by decide)) ?_
   refine jG [iv 0, str [], str [], iv 0, iv 0, str []] fun b_9 => ?_
   refine jD 0 [iv (p.t.calls.getD j_ k0).kind, str (p.t.calls.getD j_ k0).name, str (p.t.calls.getD j_ k0).to_, iv (p.t.calls.getD j_ k0).a, iv (p.t.calls.getD j_ k0).b, str (p.t.calls.getD j_ k0).text] ?_
   refine go ?_
   refine jK (je (ps := [(0, iv p.t.proc), (1, .agg #[iv (p.t.calls.getD j_ k0).kind, str (p.t.calls.getD j_ k0).name, str (p.t.calls.getD j_ k0).to_, iv (p.t.calls.getD j_ k0).a, iv (p.t.calls.getD j_ k0).b, str (p.t.calls.getD j_ k0).text])]) (cs := [iv p.t.proc, iv (p.t.calls.getD j_ k0).kind, str (p.t.calls.getD j_ k0).name, str (p.t.calls.getD j_ k0).to_, iv (p.t.calls.getD j_ k0).a, iv (p.t.calls.getD j_ k0).b, str (p.t.calls.getD j_ k0).text]) rfl (by kernel_rfl)) ?_
   refine jF rfl (jR (ps := [(0, .agg #[iv p.t.proc, iv (p.t.calls.getD j_ k0).kind, str (p.t.calls.getD j_ k0).name, str (p.t.calls.getD j_ k0).to_, iv (p.t.calls.getD j_ k0).a, iv (p.t.calls.getD j_ k0).b, str (p.t.calls.getD j_ k0).text])]) (cur := #[iv p.t.proc, iv (p.t.calls.getD j_ k0).kind, str (p.t.calls.getD j_ k0).name, str (p.t.calls.getD j_ k0).to_, iv (p.t.calls.getD j_ k0).a, iv (p.t.calls.getD j_ k0).b, str (p.t.calls.getD j_ k0).text]) kh ks Tryz.zeroValue45 rfl (by kernel_rfl) (by decide) (by decide)) ?_
   rintro _ _ ⟨a_10, rfl, rfl⟩
   refine jF rfl (jX 2 (q := 1) (news := ([(⟨p.t.proc, (p.t.calls.getD j_ k0)⟩ : SP)] : List SP).flatMap encP) (n' := (o_ ++ ([(⟨p.t.proc, (p.t.calls.getD j_ k0)⟩ : SP)] : List SP)).length) (cs' := (o_ ++ ([(⟨p.t.proc, (p.t.calls.getD j_ k0)⟩ : SP)] : List SP)).flatMap encP) rfl kh kh Tryz.typeInfo45 rfl (by' := 80) rfl rfl rfl rfl rfl (fun w hw => Src.sees (hw.see (i := 0) rfl) (oneP _)) (by (try simp only [LE]); omega) (by (try simp only [LE]); omega) (by simp only [List.length_append, List.length_take, List.length_drop, List.length_cons, List.length_nil] <;> first | rfl | omega) (by simp only [List.flatMap_append])) ?_
   rintro _ _ ⟨a_11, c_12, rfl, rfl⟩
   refine go ?_
   exact jP [2, 2] ⟨j_ + 1, a_11, c_12, (o_ ++ ([(⟨p.t.proc, (p.t.calls.getD j_ k0)⟩ : SP)] : List SP)), by omega, (by rw [List.length_append, hol]; rfl), (by rw [take_at (getD_some (d := k0) hlt), List.map_append, ← ho]; rfl), EL.go, rfl, rfl⟩
 refine go ?_
 refine jE (.inl rfl) rfl (jC (v := .slice oa o_.length oc) rfl) (tS 1 _) ?_
 have he : o_ = stepsOf p.t := by rw [ho, List.take_of_length_le (by omega)]; rfl
 exact ⟨oa, oc, by rw [he], by rw [he] <;> rfl⟩

set_option maxRecDepth 4000 in
theorem Y_iTxView (p : TX) (hl : p.t.lim 500000000) (sa : Option Addr) (sc : Nat) (s : List Cell) (n : Nat) (hO : okC' n 1048576 s) (hn : n ≤ 28000000) (hc : okT p.t) (hg : gro n p.t.calls.length ≤ 28000000) (hgT : groT n 0 p.t.calls.length ≤ 1000000000) :
   Ct Tryz.prog 19 [.slice sa s.length sc, .agg #[.int .i64 p.t.id, .int .i64 p.t.age, .int .i64 p.t.proc, .int .i64 p.t.began, .slice p.x.a0 p.t.calls.length p.x.c0, .slice p.x.a1 p.t.ans.length p.x.c1, .slice p.x.a2 p.t.rd.length p.x.c2, .slice p.x.a3 p.t.wr.length p.x.c3, .slice p.x.a4 p.t.marks.length p.x.c4, .int .i64 p.t.state]] [] (fun w => Sees w (.slice sa s.length sc) 2 s.length (s.flatMap encC) ∧ SeesA w (rdsX p) ∧ HexOk w) (fun v A' => ∃ a c v', viewA s p.t = v' ∧ okC' (gro n p.t.calls.length) 1048576 v' ∧ v = .slice a v'.length c ∧ A' = [rC a c v']) := by
 refine Ct.introL Tryz.func19 rfl Tryz.ntmps19 (lb rfl) fun w0 hpre hlow => ?_
 have hs_s : Sees w0 _ _ _ _ := hpre.1
 have hl := hl.mono (show 500000000 ≤ 1000000000 by decide)
 obtain ⟨hs_1, hs_2, hs_3, hs_4, hs_5⟩ := seesX hpre.2.1
 have hlp := hl
 obtain ⟨hl0_, hl1_, hl2_, hl3_, hl4_⟩ := id hl
 have hO1 := hO.1
 have hsl : (stepsOf p.t).length = p.t.calls.length := List.length_map _
 have hsP := okSteps_of hc
 have hcp := hc.pr
 have hcn := hc.n
 refine go ?_
 refine jM (xc p) fun b_6 => ?_
 refine go ?_
 refine jA [] (Y_iTxSteps p hlp) (hpre := fun w hw => hw.seeOutA hpre.2.1 nMA) ?_
 rintro _ _ ⟨a_7, c_8, rfl, rfl⟩
 refine jA [] (I_serialRun sa sc s a_7 c_8 (stepsOf p.t) (by have hl_ := (hO).1; omega) (by omega) hO (by omega) hsP (gro n) (run_gro1 hO.1 p.t) (fun j hj => Nat.le_trans (gro_le n hj) (by rw [hsl]; exact hg)) (by rw [hsl]; exact hgT)) (hpre := fun w hw => ⟨hw.seeOut_ hs_s nM, hw.see (i := 0) rfl, hw.hex hlow hpre.2.2⟩) ?_
 rintro _ _ ⟨x_9, m_10, a_11, c_12, o_13, e_14, k_15, hl_16, rfl, rfl⟩
 refine go ?_
 exact jJ [0] ⟨x_9.a0, x_9.c0, m_10.s, (show viewA s p.t = _ by unfold viewA; rw [e_14]), (by rw [hsl] at *; exact k_15.okC'), rfl, rfl⟩

set_option maxRecDepth 4000 in
theorem Y_sTxSteps (p : TX) (hl : p.t.lim 1000000000) :
   Ct Tryz.prog 49 [.agg #[.int .i64 p.t.id, .int .i64 p.t.age, .int .i64 p.t.proc, .int .i64 p.t.began, .slice p.x.a0 p.t.calls.length p.x.c0, .slice p.x.a1 p.t.ans.length p.x.c1, .slice p.x.a2 p.t.rd.length p.x.c2, .slice p.x.a3 p.t.wr.length p.x.c3, .slice p.x.a4 p.t.marks.length p.x.c4, .int .i64 p.t.state]] [] (fun w => SeesA w (rdsX p)) (fun v A' => ∃ a c, v = .slice a (stepsOf p.t).length c ∧ A' = [Res.row (.slice a ((stepsOf p.t).length) c) 45 7 ((stepsOf p.t).length) ((stepsOf p.t).flatMap encP)]) := by
 refine Ct.intro Tryz.func49 rfl Tryz.ntmps49 (lb rfl) fun w0 hpre => ?_
 obtain ⟨hs_1, hs_2, hs_3, hs_4, hs_5⟩ := seesX hpre
 have hlp := hl
 obtain ⟨hl0_, hl1_, hl2_, hl3_, hl4_⟩ := id hl
 refine go ?_
 refine jM (xc p) fun b_6 => ?_
 refine go ?_
 refine jF rfl (jR (ps := []) (cur := #[]) kh ks Tryz.zeroValue45 rfl (by kernel_rfl) (by decide) (by decide)) ?_
 rintro _ _ ⟨a_7, rfl, rfl⟩
 refine go ?_
 refine jL (fun k_ e_ L_ => ∃ j_ : Nat, ∃ oa : Option Addr, ∃ oc : Nat, ∃ o_ : List SP, (j_ ≤ p.t.calls.length) ∧ (o_.length = j_) ∧ (o_ = (p.t.calls.take j_).map fun c => (⟨p.t.proc, c⟩ : SP)) ∧ EL e_ [(1, .pointer (some ⟨b_6, 0, none⟩)), (2, .slice none 0 0), (3, .slice oa o_.length oc), (4, nv j_)] ∧ L_ = [Res.row (.slice oa o_.length oc) 45 7 o_.length (o_.flatMap encP), bk b_6 35 (xc p)] ∧ k_ = p.t.calls.length - j_) _ ⟨0, a_7, 0, ([] : List SP), by omega, rfl, rfl, EL.go, rfl, rfl⟩ ?_
 rintro _ _ _ ⟨j_, oa, oc, o_, hj, hol, ho, ⟨_, rfl⟩, rfl, rfl⟩
 refine go ?_
 by_cases h_8 : ((j_ : Nat) : Int) < ((p.t.calls.length : Nat) : Int)
 · have hlt : j_ < p.t.calls.length := by omega
   refine go ?_
   refine jH [1] 11 ?_
   refine go ?_
   obtain ⟨hr_9, hr_9b, -⟩ := sees_some hs_1 (by omega)
   refine go ?_
   refine jk 7 rfl (jj (vs := [iv (p.t.calls.getD j_ k0).kind, str (p.t.calls.getD j_ k0).name, str (p.t.calls.getD j_ k0).to_, iv (p.t.calls.getD j_ k0).a, iv (p.t.calls.getD j_ k0).b, str (p.t.calls.getD j_ k0).text]) hs_1 nM rfl ki kX (flat_take encK_len k0 p.t.calls j_ (by omega)) rfl (by decide)) <| jd 8 rfl (je (ps := [(0, iv p.t.proc), (1, .agg #[iv (p.t.calls.getD j_ k0).kind, str (p.t.calls.getD j_ k0).name, str (p.t.calls.getD j_ k0).to_, iv (p.t.calls.getD j_ k0).a, iv (p.t.calls.getD j_ k0).b, str (p.t.calls.getD j_ k0).text])]) (cs := [iv p.t.proc, iv (p.t.calls.getD j_ k0).kind, str (p.t.calls.getD j_ k0).name, str (p.t.calls.getD j_ k0).to_, iv (p.t.calls.getD j_ k0).a, iv (p.t.calls.getD j_ k0).b, str (p.t.calls.getD j_ k0).text]) rfl (by kernel_rfl)) ?_
   refine jB (i := 9) ?_
   refine ja rfl rfl (jR (ps := [(0, .agg #[iv p.t.proc, iv (p.t.calls.getD j_ k0).kind, str (p.t.calls.getD j_ k0).name, str (p.t.calls.getD j_ k0).to_, iv (p.t.calls.getD j_ k0).a, iv (p.t.calls.getD j_ k0).b, str (p.t.calls.getD j_ k0).text])]) (cur := #[iv p.t.proc, iv (p.t.calls.getD j_ k0).kind, str (p.t.calls.getD j_ k0).name, str (p.t.calls.getD j_ k0).to_, iv (p.t.calls.getD j_ k0).a, iv (p.t.calls.getD j_ k0).b, str (p.t.calls.getD j_ k0).text]) kh ks Tryz.zeroValue45 rfl (by kernel_rfl) (by decide) (by decide)) ?_
   rintro _ _ ⟨a_11, rfl, rfl⟩
   refine ⟨all_go, ?_⟩
   refine jB (i := 10) ?_
   refine ja rfl rfl (jX 1 (q := 1) (news := ([(⟨p.t.proc, (p.t.calls.getD j_ k0)⟩ : SP)] : List SP).flatMap encP) (n' := (o_ ++ ([(⟨p.t.proc, (p.t.calls.getD j_ k0)⟩ : SP)] : List SP)).length) (cs' := (o_ ++ ([(⟨p.t.proc, (p.t.calls.getD j_ k0)⟩ : SP)] : List SP)).flatMap encP) rfl kh kh Tryz.typeInfo45 rfl (by' := 80) rfl rfl rfl rfl rfl (fun w hw => Src.sees (hw.see (i := 0) rfl) (oneP _)) (by (try simp only [LE]); omega) (by (try simp only [LE]); omega) (by simp only [List.length_append, List.length_take, List.length_drop, List.length_cons, List.length_nil] <;> first | rfl | omega) (by simp only [List.flatMap_append])) ?_
   rintro _ _ ⟨a_14, c_15, rfl, rfl⟩
   refine ⟨all_go, ?_⟩
   refine go ?_
   exact jP [1, 1] ⟨j_ + 1, a_14, c_15, (o_ ++ ([(⟨p.t.proc, (p.t.calls.getD j_ k0)⟩ : SP)] : List SP)), by omega, (by rw [List.length_append, hol]; rfl), (by rw [take_at (getD_some (d := k0) hlt), List.map_append, ← ho]; rfl), EL.go, rfl, rfl⟩
 refine go ?_
 refine jE (.inl rfl) rfl (jC (v := .slice oa o_.length oc) rfl) (tS 1 _) ?_
 have he : o_ = stepsOf p.t := by rw [ho, List.take_of_length_le (by omega)]; rfl
 exact ⟨oa, oc, by rw [he], by rw [he] <;> rfl⟩

set_option maxRecDepth 4000 in
theorem Y_sTxView (p : TX) (hl : p.t.lim 500000000) (sa : Option Addr) (sc : Nat) (s : List Cell) (n : Nat) (hO : okC' n 1048576 s) (hn : n ≤ 28000000) (hc : okT p.t) (hg : gro n p.t.calls.length ≤ 28000000) (hgT : groT n 0 p.t.calls.length ≤ 1000000000) :
   Ct Tryz.prog 16 [.slice sa s.length sc, .agg #[.int .i64 p.t.id, .int .i64 p.t.age, .int .i64 p.t.proc, .int .i64 p.t.began, .slice p.x.a0 p.t.calls.length p.x.c0, .slice p.x.a1 p.t.ans.length p.x.c1, .slice p.x.a2 p.t.rd.length p.x.c2, .slice p.x.a3 p.t.wr.length p.x.c3, .slice p.x.a4 p.t.marks.length p.x.c4, .int .i64 p.t.state]] [] (fun w => Sees w (.slice sa s.length sc) 2 s.length (s.flatMap encC) ∧ SeesA w (rdsX p)) (fun v A' => ∃ a c v', viewL s p.t = v' ∧ okC' (gro n p.t.calls.length) 1048576 v' ∧ v = .slice a v'.length c ∧ A' = [rC a c v']) := by
 refine Ct.intro Tryz.func16 rfl Tryz.ntmps16 (lb rfl) fun w0 hpre => ?_
 have hs_s : Sees w0 _ _ _ _ := hpre.1
 have hl := hl.mono (show 500000000 ≤ 1000000000 by decide)
 obtain ⟨hs_1, hs_2, hs_3, hs_4, hs_5⟩ := seesX hpre.2
 have hlp := hl
 obtain ⟨hl0_, hl1_, hl2_, hl3_, hl4_⟩ := id hl
 have hO1 := hO.1
 have hsl : (stepsOf p.t).length = p.t.calls.length := List.length_map _
 have hsP := okSteps_of hc
 have hcp := hc.pr
 have hcn := hc.n
 refine go ?_
 refine jM (xc p) fun b_6 => ?_
 refine go ?_
 refine jA [] (Y_sTxSteps p hlp) (hpre := fun w hw => hw.seeOutA hpre.2 nMA) ?_
 rintro _ _ ⟨a_7, c_8, rfl, rfl⟩
 refine jA [] (D_run15 sa sc s a_7 c_8 (stepsOf p.t) (by have hl_ := (hO).1; omega) (by omega) hO (by omega) hsP (gro n) (run_gro1 hO.1 p.t) (fun j hj => Nat.le_trans (gro_le n hj) (by rw [hsl]; exact hg)) (by rw [hsl]; exact hgT)) (hpre := fun w hw => ⟨hw.seeOut_ hs_s nM, hw.see (i := 0) rfl⟩) ?_
 rintro _ _ ⟨a_9, c_10, v_11, a_12, c_13, o_14, a_15, c_16, r_17, a_18, c_19, w_20, e_21, hO_22, hl_23, ht_24, rfl, rfl⟩
 refine go ?_
 refine jG [.slice none 0 0, .slice none 0 0] fun b_25 => ?_
 refine go ?_
 refine jD 0 [.slice a_15 r_17.length c_16, .slice a_18 w_20.length c_19] ?_
 refine go ?_
 exact jJ [1] ⟨a_9, c_10, v_11, (show viewL s p.t = _ by unfold viewL; rw [e_21]), (by rw [hsl] at *; exact hO_22), rfl, rfl⟩

set_option maxRecDepth 4000 in
theorem Y_sTxAsk (p : TX) (hl : p.t.lim 500000000) (sa : Option Addr) (sc : Nat) (s : List Cell) (n : Nat) (hO : okC' n 1048576 s) (hn : n ≤ 28000000) (hc : okT p.t) (hg0 : p.t.calls.length < 12 → gro n p.t.calls.length ≤ 28000000) (hgT0 : p.t.calls.length < 12 → groT n 0 p.t.calls.length ≤ 1000000000) (B : Nat) (hB : p.t.calls.length < 12 → 7 * gro n p.t.calls.length + 200 ≤ B) (c : CL) (hcc : c.ok 1048576) :
   Ct Tryz.prog 46 [.slice sa s.length sc, .agg #[.int .i64 p.t.id, .int .i64 p.t.age, .int .i64 p.t.proc, .int .i64 p.t.began, .slice p.x.a0 p.t.calls.length p.x.c0, .slice p.x.a1 p.t.ans.length p.x.c1, .slice p.x.a2 p.t.rd.length p.x.c2, .slice p.x.a3 p.t.wr.length p.x.c3, .slice p.x.a4 p.t.marks.length p.x.c4, .int .i64 p.t.state], .agg #[.int .i64 c.kind, str c.name, str c.to_, .int .i64 c.a, .int .i64 c.b, str c.text]] [] (fun w => Sees w (.slice sa s.length sc) 2 s.length (s.flatMap encC) ∧ SeesA w (rdsX p)) (fun v A' => ∃ (z : TX) (a : AN), TD.askV (viewL s p.t) p.t c = (z.t, a) ∧ ((0 ≤ a.code ∧ a.code ≤ 9) ∧ (-1 ≤ a.n ∧ a.n ≤ 1000000000) ∧ a.text.length ≤ 30000000000000) ∧ (z.t.rd.length ≤ p.t.rd.length + B ∧ z.t.wr.length ≤ p.t.wr.length + B) ∧ v = .tuple #[.agg #[.int .i64 z.t.id, .int .i64 z.t.age, .int .i64 z.t.proc, .int .i64 z.t.began, .slice z.x.a0 z.t.calls.length z.x.c0, .slice z.x.a1 z.t.ans.length z.x.c1, .slice z.x.a2 z.t.rd.length z.x.c2, .slice z.x.a3 z.t.wr.length z.x.c3, .slice z.x.a4 z.t.marks.length z.x.c4, .int .i64 z.t.state], .agg #[.int .i64 a.code, .int .i64 a.n, str a.text]] ∧ A' = [.rows (rdsX z)]) := by
 have hlv := hl
 refine Ct.intro Tryz.func46 rfl Tryz.ntmps46 (lb rfl) fun w0 hpre => ?_
 have hs_s : Sees w0 _ _ _ _ := hpre.1
 have hl := hl.mono (show 500000000 ≤ 1000000000 by decide)
 obtain ⟨hs_1, hs_2, hs_3, hs_4, hs_5⟩ := seesX hpre.2
 have hlp := hl
 obtain ⟨hl0_, hl1_, hl2_, hl3_, hl4_⟩ := id hl
 have hO1 := hO.1
 have hsl : (stepsOf p.t).length = p.t.calls.length := List.length_map _
 have hsP := okSteps_of hc
 have hcp := hc.pr
 have hcn := hc.n
 obtain ⟨hc1, hc2, hc3, hc4, hc5, hc6⟩ := id hcc
 refine go ?_
 refine jM (xc p) fun b_6 => ?_
 refine jM [iv c.kind, str c.name, str c.to_, iv c.a, iv c.b, str c.text] fun b_7 => ?_
 refine jG xzc fun b_8 => ?_
 refine jG [iv 0, iv 0, str []] fun b_9 => ?_
 refine go ?_
 refine jA [] (Z_specl17Copy p hlp) (hpre := fun w hw => hw.seeOutA hpre.2 nMA) ?_
 rintro _ _ ⟨y_10, hy_11, rfl, rfl⟩
 refine jD 4 (xc y_10) ?_
 refine go ?_
 have hst : y_10.t.state = p.t.state := congrArg TD.state hy_11
 have hcl : y_10.t.calls.length = p.t.calls.length := by rw [hy_11]
 have hpr : y_10.t.proc = p.t.proc := congrArg TD.proc hy_11
 have hgy : gro n y_10.t.calls.length = gro n p.t.calls.length := by rw [hcl]
 refine go ?_
 by_cases h_12 : y_10.t.state = 1
 · refine go ?_
   by_cases h_13 : 12 ≤ ((y_10.t.calls.length : Nat) : Int)
   · refine go ?_
     refine jK (je (ps := [(0, iv 3)]) (cs := [iv 3, iv 0, str []]) rfl (by kernel_rfl)) ?_
     refine jD 2 (xc y_10) ?_
     refine jD 1 [iv 3, iv 0, str []] ?_
     refine go ?_
     refine ji (.inl rfl) rfl (js (jl 2 (vs := (xc y_10)) rfl rfl kT kQ rfl rfl) ⟨_, rfl⟩) (js (jl 1 (vs := [iv 3, iv 0, str []]) rfl rfl kp kY rfl rfl) ⟨_, rfl⟩) (tS 1 _) ?_
     have hm : TD.askV (viewL s p.t) p.t c = (p.t, (⟨3, 0, []⟩ : AN)) := by first | exact askV_off (by omega) | exact askV_full (by omega) (by omega)
     exact ⟨y_10, (⟨3, 0, []⟩ : AN), by rw [hm, hy_11], (by (try dsimp only); (try simp only [List.length_nil]); omega), (by rw [hy_11]; omega), rfl, rfl⟩
   refine go ?_
   have hg := hg0 (by omega)
   have hgT := hgT0 (by omega)
   have hB_ := hB (by omega)
   refine JC.cut (fun e_ L_ => ∃ a_14 : Option Addr, ∃ c_15 : Nat, ∃ v_16 : List Cell, ∃ x_19 : MA, ∃ m_20 : MS, ∃ A_21 : AN, ∃ b_25 : Nat, ∃ b_26 : Nat, (viewL s y_10.t = v_16) ∧ (okC' (gro (n) y_10.t.calls.length) 1048576 v_16) ∧ ((⟨v_16, [], []⟩ : MS).doCall y_10.t.proc c = (m_20, A_21)) ∧ (m_20.ok (3 * (gro (n) y_10.t.calls.length) + 20) (7 * (gro (n) y_10.t.calls.length) + 200)) ∧ ((0 ≤ A_21.code ∧ A_21.code ≤ 9) ∧ (-1 ≤ A_21.n ∧ A_21.n ≤ 1000000000) ∧ A_21.text.length ≤ 30000000000000) ∧ EL e_ [(4, .pointer (some ⟨b_6, 0, none⟩)), (5, .pointer (some ⟨b_7, 0, none⟩)), (6, .pointer (some ⟨b_8, 0, none⟩)), (7, .pointer (some ⟨b_9, 0, none⟩)), (9, .pointer (some ⟨b_25, 0, none⟩)), (10, .pointer (some ⟨b_26, 0, none⟩))] ∧ L_ = [bk b_26 32 [.slice x_19.a1 m_20.r.length x_19.c1, .slice x_19.a2 m_20.w.length x_19.c2], bk b_25 39 [iv A_21.code, iv A_21.n, str A_21.text], rC x_19.a0 x_19.c0 m_20.s, rS x_19.a1 x_19.c1 m_20.r, rS x_19.a2 x_19.c2 m_20.w, rC a_14 c_15 v_16, Res.rows (rdsX y_10), bk b_9 39 [iv 0, iv 0, str []], bk b_8 35 xzc, bk b_7 43 [iv c.kind, str c.name, str c.to_, iv c.a, iv c.b, str c.text], bk b_6 35 (xc y_10)]) ?_ ?_
   · have hg := hg0 (by omega)
     have hgT := hgT0 (by omega)
     have hB_ := hB (by omega)
     refine jH [3, 3] 13 ?_
     refine go ?_
     repeat' first
       | refine kD (i := 2) (j := 11) (k := 12) (by decide +kernel) ?_ ?_ ?_
       | refine kD (i := 6) (j := 11) (k := 12) (by decide +kernel) ?_ ?_ ?_
       | refine jZ (i := 11) (j := 12) (by decide +kernel) ?_ ?_
       | refine jB (i := 12) ?_ (by decide +kernel)
       | refine jB (i := 14) ?_ (by decide +kernel)
       | refine jB (i := 15) ?_ (by decide +kernel)
       | refine jB (i := 11) ?_ (by decide +kernel)
       | refine jZ (i := 6) (j := 12) (by decide +kernel) ?_ ?_
       | refine jB (i := 6) ?_ (by decide +kernel)
       | refine jZ (i := 6) (j := 11) (by decide +kernel) ?_ ?_
       | refine jZ (i := 2) (j := 12) (by decide +kernel) ?_ ?_
       | refine jB (i := 2) ?_ (by decide +kernel)
       | refine jZ (i := 2) (j := 11) (by decide +kernel) ?_ ?_
       | (refine jI (i := 2) [] (Y_sTxView y_10 (by rw [hy_11]; exact hlv) sa sc s n hO (by omega) (by rw [hy_11]; exact hc) (by rw [hy_11]; exact hg) (by rw [hy_11]; exact hgT)) (hpre := fun w hw => ⟨hw.seeOut_ hs_s nM, hw.sr⟩) ?_; rintro _ _ ⟨a_49, c_50, v_51, e_52, hO_53, rfl, rfl⟩)
       | (refine jI (i := 6) [] (D_callOn a_49 c_50 v_51 y_10.t.proc c (by have hl_ := (hO_53).1; omega) (by omega) hcc hO_53 (by omega)) (hpre := fun w hw => hw.sg) ?_; rintro _ _ ⟨x_62, m_63, A_64, e_65, k_66, f_67, rfl, rfl⟩; refine go ?_)
       | (refine JX.al (i := 11) [iv 0, iv 0, str []] fun b_70 => ?_; refine go ?_)
       | (refine JX.al (i := 12) [.slice none 0 0, .slice none 0 0] fun b_72 => ?_; refine go ?_)
       | (refine JX.sx (i := 14) [iv A_64.code, iv A_64.n, str A_64.text] ?_)
       | (refine JX.sy (i := 15) [.slice x_62.a1 m_63.r.length x_62.c1, .slice x_62.a2 m_63.w.length x_62.c2] ?_)
       | exact JQ.cq ⟨a_49, c_50, v_51, x_62, m_63, A_64, b_70, b_72, e_52, hO_53, e_65, k_66, f_67, EL.go, rfl⟩
   rintro _ _ ⟨a_14, c_15, v_16, x_19, m_20, A_21, b_25, b_26, e_17, hO_18, e_22, k_23, f_24, ⟨_, rfl⟩, rfl⟩
   refine jT <| jc ?_
   refine JC.ghost (L' := [Res.row (.slice y_10.x.a0 y_10.t.calls.length y_10.x.c0) 43 6 y_10.t.calls.length (y_10.t.calls.flatMap encK), Res.row (.slice y_10.x.a1 y_10.t.ans.length y_10.x.c1) 39 3 y_10.t.ans.length (y_10.t.ans.flatMap encA), rS y_10.x.a2 y_10.x.c2 y_10.t.rd, rS y_10.x.a3 y_10.x.c3 y_10.t.wr, rI y_10.x.a4 y_10.x.c4 y_10.t.marks, bk b_26 32 [.slice x_19.a1 m_20.r.length x_19.c1, .slice x_19.a2 m_20.w.length x_19.c2], bk b_25 39 [iv A_21.code, iv A_21.n, str A_21.text], rC x_19.a0 x_19.c0 m_20.s, rS x_19.a1 x_19.c1 m_20.r, rS x_19.a2 x_19.c2 m_20.w, rC a_14 c_15 v_16, bk b_9 39 [iv 0, iv 0, str []], bk b_8 35 xzc, bk b_7 43 [iv c.kind, str c.name, str c.to_, iv c.a, iv c.b, str c.text], bk b_6 35 (xc y_10)]) (fun w hw => hw.openR 6 rfl) ?_
   refine JC.pk [5, 5, 9, 9, 9, 9, 0, 0, 0, 0, 0, 1, 1] ?_
   have hl_calls : y_10.t.calls.length = p.t.calls.length := by rw [hy_11]
   have hl_ans : y_10.t.ans.length = p.t.ans.length := by rw [hy_11]
   have hl_rd : y_10.t.rd.length = p.t.rd.length := by rw [hy_11]
   have hl_wr : y_10.t.wr.length = p.t.wr.length := by rw [hy_11]
   refine go ?_
   refine jF rfl (jR (ps := [(0, .agg #[iv c.kind, str c.name, str c.to_, iv c.a, iv c.b, str c.text])]) (cur := #[iv c.kind, str c.name, str c.to_, iv c.a, iv c.b, str c.text]) kf kX Tryz.zeroValue43 rfl (by kernel_rfl) (by decide) (by decide)) ?_
   rintro _ _ ⟨a_260, rfl, rfl⟩
   refine jF rfl (jX 7 (q := 1) (news := ([c] : List CL).flatMap encK) (n' := (y_10.t.calls ++ ([c] : List CL)).length) (cs' := (y_10.t.calls ++ ([c] : List CL)).flatMap encK) rfl kf kf Tryz.typeInfo43 rfl (by' := 72) rfl rfl rfl rfl rfl (fun w hw => Src.sees (hw.see (i := 0) rfl) (oneK _)) (by (try simp only [LE]); omega) (by (try simp only [LE]); omega) (by simp only [List.length_append, List.length_take, List.length_drop, List.length_cons, List.length_nil] <;> first | rfl | omega) (by simp only [List.flatMap_append])) ?_
   rintro _ _ ⟨a_261, c_262, rfl, rfl⟩
   refine go ?_
   refine jD 6 [iv y_10.t.id, iv y_10.t.age, iv y_10.t.proc, iv y_10.t.began, .slice a_261 (y_10.t.calls ++ ([c] : List CL)).length c_262, .slice y_10.x.a1 y_10.t.ans.length y_10.x.c1, .slice y_10.x.a2 y_10.t.rd.length y_10.x.c2, .slice y_10.x.a3 y_10.t.wr.length y_10.x.c3, .slice y_10.x.a4 y_10.t.marks.length y_10.x.c4, iv y_10.t.state] ?_
   refine go ?_
   refine jF rfl (jR (ps := [(0, .agg #[iv A_21.code, iv A_21.n, str A_21.text])]) (cur := #[iv A_21.code, iv A_21.n, str A_21.text]) ke kY Tryz.zeroValue39 rfl (by kernel_rfl) (by decide) (by decide)) ?_
   rintro _ _ ⟨a_263, rfl, rfl⟩
   refine jF rfl (jX 9 (q := 1) (news := ([A_21] : List AN).flatMap encA) (n' := (y_10.t.ans ++ ([A_21] : List AN)).length) (cs' := (y_10.t.ans ++ ([A_21] : List AN)).flatMap encA) rfl ke ke Tryz.typeInfo39 rfl (by' := 32) rfl rfl rfl rfl rfl (fun w hw => Src.sees (hw.see (i := 0) rfl) (oneA _)) (by (try simp only [LE]); omega) (by (try simp only [LE]); omega) (by simp only [List.length_append, List.length_take, List.length_drop, List.length_cons, List.length_nil] <;> first | rfl | omega) (by simp only [List.flatMap_append])) ?_
   rintro _ _ ⟨a_264, c_265, rfl, rfl⟩
   refine go ?_
   refine jD 7 [iv y_10.t.id, iv y_10.t.age, iv y_10.t.proc, iv y_10.t.began, .slice a_261 (y_10.t.calls ++ ([c] : List CL)).length c_262, .slice a_264 (y_10.t.ans ++ ([A_21] : List AN)).length c_265, .slice y_10.x.a2 y_10.t.rd.length y_10.x.c2, .slice y_10.x.a3 y_10.t.wr.length y_10.x.c3, .slice y_10.x.a4 y_10.t.marks.length y_10.x.c4, iv y_10.t.state] ?_
   refine go ?_
   have hkr := k_23.2.1
   have hkw := k_23.2.2.1
   refine go ?_
   refine jA [] (C_joinTouch y_10.x.a2 y_10.x.a3 x_19.a1 x_19.a2 y_10.x.c2 y_10.x.c3 x_19.c1 x_19.c2 y_10.t.rd y_10.t.wr m_20.r m_20.w (by omega) (by omega) (by (try simp only [List.length_nil]); omega) (by (try simp only [List.length_nil]); omega)) (hpre := fun w hw => ⟨hw.see (i := 10) rfl, hw.see (i := 11) rfl, hw.see (i := 13) rfl, hw.see (i := 14) rfl⟩) ?_
   rintro _ _ ⟨a_266, c_267, a_268, c_269, rfl, rfl⟩
   refine go ?_
   refine jD 9 [iv y_10.t.id, iv y_10.t.age, iv y_10.t.proc, iv y_10.t.began, .slice a_261 (y_10.t.calls ++ ([c] : List CL)).length c_262, .slice a_264 (y_10.t.ans ++ ([A_21] : List AN)).length c_265, .slice a_266 (m_20.r.foldl addSpan y_10.t.rd).length c_267, .slice a_268 (m_20.w.foldl addSpan y_10.t.wr).length c_269, .slice y_10.x.a4 y_10.t.marks.length y_10.x.c4, iv y_10.t.state] ?_
   refine go ?_
   refine jH [5, 8] 3 ?_
   refine go ?_
   refine jB (i := 2) ?_
   refine jp 7 [iv y_10.t.id, iv y_10.t.age, iv y_10.t.proc, iv y_10.t.began, .slice a_261 (y_10.t.calls ++ ([c] : List CL)).length c_262, .slice a_264 (y_10.t.ans ++ ([A_21] : List AN)).length c_265, .slice a_266 (m_20.r.foldl addSpan y_10.t.rd).length c_267, .slice a_268 (m_20.w.foldl addSpan y_10.t.wr).length c_269, .slice y_10.x.a4 y_10.t.marks.length y_10.x.c4, iv y_10.t.state] ?_
   refine jB (i := 3) ?_
   refine jS 6 [iv A_21.code, iv A_21.n, str A_21.text] ?_
   refine jT <| jz ?_
   refine cloJ (rdsX (⟨⟨a_261, c_262, a_264, c_265, a_266, c_267, a_268, c_269, y_10.x.a4, y_10.x.c4⟩, ⟨y_10.t.id, y_10.t.age, y_10.t.proc, y_10.t.began, (y_10.t.calls ++ ([c] : List CL)), (y_10.t.ans ++ ([A_21] : List AN)), (m_20.r.foldl addSpan y_10.t.rd), (m_20.w.foldl addSpan y_10.t.wr), y_10.t.marks, y_10.t.state⟩⟩ : TX)) [10, 10, 0, 0, 10] <| ji (.inl rfl) rfl (js (jl 6 (vs := [iv y_10.t.id, iv y_10.t.age, iv y_10.t.proc, iv y_10.t.began, .slice a_261 (y_10.t.calls ++ ([c] : List CL)).length c_262, .slice a_264 (y_10.t.ans ++ ([A_21] : List AN)).length c_265, .slice a_266 (m_20.r.foldl addSpan y_10.t.rd).length c_267, .slice a_268 (m_20.w.foldl addSpan y_10.t.wr).length c_269, .slice y_10.x.a4 y_10.t.marks.length y_10.x.c4, iv y_10.t.state]) rfl rfl kT kQ rfl rfl) ⟨_, rfl⟩) (js (jl 5 (vs := [iv A_21.code, iv A_21.n, str A_21.text]) rfl rfl kp kY rfl rfl) ⟨_, rfl⟩) (tS 1 _) ?_
   have hv := e_17
   have hd := e_22
   try rw [hy_11] at hv
   try rw [hpr] at hd
   have hm : TD.askV (viewL s p.t) p.t c = ((⟨⟨a_261, c_262, a_264, c_265, a_266, c_267, a_268, c_269, y_10.x.a4, y_10.x.c4⟩, ⟨y_10.t.id, y_10.t.age, y_10.t.proc, y_10.t.began, (y_10.t.calls ++ ([c] : List CL)), (y_10.t.ans ++ ([A_21] : List AN)), (m_20.r.foldl addSpan y_10.t.rd), (m_20.w.foldl addSpan y_10.t.wr), y_10.t.marks, y_10.t.state⟩⟩ : TX).t, A_21) := by rw [askV_on (by omega) (by omega), hv, hd, ← hy_11]
   exact ⟨(⟨⟨a_261, c_262, a_264, c_265, a_266, c_267, a_268, c_269, y_10.x.a4, y_10.x.c4⟩, ⟨y_10.t.id, y_10.t.age, y_10.t.proc, y_10.t.began, (y_10.t.calls ++ ([c] : List CL)), (y_10.t.ans ++ ([A_21] : List AN)), (m_20.r.foldl addSpan y_10.t.rd), (m_20.w.foldl addSpan y_10.t.wr), y_10.t.marks, y_10.t.state⟩⟩ : TX), A_21, hm, (by omega), ⟨(by have h_ := foldSpan_len m_20.r y_10.t.rd; dsimp only; omega), (by have h_ := foldSpan_len m_20.w y_10.t.wr; dsimp only; omega)⟩, rfl, rfl⟩
 refine go ?_
 refine jK (je (ps := [(0, iv 2)]) (cs := [iv 2, iv 0, str []]) rfl (by kernel_rfl)) ?_
 refine jD 2 (xc y_10) ?_
 refine jD 1 [iv 2, iv 0, str []] ?_
 refine go ?_
 refine ji (.inl rfl) rfl (js (jl 2 (vs := (xc y_10)) rfl rfl kT kQ rfl rfl) ⟨_, rfl⟩) (js (jl 1 (vs := [iv 2, iv 0, str []]) rfl rfl kp kY rfl rfl) ⟨_, rfl⟩) (tS 1 _) ?_
 have hm : TD.askV (viewL s p.t) p.t c = (p.t, (⟨2, 0, []⟩ : AN)) := by first | exact askV_off (by omega) | exact askV_full (by omega) (by omega)
 exact ⟨y_10, (⟨2, 0, []⟩ : AN), by rw [hm, hy_11], (by (try dsimp only); (try simp only [List.length_nil]); omega), (by rw [hy_11]; omega), rfl, rfl⟩
end Go.Proofs.YthlfmbbaomdciaaGreatDoor
