/-
Texts of the walk, joined: what each one proves stands at its theorems.
-/
import Derived.Test.YthlfmbbaomdciaaGreatDoorB7DatTy
set_option linter.unusedSimpArgs false
set_option linter.unusedVariables false
set_option linter.unnecessarySimpa false
set_option maxHeartbeats 4000000
set_option maxRecDepth 4000
namespace Go.Proofs.YthlfmbbaomdciaaGreatDoor
open Go Go.RowKit
attribute [local irreducible] JL JC JQ JO LO PO JA JX Ct
theorem C_cloneTouch (a1 a2 : Option Addr) (c1 c2 : Nat) (r w : List Str) (hr : r.length ≤ 100000000000) (hw_ : w.length ≤ 100000000000) :
   Ct Tryz.prog 108 [.agg #[.slice a1 r.length c1, .slice a2 w.length c2]] [] (fun w_ => Sees w_ (.slice a1 r.length c1) 1 r.length (r.map str) ∧ Sees w_ (.slice a2 w.length c2) 1 w.length (w.map str)) (fun v A' => ∃ b1 d1 b2 d2, v = .agg #[.slice b1 r.length d1, .slice b2 w.length d2] ∧ A' = [.row (.slice b1 r.length d1) 9 1 r.length (r.map str), .row (.slice b2 w.length d2) 9 1 w.length (w.map str)]) := by
 refine Ct.intro Tryz.func108 rfl Tryz.ntmps108 (lb rfl) fun w0 hpre => ?_
 have hs_a1 : Sees w0 _ _ _ _ := hpre.1
 have hs_a2 : Sees w0 _ _ _ _ := hpre.2
 refine go ?_
 refine jM [.slice a1 r.length c1, .slice a2 w.length c2] fun b_1 => ?_
 refine jG [.slice none 0 0, .slice none 0 0] fun b_2 => ?_
 refine go ?_
 refine jH [0, 0] 7 ?_
 refine go ?_
 refine jB (i := 2) ?_
 refine jI [] (C_cloneS a1 c1 r (by omega)) (hpre := fun w hw => hw.seeOut_ hs_a1 nM) ?_
 rintro _ _ ⟨a_9, c_10, rfl, rfl⟩
 refine jB (i := 5) ?_
 refine jI [] (C_cloneS a2 c2 w (by omega)) (hpre := fun w hw => hw.seeOut_ hs_a2 nM) ?_
 rintro _ _ ⟨a_13, c_14, rfl, rfl⟩
 refine jd 6 rfl (je (ps := [(0, .slice a_9 r.length c_10), (1, .slice a_13 w.length c_14)]) (cs := [.slice a_9 r.length c_10, .slice a_13 w.length c_14]) rfl (by kernel_rfl)) ?_
 refine jB (i := 7) ?_
 refine jS 2 [.slice a_9 r.length c_10, .slice a_13 w.length c_14] ?_
 refine go ?_
 exact jJ [1, 0] ⟨_, _, _, _, rfl, rfl⟩

theorem C_cloneMach (a0 a1 a2 : Option Addr) (c0_ c1 c2 : Nat) (m : MS) (h0 : m.s.length ≤ 10000000000) (h1 : m.r.length ≤ 10000000000) (h2 : m.w.length ≤ 10000000000) :
   Ct Tryz.prog 121 [.agg #[.slice a0 m.s.length c0_, .slice a1 m.r.length c1, .slice a2 m.w.length c2]] [] (fun w_ => Sees w_ (.slice a0 m.s.length c0_) 2 m.s.length (m.s.flatMap encC) ∧ Sees w_ (.slice a1 m.r.length c1) 1 m.r.length (m.r.map str) ∧ Sees w_ (.slice a2 m.w.length c2) 1 m.w.length (m.w.map str)) (fun v A' => ∃ x0 y0 x1 y1 x2 y2, v = .agg #[.slice x0 m.s.length y0, .slice x1 m.r.length y1, .slice x2 m.w.length y2] ∧ A' = [.row (.slice x0 m.s.length y0) 130 2 m.s.length (m.s.flatMap encC), .row (.slice x1 m.r.length y1) 9 1 m.r.length (m.r.map str), .row (.slice x2 m.w.length y2) 9 1 m.w.length (m.w.map str)]) := by
 refine Ct.intro Tryz.func121 rfl Tryz.ntmps121 (lb rfl) fun w0 hpre => ?_
 have hs_a0 : Sees w0 _ _ _ _ := hpre.1
 have hs_a1 : Sees w0 _ _ _ _ := hpre.2.1
 have hs_a2 : Sees w0 _ _ _ _ := hpre.2.2
 refine go ?_
 refine jM [.slice a0 m.s.length c0_, .slice a1 m.r.length c1, .slice a2 m.w.length c2] fun b_1 => ?_
 refine jG zC fun b_2 => ?_
 refine go ?_
 refine jH [0, 0] 7 ?_
 refine go ?_
 refine jB (i := 2) ?_
 refine jI [] (C_cloneC a0 c0_ m.s (by omega)) (hpre := fun w hw => hw.seeOut_ hs_a0 nM) ?_
 rintro _ _ ⟨a_9, c_10, rfl, rfl⟩
 refine jB (i := 5) ?_
 refine jI [] (C_cloneTouch a1 a2 c1 c2 m.r m.w (by omega) (by omega)) (hpre := fun w hw => ⟨hw.seeOut_ hs_a1 nM, hw.seeOut_ hs_a2 nM⟩) ?_
 rintro _ _ ⟨a_15, c_16, a_17, c_18, rfl, rfl⟩
 refine jd 6 rfl (je (ps := [(0, .slice a_9 m.s.length c_10), (1, .agg #[.slice a_15 m.r.length c_16, .slice a_17 m.w.length c_18])]) (cs := [.slice a_9 m.s.length c_10, .slice a_15 m.r.length c_16, .slice a_17 m.w.length c_18]) rfl (by kernel_rfl)) ?_
 refine jB (i := 7) ?_
 refine jS 3 [.slice a_9 m.s.length c_10, .slice a_15 m.r.length c_16, .slice a_17 m.w.length c_18] ?_
 refine go ?_
 exact jJ [2, 0, 0] ⟨_, _, _, _, _, _, rfl, rfl⟩
theorem C_copy (a0 a1 a2 : Option Addr) (c0_ c1 c2 : Nat) (m : MS) (h0 : m.s.length ≤ 1000000000) (h1 : m.r.length ≤ 1000000000) (h2 : m.w.length ≤ 1000000000) :
   Ct Tryz.prog 124 [.agg #[.slice a0 m.s.length c0_, .slice a1 m.r.length c1, .slice a2 m.w.length c2]] [] (fun w_ => Sees w_ (.slice a0 m.s.length c0_) 2 m.s.length (m.s.flatMap encC) ∧ Sees w_ (.slice a1 m.r.length c1) 1 m.r.length (m.r.map str) ∧ Sees w_ (.slice a2 m.w.length c2) 1 m.w.length (m.w.map str)) (fun v A' => ∃ x0 y0 x1 y1 x2 y2, v = .agg #[.slice x0 m.s.length y0, .slice x1 m.r.length y1, .slice x2 m.w.length y2] ∧ A' = [Res.row (.slice x0 m.s.length y0) 130 2 m.s.length (m.s.flatMap encC), Res.row (.slice x1 m.r.length y1) 9 1 m.r.length (m.r.map str), Res.row (.slice x2 m.w.length y2) 9 1 m.w.length (m.w.map str)]) := by
 refine Ct.intro Tryz.func124 rfl Tryz.ntmps124 (lb rfl) fun w0 hpre => ?_
 have hs_a0 : Sees w0 _ _ _ _ := hpre.1
 have hs_a1 : Sees w0 _ _ _ _ := hpre.2.1
 have hs_a2 : Sees w0 _ _ _ _ := hpre.2.2
 refine go ?_
 refine jM [.slice a0 m.s.length c0_, .slice a1 m.r.length c1, .slice a2 m.w.length c2] fun b_1 => ?_
 refine jG zC fun b_2 => ?_
 refine go ?_
 refine jH [0, 0] 9 ?_
 refine go ?_
 refine jd 6 rfl (je (ps := []) (cs := [.slice none 0 0, .slice none 0 0]) rfl (by kernel_rfl)) ?_
 refine jB (i := 0) ?_
 refine ja rfl rfl (jR (ps := []) (cur := #[]) kK kP kq rfl (by kernel_rfl) (by decide) (by decide)) ?_
 rintro _ _ ⟨a_9, rfl, rfl⟩
 refine ⟨all_go, ?_⟩
 refine jB (i := 3) ?_
 refine ja rfl rfl (jX 0 (q := m.s.length) (news := m.s.flatMap encC) (n' := m.s.length) (cs' := m.s.flatMap encC) rfl kK kK ko rfl (by' := 32) rfl rfl rfl rfl rfl (fun w hw => Src.sees (hw.seeOut_ hs_a0 nM) (oneC _)) (by (try simp only [LE]); omega) (by (try simp only [LE]); omega) (by (try simp only [List.length_take, List.length_drop]); first | rfl | omega) rfl) ?_
 rintro _ _ ⟨a_12, c_13, rfl, rfl⟩
 refine ⟨all_go, ?_⟩
 refine jB (i := 7) ?_
 refine jI [] (C_joinTouch a1 a2 none none c1 c2 0 0 m.r m.w [] [] (by omega) (by omega) (by (try simp only [List.length_nil]); omega) (by (try simp only [List.length_nil]); omega)) (hpre := fun w hw => ⟨hw.seeOut_ hs_a1 nM, hw.seeOut_ hs_a2 nM, sees_nil _, sees_nil _⟩) ?_
 rintro _ _ ⟨a_18, c_19, a_20, c_21, rfl, rfl⟩
 refine jd 8 rfl (je (ps := [(0, .slice a_12 m.s.length c_13), (1, .agg #[.slice a_18 m.r.length c_19, .slice a_20 m.w.length c_21])]) (cs := [.slice a_12 m.s.length c_13, .slice a_18 m.r.length c_19, .slice a_20 m.w.length c_21]) rfl (by kernel_rfl)) ?_
 refine jB (i := 9) ?_
 refine jS 3 [.slice a_12 m.s.length c_13, .slice a_18 m.r.length c_19, .slice a_20 m.w.length c_21] ?_
 refine go ?_
 exact jJ [2, 0, 0] ⟨_, _, _, _, _, _, rfl, rfl⟩
end Go.Proofs.YthlfmbbaomdciaaGreatDoor
namespace Go.Proofs.YthlfmbbaomdciaaGreatDoor
open Go Go.RowKit
@[reducible] def seesM (w : World) (x : MA) (m : MS) : Prop := Sees w (.slice x.a0 m.s.length x.c0) 2 m.s.length (m.s.flatMap encC) ∧ Sees w (.slice x.a1 m.r.length x.c1) 1 m.r.length (m.r.map str) ∧ Sees w (.slice x.a2 m.w.length x.c2) 1 m.w.length (m.w.map str)

theorem N_clone (x : MA) (m : MS) {S T : Nat} (hk : m.ok S T) (hS : S ≤ 1000000000) (hT : T ≤ 1000000000) :
   Ct Tryz.prog 121 [mv x m] ([]) (fun w => seesM w x m) (fun v A' => ∃ x' m', m = m' ∧ m'.ok S T ∧ v = mv x' m' ∧ A' = mr x' m') :=
 (C_cloneMach x.a0 x.a1 x.a2 x.c0 x.c1 x.c2 m (by have := hk.1; omega) (by have := hk.2.1; omega) (by have := hk.2.2.1; omega)).weak (fun _ h => h) fun v A' ⟨x0, y0, x1, y1, x2, y2, hv, hA⟩ => ⟨⟨x0, y0, x1, y1, x2, y2⟩, m, rfl, hk, hv, hA⟩

theorem N_copy (x : MA) (m : MS) {S T : Nat} (hk : m.ok S T) (hS : S ≤ 1000000000) (hT : T ≤ 1000000000) :
   Ct Tryz.prog 124 [mv x m] ([]) (fun w => seesM w x m) (fun v A' => ∃ x' m', m = m' ∧ m'.ok S T ∧ v = mv x' m' ∧ A' = mr x' m') :=
 (C_copy x.a0 x.a1 x.a2 x.c0 x.c1 x.c2 m (by have := hk.1; omega) (by have := hk.2.1; omega) (by have := hk.2.2.1; omega)).weak (fun _ h => h) fun v A' ⟨x0, y0, x1, y1, x2, y2, hv, hA⟩ => ⟨⟨x0, y0, x1, y1, x2, y2⟩, m, rfl, hk, hv, hA⟩
end Go.Proofs.YthlfmbbaomdciaaGreatDoor
namespace Go.Proofs.YthlfmbbaomdciaaGreatDoor
open Go Go.RowKit
attribute [local irreducible] JL JC JQ JO LO PO JA JX Ct
theorem P_do (x : MA) (m : MS) {S T : Nat} (hk : m.ok S T) (hS : S ≤ 19000000) (hT : T ≤ 19000000) (proc : Int) (c : CL) (hproc : -9223372036854775808 ≤ proc ∧ proc ≤ 9223372036854775807) (hc : c.ok 1048576) :
   Ct Tryz.prog 33 [mv x m, .int .i64 proc, .agg #[.int .i64 c.kind, str c.name, str c.to_, .int .i64 c.a, .int .i64 c.b, str c.text]] ([]) (fun w => seesM w x m ∧ HexOk w) (fun v A' => ∃ x' m' r0, MS.doCall m proc c = (m', r0) ∧ m'.ok (3 * S + 20) (T + 7 * S + 200) ∧ ((0 ≤ r0.code ∧ r0.code ≤ 9) ∧ (-1 ≤ r0.n ∧ r0.n ≤ 1000000000) ∧ r0.text.length ≤ 30000000000000) ∧ v = .tuple #[mv x' m', .agg #[.int .i64 r0.code, .int .i64 r0.n, str r0.text]] ∧ A' = mr x' m') := by
 refine Ct.introL Tryz.func33 rfl Tryz.ntmps33 (lb rfl) fun w0 hpre hlow => ?_
 have hs_x_a0 : Sees w0 _ _ _ _ := hpre.1.1
 have hs_x_a1 : Sees w0 _ _ _ _ := hpre.1.2.1
 have hs_x_a2 : Sees w0 _ _ _ _ := hpre.1.2.2
 obtain ⟨hc1, hc2, hc3, hc4, hc5, hc6⟩ := id hc
 refine go ?_
 refine jM (mc x m) fun b_1 => ?_
 refine jM [iv c.kind, str c.name, str c.to_, iv c.a, iv c.b, str c.text] fun b_2 => ?_
 refine jG zC fun b_3 => ?_
 refine jG [iv 0, iv 0, str []] fun b_4 => ?_
 refine go ?_
 refine jA [] (N_clone x m hk (by omega) (by omega)) (hpre := fun w hw => ⟨hw.seeOut_ hs_x_a0 nM, hw.seeOut_ hs_x_a1 nM, hw.seeOut_ hs_x_a2 nM⟩) ?_
 rintro _ _ ⟨x_7, m_8, rfl, k_6, rfl, rfl⟩
 refine jD 6 (mc x_7 m) ?_
 refine go ?_
 refine jA [6, 0, 0, 0] (N_do b_1 x_7 m k_6 (by omega) (by omega) proc c (by omega) hc) (hpre := fun w hw => hw.hex hlow hpre.2) ?_
 rintro _ _ ⟨x_11, m_12, A_13, e_9, k_10, f_14, rfl, rfl⟩
 refine jG [iv 0, iv 0, str []] fun b_15 => ?_
 refine jD 0 [iv A_13.code, iv A_13.n, str A_13.text] ?_
 refine go ?_
 refine jH [0, 0] 3 ?_
 refine go ?_
 refine jB (i := 2) ?_
 refine jp 6 (mc x_11 m_12) ?_
 refine jB (i := 3) ?_
 refine jS 5 [iv A_13.code, iv A_13.n, str A_13.text] ?_
 refine go ?_
 exact jQ [2, 2, 2] ⟨x_11, m_12, A_13, (by simp only [if_true, e_9, SB]; (repeat (first | rw [if_pos (by omega)] | rw [if_neg (by omega)])); all_goals (first | rfl | simp only [SB, e_9])), (k_10.mono (by omega) (by omega)), (by (try dsimp only); (try simp only [List.length_nil]); omega), rfl, rfl⟩

theorem Q_do (x : MA) (m : MS) {S T : Nat} (hk : m.ok S T) (hS : S ≤ 19000000) (hT : T ≤ 19000000) (proc : Int) (c : CL) (hproc : -9223372036854775808 ≤ proc ∧ proc ≤ 9223372036854775807) (hc : c.ok 1048576) :
   Ct Tryz.prog 34 [mv x m, .int .i64 proc, .agg #[.int .i64 c.kind, str c.name, str c.to_, .int .i64 c.a, .int .i64 c.b, str c.text]] ([]) (fun w => seesM w x m) (fun v A' => ∃ x' m' r0, MS.doCall m proc c = (m', r0) ∧ m'.ok (3 * S + 20) (T + 7 * S + 200) ∧ ((0 ≤ r0.code ∧ r0.code ≤ 9) ∧ (-1 ≤ r0.n ∧ r0.n ≤ 1000000000) ∧ r0.text.length ≤ 30000000000000) ∧ v = .tuple #[mv x' m', .agg #[.int .i64 r0.code, .int .i64 r0.n, str r0.text]] ∧ A' = mr x' m') := by
 refine Ct.intro Tryz.func34 rfl Tryz.ntmps34 (lb rfl) fun w0 hpre => ?_
 have hs_x_a0 : Sees w0 _ _ _ _ := hpre.1
 have hs_x_a1 : Sees w0 _ _ _ _ := hpre.2.1
 have hs_x_a2 : Sees w0 _ _ _ _ := hpre.2.2
 obtain ⟨hc1, hc2, hc3, hc4, hc5, hc6⟩ := id hc
 refine go ?_
 refine jM (mc x m) fun b_1 => ?_
 refine jM [iv c.kind, str c.name, str c.to_, iv c.a, iv c.b, str c.text] fun b_2 => ?_
 refine jG zC fun b_3 => ?_
 refine jG [iv 0, iv 0, str []] fun b_4 => ?_
 refine go ?_
 refine jH [2, 2] 7 ?_
 refine go ?_
 refine jB (i := 1) ?_
 refine jI [] (N_copy x m hk (by omega) (by omega)) (hpre := fun w hw => ⟨hw.seeOut_ hs_x_a0 nM, hw.seeOut_ hs_x_a1 nM, hw.seeOut_ hs_x_a2 nM⟩) ?_
 rintro _ _ ⟨x_19, m_20, rfl, k_18, rfl, rfl⟩
 refine jB (i := 4) ?_
 refine jI [0, 0, 0] (M_do x_19 m k_18 (by omega) (by omega) proc c (by omega) hc) ?_
 rintro _ _ ⟨x_29, m_30, A_31, e_27, k_28, f_32, rfl, rfl⟩
 refine go ?_
 refine jB (i := 7) ?_
 refine jf 4 (mc x_29 m_30) ?_
 refine jB (i := 8) ?_
 refine jS 3 [iv A_31.code, iv A_31.n, str A_31.text] ?_
 refine go ?_
 exact jQ [0, 0, 0] ⟨x_29, m_30, A_31, (by simp only [if_true, e_27, SB]; (repeat (first | rw [if_pos (by omega)] | rw [if_neg (by omega)])); all_goals (first | rfl | simp only [SB, e_27])), (k_28.mono (by omega) (by omega)), (by (try dsimp only); (try simp only [List.length_nil]); omega), rfl, rfl⟩
theorem C_sameMach (a0 a1 a2 b0 b1 b2 : Option Addr) (c0_ c1 c2 d0_ d1 d2 : Nat) (s : List Cell) (r w : List Str) (s' : List Cell) (r' w' : List Str) (h0 : s.length ≤ 9223372036854775807) (h1 : r.length ≤ 9223372036854775807) (h2 : w.length ≤ 9223372036854775807) :
   Ct Tryz.prog 38 [.agg #[.slice a0 s.length c0_, .slice a1 r.length c1, .slice a2 w.length c2], .agg #[.slice b0 s'.length d0_, .slice b1 r'.length d1, .slice b2 w'.length d2]] [] (fun w_ => Sees w_ (.slice a0 s.length c0_) 2 s.length (s.flatMap encC) ∧ Sees w_ (.slice a1 r.length c1) 1 r.length (r.map str) ∧ Sees w_ (.slice a2 w.length c2) 1 w.length (w.map str) ∧ Sees w_ (.slice b0 s'.length d0_) 2 s'.length (s'.flatMap encC) ∧ Sees w_ (.slice b1 r'.length d1) 1 r'.length (r'.map str) ∧ Sees w_ (.slice b2 w'.length d2) 1 w'.length (w'.map str)) (fun v A' => v = .bool (decide (s = s') && (decide (r = r') && decide (w = w'))) ∧ A' = []) := by
 refine Ct.intro Tryz.func38 rfl Tryz.ntmps38 (lb rfl) fun w0 hpre => ?_
 have hs_a0 : Sees w0 _ _ _ _ := hpre.1
 have hs_a1 : Sees w0 _ _ _ _ := hpre.2.1
 have hs_a2 : Sees w0 _ _ _ _ := hpre.2.2.1
 have hs_b0 : Sees w0 _ _ _ _ := hpre.2.2.2.1
 have hs_b1 : Sees w0 _ _ _ _ := hpre.2.2.2.2.1
 have hs_b2 : Sees w0 _ _ _ _ := hpre.2.2.2.2.2
 refine go ?_
 refine jM [.slice a0 s.length c0_, .slice a1 r.length c1, .slice a2 w.length c2] fun b_1 => ?_
 refine jM [.slice b0 s'.length d0_, .slice b1 r'.length d1, .slice b2 w'.length d2] fun b_2 => ?_
 refine go ?_
 refine jN [] (C_sameCells a0 b0 c0_ d0_ s s' (by omega)) (hpre := fun w hw => ⟨hw.seeOut_ hs_a0 nM, hw.seeOut_ hs_b0 nM⟩) ?_
 refine go ?_
 by_cases h_3 : s = s'
 · refine go ?_
   refine jW rfl rfl rfl (cB (dT h_3)) (jO [] Tryz.call26 rfl (C_sameTouch a1 a2 b1 b2 c1 c2 d1 d2 r w r' w' (by omega) (by omega)) rfl (fun w hw => ⟨hw.seeOut_ hs_a1 nM, hw.seeOut_ hs_a2 nM, hw.seeOut_ hs_b1 nM, hw.seeOut_ hs_b2 nM⟩)) ?_
   rintro _ _ ⟨_, ⟨rfl, rfl⟩, rfl⟩
   refine go ?_
   refine jE (.inl rfl) rfl (jC (v := .bool (decide (r = r') && decide (w = w'))) rfl) (List.nil_sublist _) ?_
   refine ⟨?_, rfl⟩
   simp_all
 refine go ?_
 refine jE (.inl rfl) rfl (jC (v := .bool false) rfl) (List.nil_sublist _) ?_
 refine ⟨?_, rfl⟩
 simp_all

theorem N_sameMach (x y : MA) (m : MS) {S T : Nat} (hk : m.ok S T) (hS : S ≤ 100000000) (hT : T ≤ 100000000) : Ct Tryz.prog 38 [mv x m, mv y m] [] (fun w => seesM w x m ∧ seesM w y m) (fun v A' => v = .bool true ∧ A' = []) :=
 (C_sameMach x.a0 x.a1 x.a2 y.a0 y.a1 y.a2 x.c0 x.c1 x.c2 y.c0 y.c1 y.c2 m.s m.r m.w m.s m.r m.w (by have := hk.1; omega) (by have := hk.2.1; omega) (by have := hk.2.2.1; omega)).weak (fun w ⟨h1, h2⟩ => ⟨h1.1, h1.2.1, h1.2.2, h2⟩) fun v A' ⟨hv, hA⟩ => ⟨by rw [hv]; simp, hA⟩
end Go.Proofs.YthlfmbbaomdciaaGreatDoor
namespace Go.Proofs.YthlfmbbaomdciaaGreatDoor
open Go Go.RowKit
section
variable {P : Program} {ops : Array Oper} {Q : Exit → Act → World → Prop} {n : Nat} {w0 : World} {D : List Nat} {L L' : List Res} {e : Env}
section
variable {d : Option Tmp} {ty : TypeId} {pos : String} {aft : Array Edge} {gd : Option (Nat × Bool)}
theorem PO.eqlB {x y : Operand} {a b : Bool} {t u : TypeId} (ht : P.underlying t = some .bool) (hx : rd n e x = .bool a) (hy : rd n e y = .bool b) : PO P n e ⟨d, .binOp .eql t x y u, ty, pos, aft, gd⟩ (.bool (decide (a = b))) := fun w => by
 simp [execOp, hx, hy, eqGuard, binOp, equal_bool ht]
end
end
end Go.Proofs.YthlfmbbaomdciaaGreatDoor
namespace Go.Proofs.YthlfmbbaomdciaaGreatDoor
open Go Go.RowKit
attribute [local irreducible] JL JC JQ JO LO PO JA JX Ct
theorem D_ans14 (qb : Nat) (qa : Option Addr) (qc : Nat) (ql : Str) (qp : Nat) (qs : Int) (hql : ql.length ≤ 1048577) (hqp : qp ≤ ql.length)  :
   Ct Tryz.prog 128 [.pointer (some ⟨qb, 0, none⟩)] [cb qb qa qc ql qp qs] (fun w => seesC w qa qc ql [cb qb qa qc ql qp qs]) (fun v A' => ∃ (qp' : _) (qs' : _) (r0 : AN), qp' ≤ ql.length ∧ ((0 ≤ r0.code ∧ r0.code ≤ 9) ∧ (-1 ≤ r0.n ∧ r0.n ≤ 1000000000) ∧ r0.text.length ≤ 1048576) ∧ v = .agg #[.int .i64 r0.code, .int .i64 r0.n, str r0.text] ∧ A' = [cb qb qa qc ql qp' qs']) := by
 refine Ct.intro Tryz.func128 rfl Tryz.ntmps128 (lb rfl) fun w0 hpre => ?_
 have hs_qa : Sees w0 _ _ _ _ := hpre.1
 refine go ?_
 refine jG [iv 0, iv 0, str []] fun b_1 => ?_
 refine go ?_
 refine jA [1] (D_below qb qa qc ql qp qs (by omega) (by omega) 4 (by omega)) (hpre := fun w hw => ⟨hw.seeOut_ hs_qa (hpre.2), hw.apart hs_qa (hpre.2) (by simp)⟩) ?_
 rintro _ _ ⟨qp_2, qs_3, n_5, fq_4, f_6, rfl, rfl⟩
 refine go ?_
 refine jA [0] (D_below qb qa qc ql qp_2 qs_3 (by omega) (by omega) 4 (by omega)) (hpre := fun w hw => ⟨hw.seeOut_ hs_qa (hpre.2), hw.apart hs_qa (hpre.2) (by simp)⟩) ?_
 rintro _ _ ⟨qp_8, qs_9, n_11, fq_10, f_12, rfl, rfl⟩
 refine jK (jg (c := ((n_11 : Nat) : Int) - 1) rfl rfl (wr (by omega))) ?_
 refine go ?_
 refine jA [0] (D_below qb qa qc ql qp_8 qs_9 (by omega) (by omega) 3 (by omega)) (hpre := fun w hw => ⟨hw.seeOut_ hs_qa (hpre.2), hw.apart hs_qa (hpre.2) (by simp)⟩) ?_
 rintro _ _ ⟨qp_14, qs_15, n_17, fq_16, f_18, rfl, rfl⟩
 refine jA [0] (D_text qb qa qc ql qp_14 qs_15 (by omega) (by omega) ((n_17 : Nat) : Int) (by omega)) (hpre := fun w hw => ⟨hw.seeOut_ hs_qa (hpre.2), hw.apart hs_qa (hpre.2) (by simp)⟩) ?_
 rintro _ _ ⟨qp_20, qs_21, u_23, fq_22, f_24, rfl, rfl⟩
 refine jK (je (ps := [(0, nv n_5), (1, iv (((n_11 : Nat) : Int) - 1)), (2, str u_23)]) (cs := [nv n_5, iv (((n_11 : Nat) : Int) - 1), str u_23]) rfl (by kernel_rfl)) ?_
 refine jD 1 [nv n_5, iv (((n_11 : Nat) : Int) - 1), str u_23] ?_
 refine go ?_
 exact jJ [0] ⟨qp_20, qs_21, (⟨((n_5 : Nat) : Int), ((n_11 : Nat) : Int) - 1, u_23⟩ : AN), (by omega), (by (try dsimp only); (try simp only [List.length_nil]); omega), rfl, rfl⟩

theorem D_dAnswerText (pa : Option Addr) (pc : Nat) (p : Str) (hp : p.length ≤ 1048577)  :
   Ct Tryz.prog 40 [.slice pa p.length pc] [] (fun w => Sees w (.slice pa p.length pc) 1 p.length (p.map encB)) (fun v A' => ∃ (r0 : AN), ((0 ≤ r0.code ∧ r0.code ≤ 9) ∧ (-1 ≤ r0.n ∧ r0.n ≤ 1000000000) ∧ r0.text.length ≤ 1048576) ∧ v = .agg #[.int .i64 r0.code, .int .i64 r0.n, str r0.text] ∧ A' = []) := by
 refine Ct.intro Tryz.func40 rfl Tryz.ntmps40 (lb rfl) fun w0 hpre => ?_
 have hs_pa : Sees w0 _ _ _ _ := hpre
 refine go ?_
 refine jG [iv 0, iv 0, str []] fun b_1 => ?_
 refine go ?_
 refine jA [] (D_new pa pc p (by omega)) (hpre := fun w hw => hw.seeOut_ hs_pa nM) ?_
 rintro _ _ ⟨c_2, qs_3, -, rfl, rfl⟩
 refine jA [0] (D_ans14 c_2 pa pc p 0 qs_3 (by omega) (by omega)) (hpre := fun w hw => ⟨hw.seeOut_ hs_pa nM, hw.apart hs_pa nM (by simp)⟩) ?_
 rintro _ _ ⟨qp_5, qs_6, A_8, fq_7, f_9, rfl, rfl⟩
 refine jD 1 [iv A_8.code, iv A_8.n, str A_8.text] ?_
 refine go ?_
 exact jJ [] ⟨A_8, (by (try dsimp only); (try simp only [List.length_nil]); omega), rfl, rfl⟩

theorem D_dSameAnswer (pa : Option Addr) (pc : Nat) (p : Str) (hp : p.length ≤ 1048577)  :
   Ct Tryz.prog 41 [.slice pa p.length pc] [] (fun w => Sees w (.slice pa p.length pc) 1 p.length (p.map encB)) (fun v A' => ∃ (r0 : AN) (r1 : AN), ((0 ≤ r0.code ∧ r0.code ≤ 9) ∧ (-1 ≤ r0.n ∧ r0.n ≤ 1000000000) ∧ r0.text.length ≤ 1048576) ∧ ((0 ≤ r1.code ∧ r1.code ≤ 9) ∧ (-1 ≤ r1.n ∧ r1.n ≤ 1000000000) ∧ r1.text.length ≤ 1048576) ∧ v = .tuple #[.agg #[.int .i64 r0.code, .int .i64 r0.n, str r0.text], .agg #[.int .i64 r1.code, .int .i64 r1.n, str r1.text]] ∧ A' = []) := by
 refine Ct.intro Tryz.func41 rfl Tryz.ntmps41 (lb rfl) fun w0 hpre => ?_
 have hs_pa : Sees w0 _ _ _ _ := hpre
 refine go ?_
 refine jG [iv 0, iv 0, str []] fun b_1 => ?_
 refine jG [iv 0, iv 0, str []] fun b_2 => ?_
 refine go ?_
 refine jA [] (D_new pa pc p (by omega)) (hpre := fun w hw => hw.seeOut_ hs_pa nM) ?_
 rintro _ _ ⟨c_3, qs_4, -, rfl, rfl⟩
 refine go ?_
 refine jA [0] (D_ans14 c_3 pa pc p 0 qs_4 (by omega) (by omega)) (hpre := fun w hw => ⟨hw.seeOut_ hs_pa nM, hw.apart hs_pa nM (by simp)⟩) ?_
 rintro _ _ ⟨qp_6, qs_7, A_9, fq_8, f_10, rfl, rfl⟩
 refine jG [iv 0, iv 0, str []] fun b_12 => ?_
 refine jD 0 [iv A_9.code, iv A_9.n, str A_9.text] ?_
 refine go ?_
 refine jA [1] (D_once c_3 pa pc p qp_6 qs_7 (by omega) (by omega) 2 (by omega)) (hpre := fun w hw => ⟨hw.seeOut_ hs_pa nM, hw.apart hs_pa nM (by simp)⟩) ?_
 rintro _ _ ⟨qp_13, qs_14, b_16, fq_15, rfl, rfl⟩
 refine go ?_
 rcases Bool.eq_false_or_eq_true (b_16) with h_18 | h_18
 · refine go ?_
   refine jH [1] 3 ?_
   refine go ?_
   refine jB (i := 2) ?_
   refine jp 3 [iv A_9.code, iv A_9.n, str A_9.text] ?_
   refine jB (i := 3) ?_
   refine jS 2 [iv A_9.code, iv A_9.n, str A_9.text] ?_
   refine go ?_
   exact jQ [] ⟨A_9, A_9, (by (try dsimp only); (try simp only [List.length_nil]); omega), (by (try dsimp only); (try simp only [List.length_nil]); omega), rfl, rfl⟩
 refine go ?_
 refine jH [1] 3 ?_
 refine go ?_
 refine jB (i := 2) ?_
 refine jI [0] (D_ans14 c_3 pa pc p qp_13 qs_14 (by omega) (by omega)) (hpre := fun w hw => ⟨hw.seeOut_ hs_pa nM, hw.apart hs_pa nM (by simp)⟩) ?_
 rintro _ _ ⟨qp_25, qs_26, A_28, fq_27, f_29, rfl, rfl⟩
 refine jB (i := 3) ?_
 refine jf 3 [iv A_9.code, iv A_9.n, str A_9.text] ?_
 refine jB (i := 4) ?_
 refine jS 2 [iv A_28.code, iv A_28.n, str A_28.text] ?_
 refine go ?_
 exact jQ [] ⟨A_9, A_28, (by (try dsimp only); (try simp only [List.length_nil]); omega), (by (try dsimp only); (try simp only [List.length_nil]); omega), rfl, rfl⟩

theorem D_store14 (qb : Nat) (qa : Option Addr) (qc : Nat) (ql : Str) (qp : Nat) (qs : Int) (hql : ql.length ≤ 1048577) (hqp : qp ≤ ql.length) (n : Int) (hn : -9223372036854775808 ≤ n ∧ n ≤ 9223372036854775807) (hn12 : n = 12) :
   Ct Tryz.prog 115 [.pointer (some ⟨qb, 0, none⟩), .int .i64 n] [cb qb qa qc ql qp qs] (fun w => seesC w qa qc ql [cb qb qa qc ql qp qs]) (fun v A' => ∃ qp' qs' r0a r0c r0, qp' ≤ ql.length ∧ (okC' 8000000 1048576 r0) ∧ v = .slice r0a r0.length r0c ∧ A' = cb qb qa qc ql qp' qs' :: [rC r0a r0c r0]) := by
 refine Ct.intro Tryz.func115 rfl Tryz.ntmps115 (lb rfl) fun w0 hpre => ?_
 have hs_qa : Sees w0 _ _ _ _ := hpre.1
 refine go ?_
 refine jA [] (D_boot) ?_
 rintro _ _ ⟨l_1a, l_1c, l_1, e_3, f_2, rfl, rfl⟩
 refine go ?_
 refine jL (fun k_ e_ L_ => ∃ i_ : Nat, ∃ p_q : Nat, ∃ s_q : Int, ∃ o_a : Option Addr, ∃ o_c : Nat, ∃ o_ : List Cell, (p_q ≤ ql.length) ∧ (i_ ≤ 12) ∧ (okC' (15 * 3 ^ i_ - 10) 1048576 o_) ∧ EL e_ [(0, .pointer (some ⟨qb, 0, none⟩)), (1, iv n), (4, .slice none 0 0), (5, .slice o_a o_.length o_c), (6, nv i_)] ∧ L_ = [rC o_a o_c o_, cb qb qa qc ql p_q s_q] ∧ k_ = 13 - i_) _ ⟨0, qp, qs, l_1a, l_1c, l_1, (by omega), (by omega), (f_2.mono (by decide)), EL.go, rfl, rfl⟩ ?_
 rintro _ _ _ ⟨i_, p_q, s_q, o_a, o_c, o_, hpq_, hi, hO, ⟨_, rfl⟩, rfl, rfl⟩
 refine go ?_
 refine jA [1] (D_below qb qa qc ql p_q s_q (by omega) (by omega) (n + 1) (by omega)) (hpre := fun w hw => ⟨hw.seeOut_ hs_qa (hpre.2), hw.apart hs_qa (hpre.2) (by simp)⟩) ?_
 rintro _ _ ⟨qp_4, qs_5, n_7, fq_6, f_8, rfl, rfl⟩
 refine go ?_
 by_cases h_10 : ((i_ : Nat) : Int) < ((n_7 : Nat) : Int)
 · have hp3 : 3 ^ i_ ≤ 3 ^ 11 := Nat.pow_le_pow_right (by decide) (by omega)
   have hp3p : 1 ≤ 3 ^ i_ := Nat.pos_of_ne_zero (by simp)
   have hp3s : 3 ^ (i_ + 1) = 3 * 3 ^ i_ := by rw [Nat.pow_succ]; omega
   refine go ?_
   refine jA [0] (D_below qb qa qc ql qp_4 qs_5 (by omega) (by omega) 2 (by omega)) (hpre := fun w hw => ⟨hw.seeOut_ hs_qa (hpre.2), hw.apart hs_qa (hpre.2) (by simp)⟩) ?_
   rintro _ _ ⟨qp_11, qs_12, n_14, fq_13, f_15, rfl, rfl⟩
   refine go ?_
   refine jA [0] (D_call13 qb qa qc ql qp_11 qs_12 (by omega) (by omega)) (hpre := fun w hw => ⟨hw.seeOut_ hs_qa (hpre.2), hw.apart hs_qa (hpre.2) (by simp)⟩) ?_
   rintro _ _ ⟨qp_17, qs_18, C_20, fq_19, f_21, rfl, rfl⟩
   obtain ⟨f_211, f_212, f_213, f_214, f_215, f_216⟩ := id f_21
   refine jA [] (D_callOn o_a o_c o_ ((1 + n_14 : Nat) : Int) C_20 (by have hl_ := (hO).1; omega) (by omega) f_21 hO (by omega)) (hpre := fun w hw => hw.see (i := 1) rfl) ?_
   rintro _ _ ⟨x_23, m_24, A_25, e_26, k_27, f_28, rfl, rfl⟩
   refine go ?_
   exact jP [0, 2] ⟨(i_ + 1), qp_17, qs_18, x_23.a0, x_23.c0, m_24.s, (by omega), (by omega), (k_27.okC'.mono (by omega)), EL.go, rfl, rfl⟩
 have hp3 : 3 ^ i_ ≤ 3 ^ 12 := Nat.pow_le_pow_right (by decide) (by omega)
 have hp3p : 1 ≤ 3 ^ i_ := Nat.pos_of_ne_zero (by simp)
 have hp3s : 3 ^ (i_ + 1) = 3 * 3 ^ i_ := by rw [Nat.pow_succ]; omega
 refine go ?_
 refine jE (.inl rfl) rfl (jC (v := .slice o_a o_.length o_c) rfl) (List.Sublist.refl _) ?_
 exact ⟨qp_4, qs_5, o_a, o_c, o_, (by omega), (hO.mono (by omega)), rfl, rfl⟩

theorem D_dDoCall (pa : Option Addr) (pc : Nat) (p : Str) (hp : p.length ≤ 1048577)  :
   Ct Tryz.prog 32 [.slice pa p.length pc] [] (fun w => Sees w (.slice pa p.length pc) 1 p.length (p.map encB)) (fun v A' => ∃ (r0x : _) (r0 : _) (r1 : _) (r2 : CL), r0.ok (8000000) (1) ∧ (-9223372036854775808 ≤ r1 ∧ r1 ≤ 9223372036854775807) ∧ r2.ok 1048576 ∧ v = .tuple #[mv r0x r0, .int .i64 r1, .agg #[.int .i64 r2.kind, str r2.name, str r2.to_, .int .i64 r2.a, .int .i64 r2.b, str r2.text]] ∧ A' = mr r0x r0) := by
 refine Ct.intro Tryz.func32 rfl Tryz.ntmps32 (lb rfl) fun w0 hpre => ?_
 have hs_pa : Sees w0 _ _ _ _ := hpre
 refine go ?_
 refine jG zC fun b_1 => ?_
 refine go ?_
 refine jG [iv 0, str [], str [], iv 0, iv 0, str []] fun b_2 => ?_
 refine go ?_
 refine jA [] (D_new pa pc p (by omega)) (hpre := fun w hw => hw.seeOut_ hs_pa nM) ?_
 rintro _ _ ⟨c_3, qs_4, -, rfl, rfl⟩
 refine go ?_
 refine jA [0] (D_store14 c_3 pa pc p 0 qs_4 (by omega) (by omega) 12 (by omega) rfl) (hpre := fun w hw => ⟨hw.seeOut_ hs_pa nM, hw.apart hs_pa nM (by simp)⟩) ?_
 rintro _ _ ⟨qp_6, qs_7, l_9a, l_9c, l_9, fq_8, f_10, rfl, rfl⟩
 have hO1_l_9 := f_10.1
 refine jA [] (D_machOfB l_9a l_9c l_9 (by first | omega | simp) f_10) (hpre := fun w hw => hw.see (i := 1) rfl) ?_
 rintro _ _ ⟨x_12, m_13, e_15, k_14, rfl, rfl⟩
 refine jG zC fun b_16 => ?_
 refine jD 0 (mc x_12 m_13) ?_
 refine go ?_
 refine jA [4] (D_once c_3 pa pc p qp_6 qs_7 (by omega) (by omega) 6 (by omega)) (hpre := fun w hw => ⟨hw.seeOut_ hs_pa nM, hw.apart hs_pa nM (by simp)⟩) ?_
 rintro _ _ ⟨qp_17, qs_18, b_20, fq_19, rfl, rfl⟩
 refine go ?_
 rcases Bool.eq_false_or_eq_true (b_20) with h_22 | h_22
 · refine go ?_
   refine jH [1] 7 ?_
   refine go ?_
   refine jB (i := 2) ?_
   refine jI [0] (D_key c_3 pa pc p qp_17 qs_18 (by omega) (by omega)) (hpre := fun w hw => ⟨hw.seeOut_ hs_pa nM, hw.apart hs_pa nM (by simp)⟩) ?_
   rintro _ _ ⟨qp_29, qs_30, u_32, fq_31, f_33, rfl, rfl⟩
   refine jB (i := 3) ?_
   refine jI [2, 2, 2] (N_sLook x_12 m_13 k_14 (by omega) (by omega) u_32) ?_
   rintro _ _ ⟨x_43, m_44, u_45, e_41, k_42, f_46, rfl, rfl⟩
   refine go ?_
   refine jB (i := 7) ?_
   refine jS 4 (mc x_43 m_44) ?_
   refine go ?_
   refine jH [4] 7 ?_
   refine go ?_
   refine jB (i := 2) ?_
   refine jI [3] (D_proc14 c_3 pa pc p qp_29 qs_30 (by omega) (by omega)) (hpre := fun w hw => ⟨hw.seeOut_ hs_pa nM, hw.apart hs_pa nM (by simp)⟩) ?_
   rintro _ _ ⟨qp_59, qs_60, n_62, fq_61, f_63, rfl, rfl⟩
   refine jB (i := 4) ?_
   refine ja rfl rfl (jO [0] Tryz.call120 rfl (D_any13 c_3 pa pc p qp_59 qs_60 (by omega) (by omega)) rfl (fun w hw => ⟨hw.seeOut_ hs_pa nM, hw.apart hs_pa nM (by simp)⟩)) ?_
   rintro _ _ ⟨_, ⟨qp_71, qs_72, C_74, fq_73, f_75, rfl, rfl⟩, rfl⟩
   obtain ⟨f_751, f_752, f_753, f_754, f_755, f_756⟩ := id f_75
   refine ⟨all_go, ?_⟩
   refine jB (i := 5) ?_
   refine jp 7 (mc x_43 m_44) ?_
   refine go ?_
   refine jB (i := 7) ?_
   refine jS 6 [iv C_74.kind, str C_74.name, str C_74.to_, iv C_74.a, iv C_74.b, str C_74.text] ?_
   refine go ?_
   exact jt [1, 1, 1] ⟨x_43, m_44, n_62, C_74, (k_42.mono (by omega) (by omega)), (by first | omega | (simp only [LE]; omega)), f_75, rfl, rfl⟩
 refine go ?_
 refine jH [1] 7 ?_
 refine go ?_
 refine jB (i := 2) ?_
 refine jI [0] (D_proc14 c_3 pa pc p qp_17 qs_18 (by omega) (by omega)) (hpre := fun w hw => ⟨hw.seeOut_ hs_pa nM, hw.apart hs_pa nM (by simp)⟩) ?_
 rintro _ _ ⟨qp_89, qs_90, n_92, fq_91, f_93, rfl, rfl⟩
 refine jB (i := 4) ?_
 refine ja rfl rfl (jO [0] Tryz.call120 rfl (D_any13 c_3 pa pc p qp_89 qs_90 (by omega) (by omega)) rfl (fun w hw => ⟨hw.seeOut_ hs_pa nM, hw.apart hs_pa nM (by simp)⟩)) ?_
 rintro _ _ ⟨_, ⟨qp_101, qs_102, C_104, fq_103, f_105, rfl, rfl⟩, rfl⟩
 obtain ⟨f_1051, f_1052, f_1053, f_1054, f_1055, f_1056⟩ := id f_105
 refine ⟨all_go, ?_⟩
 refine jB (i := 5) ?_
 refine jp 7 (mc x_12 m_13) ?_
 refine go ?_
 refine jB (i := 7) ?_
 refine jS 6 [iv C_104.kind, str C_104.name, str C_104.to_, iv C_104.a, iv C_104.b, str C_104.text] ?_
 refine go ?_
 exact jt [2, 2, 2] ⟨x_12, m_13, n_92, C_104, (k_14.mono (by omega) (by omega)), (by first | omega | (simp only [LE]; omega)), f_105, rfl, rfl⟩
end Go.Proofs.YthlfmbbaomdciaaGreatDoor
namespace Go.Proofs.YthlfmbbaomdciaaGreatDoor
open Go Go.RowKit
theorem bootS_eq {m : MS} {a b : Int} (e : MS.spawn ⟨[], [], []⟩ 0 = (m, a, b)) : bootS = m.s := by rw [bootS, e]
theorem bootS_ok : okC' 3 1048576 bootS := by
 refine ⟨?_, fun c hc => ?_⟩
 · have h : bootS.length ≤ 3 := by unfold bootS; decide +kernel
   exact h
 · have h : ∀ c ∈ bootS, c.1.length ≤ 1048576 ∧ c.2.length ≤ 1048576 := by unfold bootS; decide +kernel
   exact h c hc
theorem boot_none {m : MS} {a : AN} (e : (⟨bootS, [], []⟩ : MS).doCall 9 ⟨9, [], [], 0, 0, []⟩ = (m, a)) : a.code = 2 := by
 have h : ((⟨bootS, [], []⟩ : MS).doCall 9 ⟨9, [], [], 0, 0, []⟩).2.code = 2 := by unfold bootS; decide +kernel
 rw [e] at h
 exact h
theorem boot_one {m : MS} {a : AN} (e : (⟨bootS, [], []⟩ : MS).doCall 1 ⟨9, [], [], 0, 0, []⟩ = (m, a)) : a = ⟨0, 1, []⟩ := by
 have h : ((⟨bootS, [], []⟩ : MS).doCall 1 ⟨9, [], [], 0, 0, []⟩).2 = ⟨0, 1, []⟩ := by unfold bootS; decide +kernel
 rw [e] at h
 exact h
theorem ok0 (n : Nat) : (⟨[], [], []⟩ : MS).ok n 0 := ⟨Nat.zero_le _, Nat.zero_le _, Nat.zero_le _, fun c hc => by cases hc⟩
/-- An answer as a text. -/
def ansText (a : AN) : Str := if a.text = [] then dec a.code ++ [32] ++ dec a.n else dec a.code ++ [32] ++ dec a.n ++ ([32] ++ (hexP a.text).1)
theorem ansText_two : ansText ⟨2, 0, [97]⟩ = [50, 32, 48, 32, 54, 49] := by decide +kernel
theorem underDA : Tryz.prog.underlying 39 = some (.struct (Tryz.prog.fieldsOf 39)) := by kernel_rfl
theorem PO.eqlA {n : Nat} {e : Env} {d : Option Tmp} {ty : TypeId} {pos : String} {aft : Array Edge} {gd : Option (Nat × Bool)} {x y : Operand} {u : TypeId} (a b : AN) (hx : rd n e x = .agg #[.int .i64 a.code, .int .i64 a.n, str a.text]) (hy : rd n e y = .agg #[.int .i64 b.code, .int .i64 b.n, str b.text]) : PO Tryz.prog n e ⟨d, .binOp .eql 39 x y u, ty, pos, aft, gd⟩ (.bool (decide (a = b))) := fun w => by
 have he : (Op.equalIn 10000 39 (.agg #[.int .i64 a.code, .int .i64 a.n, str a.text]) (.agg #[.int .i64 b.code, .int .i64 b.n, str b.text])).run Tryz.prog w = .ok (decide (a = b)) w := by
   rw [run_equalIn_struct w 9999 39 _ _ underDA Tryz.stoodInHeld39]
   rw [show (Tryz.prog.fieldsOf 39).toList = [⟨ "Code", 3, 0, false, "", "", 0⟩, ⟨ "N", 3, 1, false, "", "", 8⟩, ⟨ "Text", 9, 2, false, "", "", 16⟩] by kernel_rfl]
   have e0 : (Op.equalIn 9999 3 (.int .i64 a.code) (.int .i64 b.code)).run Tryz.prog w = .ok (decide (a.code = b.code)) w := by
     rw [run_equalIn_int w 9998 3 _ _ _ _ kW]
     simp [beq_dec]
   have p0 : ∀ c : AN, (part 3 #[.int .i64 c.code, .int .i64 c.n, str c.text] 0).run Tryz.prog w = .ok (.int .i64 c.code) w := fun c => by simp [part, str]
   have e1 : (Op.equalIn 9999 3 (.int .i64 a.n) (.int .i64 b.n)).run Tryz.prog w = .ok (decide (a.n = b.n)) w := by
     rw [run_equalIn_int w 9998 3 _ _ _ _ kW]
     simp [beq_dec]
   have p1 : ∀ c : AN, (part 3 #[.int .i64 c.code, .int .i64 c.n, str c.text] 1).run Tryz.prog w = .ok (.int .i64 c.n) w := fun c => by simp [part, str]
   have e2 : (Op.equalIn 9999 9 (str a.text) (str b.text)).run Tryz.prog w = .ok (decide (a.text = b.text)) w := by
     simp only [str]
     rw [run_equalIn_string w 9998 9 _ _ kO]
     simp [beq_dec]
   have p2 : ∀ c : AN, (part 9 #[.int .i64 c.code, .int .i64 c.n, str c.text] 2).run Tryz.prog w = .ok (str c.text) w := fun c => by simp [part, str]
   simp only [Op.eqFields, Sem.run_bind, p0, p1, p2, e0, e1, e2, Result.andThen_ok, ne_eq, Sem.run_ite, Sem.run_pure]
   obtain ⟨a0, a1, a2⟩ := a
   obtain ⟨b0, b1, b2⟩ := b
   by_cases h0 : a0 = b0
   · skip
     by_cases h1 : a1 = b1
     · skip
       by_cases h2 : a2 = b2
       · skip
         simp [h0, h1, h2]
       · simp [h0, h1, h2]
     · simp [h0, h1]
   · simp [h0]
 simp only [execOp, hx, hy, Sem.run_bind, run_eqGuard_agg w .eql 39 x y _ _ Tryz.eqGuardType39, Result.andThen_ok, run_eql_struct, he, Sem.run_pure]
attribute [local irreducible] JL JC JQ JO LO PO JA JX Ct

theorem I_bootS  :
   Ct Tryz.prog 39 [] [] (fun _ => True) (fun v A' => bootS.length ≤ 3 ∧ ∃ a c, v = .slice a bootS.length c ∧ A' = [rC a c bootS]) := by
 refine Ct.intro Tryz.func39 rfl Tryz.ntmps39 (lb rfl) fun w0 hpre => ?_
 refine go ?_
 refine jG zC fun b_1 => ?_
 refine go ?_
 refine JL.nilRow 130 2 <| JL.nilRow 9 1 <| JL.nilRow 9 1 ?_
 refine jA [3, 2, 0, 0] (N_spawn b_1 ⟨none, 0, none, 0, none, 0⟩ ⟨[], [], []⟩ (ok0 0) (by omega) (by omega) 0 (by omega)) ?_
 rintro _ _ ⟨x_2, m_3, r_6, r_7, e_4, k_5, f_8, f_9, rfl, rfl⟩
 refine go ?_
 refine ju (pick_perm [1] (A := [rC x_2.a0 x_2.c0 m_3.s]) (F := [mb b_1 x_2 m_3, rS x_2.a1 x_2.c1 m_3.r, rS x_2.a2 x_2.c2 m_3.w]) rfl).symm ?_
 refine jE (.inl rfl) rfl (jC (v := .slice x_2.a0 m_3.s.length x_2.c0) rfl) (tS 1 _) ?_
 have hb := bootS_eq e_4
 exact ⟨by rw [hb]; exact k_5.1, x_2.a0, x_2.c0, by rw [hb] <;> rfl, by rw [hb] <;> rfl⟩

theorem D_dCallOn (pa : Option Addr) (pc : Nat) (p : Str) (hp : p.length ≤ 1048577)  :
   Ct Tryz.prog 35 [.slice pa p.length pc] [] (fun w => Sees w (.slice pa p.length pc) 1 p.length (p.map encB)) (fun v A' => ∃ (r0a : _) (r0c : _) (r0 : _) (r1 : _) (r2 : CL), (okC' 8000001 1048576 r0) ∧ (-9223372036854775808 ≤ r1 ∧ r1 ≤ 9223372036854775807) ∧ r2.ok 1048576 ∧ v = .tuple #[.slice r0a r0.length r0c, .int .i64 r1, .agg #[.int .i64 r2.kind, str r2.name, str r2.to_, .int .i64 r2.a, .int .i64 r2.b, str r2.text]] ∧ A' = [rC r0a r0c r0]) := by
 refine Ct.intro Tryz.func35 rfl Tryz.ntmps35 (lb rfl) fun w0 hpre => ?_
 have hs_pa : Sees w0 _ _ _ _ := hpre
 refine go ?_
 refine jG [iv 0, str [], str [], iv 0, iv 0, str []] fun b_1 => ?_
 refine go ?_
 refine jA [] (D_new pa pc p (by omega)) (hpre := fun w hw => hw.seeOut_ hs_pa nM) ?_
 rintro _ _ ⟨c_2, qs_3, -, rfl, rfl⟩
 refine go ?_
 refine jA [0] (D_store14 c_2 pa pc p 0 qs_3 (by omega) (by omega) 12 (by omega) rfl) (hpre := fun w hw => ⟨hw.seeOut_ hs_pa nM, hw.apart hs_pa nM (by simp)⟩) ?_
 rintro _ _ ⟨qp_5, qs_6, l_8a, l_8c, l_8, fq_7, f_9, rfl, rfl⟩
 have hO1_l_8 := f_9.1
 refine go ?_
 refine jA [0] (D_once c_2 pa pc p qp_5 qs_6 (by omega) (by omega) 10 (by omega)) (hpre := fun w hw => ⟨hw.seeOut_ hs_pa nM, hw.apart hs_pa nM (by simp)⟩) ?_
 rintro _ _ ⟨qp_11, qs_12, b_14, fq_13, rfl, rfl⟩
 refine go ?_
 rcases Bool.eq_false_or_eq_true (b_14) with h_16 | h_16
 · refine go ?_
   refine jF rfl (jR (ps := [(0, str [105, 47, 49, 47, 115]), (1, str [99, 47, 102, 105, 108, 101]), (2, str [114, 47, 49, 47, 115]), (3, str [112, 47, 49, 47, 116])]) (cur := #[str [105, 47, 49, 47, 115], str [99, 47, 102, 105, 108, 101], str [114, 47, 49, 47, 115], str [112, 47, 49, 47, 116]]) kI kM kV rfl (by kernel_rfl) (by decide) (by decide)) ?_
   rintro _ _ ⟨a_17, rfl, rfl⟩
   refine jA [1, 0] (D_pick c_2 pa pc p qp_11 qs_12 a_17 4 ([[105, 47, 49, 47, 115], [99, 47, 102, 105, 108, 101], [114, 47, 49, 47, 115], [112, 47, 49, 47, 116]] : List Str) (by omega) (by omega) (by simp) (by simp)) (hpre := fun w hw => ⟨hw.seeOut_ hs_pa nM, hw.apart hs_pa nM (by simp)⟩) ?_
   rintro _ _ ⟨qp_18, qs_19, u_21, fq_20, f_22, rfl, rfl⟩
   have hlu_21 : u_21.length ≤ 64 := by have hx_ := f_22; simp only [List.mem_cons, List.not_mem_nil, or_false] at hx_; rcases hx_ with hx_ | hx_ | hx_ | hx_ <;> first | (rw [hx_]; decide) | (rw [hx_]; omega)
   refine go ?_
   refine jF rfl (jR (ps := [(0, str [53]), (1, str [120]), (2, str [57, 57, 57]), (3, str [49])]) (cur := #[str [53], str [120], str [57, 57, 57], str [49]]) kI kM kV rfl (by kernel_rfl) (by decide) (by decide)) ?_
   rintro _ _ ⟨a_24, rfl, rfl⟩
   refine jA [1, 0] (D_pick c_2 pa pc p qp_18 qs_19 a_24 4 ([[53], [120], [57, 57, 57], [49]] : List Str) (by omega) (by omega) (by simp) (by simp)) (hpre := fun w hw => ⟨hw.seeOut_ hs_pa nM, hw.apart hs_pa nM (by simp)⟩) ?_
   rintro _ _ ⟨qp_25, qs_26, u_28, fq_27, f_29, rfl, rfl⟩
   have hlu_28 : u_28.length ≤ 64 := by have hx_ := f_29; simp only [List.mem_cons, List.not_mem_nil, or_false] at hx_; rcases hx_ with hx_ | hx_ | hx_ | hx_ <;> first | (rw [hx_]; decide) | (rw [hx_]; omega)
   refine jA [] (C_sPutKey l_8a l_8c l_8 u_21 u_28 (by omega) (by omega)) (hpre := fun w hw => hw.see (i := 1) rfl) ?_
   rintro _ _ ⟨a_31, c_32, rfl, rfl⟩
   refine go ?_
   refine jA [1] (D_proc14 c_2 pa pc p qp_25 qs_26 (by omega) (by omega)) (hpre := fun w hw => ⟨hw.seeOut_ hs_pa nM, hw.apart hs_pa nM (by simp)⟩) ?_
   rintro _ _ ⟨qp_33, qs_34, n_36, fq_35, f_37, rfl, rfl⟩
   refine go ?_
   refine jA [0] (D_any13 c_2 pa pc p qp_33 qs_34 (by omega) (by omega)) (hpre := fun w hw => ⟨hw.seeOut_ hs_pa nM, hw.apart hs_pa nM (by simp)⟩) ?_
   rintro _ _ ⟨qp_39, qs_40, C_42, fq_41, f_43, rfl, rfl⟩
   obtain ⟨f_431, f_432, f_433, f_434, f_435, f_436⟩ := id f_43
   refine go ?_
   refine jD 3 [iv C_42.kind, str C_42.name, str C_42.to_, iv C_42.a, iv C_42.b, str C_42.text] ?_
   refine go ?_
   exact jt [1] ⟨a_31, c_32, (putKey l_8 u_21 u_28), n_36, C_42, ((f_9.put _ _ (by omega) (by omega)).mono (by omega)), (by first | omega | (simp only [LE]; omega)), f_43, rfl, rfl⟩
 refine go ?_
 refine jA [0] (D_proc14 c_2 pa pc p qp_11 qs_12 (by omega) (by omega)) (hpre := fun w hw => ⟨hw.seeOut_ hs_pa nM, hw.apart hs_pa nM (by simp)⟩) ?_
 rintro _ _ ⟨qp_45, qs_46, n_48, fq_47, f_49, rfl, rfl⟩
 refine go ?_
 refine jA [0] (D_any13 c_2 pa pc p qp_45 qs_46 (by omega) (by omega)) (hpre := fun w hw => ⟨hw.seeOut_ hs_pa nM, hw.apart hs_pa nM (by simp)⟩) ?_
 rintro _ _ ⟨qp_51, qs_52, C_54, fq_53, f_55, rfl, rfl⟩
 obtain ⟨f_551, f_552, f_553, f_554, f_555, f_556⟩ := id f_55
 refine go ?_
 refine jD 2 [iv C_54.kind, str C_54.name, str C_54.to_, iv C_54.a, iv C_54.b, str C_54.text] ?_
 refine go ?_
 exact jt [1] ⟨l_8a, l_8c, l_8, n_48, C_54, (f_9.mono (by omega)), (by first | omega | (simp only [LE]; omega)), f_55, rfl, rfl⟩

theorem Y_iAnsText (a : AN) (ha : (0 ≤ a.code ∧ a.code ≤ 9) ∧ (-1 ≤ a.n ∧ a.n ≤ 1000000000) ∧ a.text.length ≤ 1048576) :
   Ct Tryz.prog 42 [.agg #[.int .i64 a.code, .int .i64 a.n, str a.text]] [] (fun _ => True) (fun v A' => v = str (ansText a) ∧ A' = []) := by
 refine Ct.intro Tryz.func42 rfl Tryz.ntmps42 (lb rfl) fun w0 hpre => ?_
 obtain ⟨⟨ha1, ha2⟩, ⟨ha3, ha4⟩, ha5⟩ := id ha
 refine go ?_
 refine jM [iv a.code, iv a.n, str a.text] fun b_1 => ?_
 refine go ?_
 refine jH [0] 8 ?_
 refine go ?_
 refine jB (i := 2) ?_
 refine jI [] (N_dec a.code (by omega)) ?_
 rintro _ _ ⟨u_16, e_14, f_17, rfl, rfl⟩
 refine go ?_
 refine jB (i := 6) ?_
 refine jI [] (N_dec a.n (by omega)) ?_
 rintro _ _ ⟨u_24, e_22, f_25, rfl, rfl⟩
 refine go ?_
 by_cases h_26 : a.text = []
 · refine go ?_
   refine jE (.inl rfl) rfl (jC (v := str ((u_16 ++ [32]) ++ u_24)) rfl) (List.nil_sublist _) ?_
   refine ⟨congrArg str (Eq.symm ?_), rfl⟩
   unfold ansText
   simp only [e_14, e_22]
   first | rw [if_pos (by assumption)] | rw [if_neg (by assumption)]
   all_goals simp only [List.append_assoc]
 refine go ?_
 refine jA [] (N_hex a.text (by omega)) ?_
 rintro _ _ ⟨u_29, b_31, e_27, f_30, rfl, rfl⟩
 refine go ?_
 refine jE (.inl rfl) rfl (jC (v := str (((u_16 ++ [32]) ++ u_24) ++ ([32] ++ u_29))) rfl) (List.nil_sublist _) ?_
 refine ⟨congrArg str (Eq.symm ?_), rfl⟩
 unfold ansText
 simp only [e_14, e_22, e_27]
 first | rw [if_pos (by assumption)] | rw [if_neg (by assumption)]
 all_goals simp only [List.append_assoc]

theorem Y_sAnsText (a : AN) (ha : (0 ≤ a.code ∧ a.code ≤ 9) ∧ (-1 ≤ a.n ∧ a.n ≤ 1000000000) ∧ a.text.length ≤ 1048576) :
   Ct Tryz.prog 43 [.agg #[.int .i64 a.code, .int .i64 a.n, str a.text]] [] (fun _ => True) (fun v A' => v = str (ansText a) ∧ A' = []) := by
 refine Ct.intro Tryz.func43 rfl Tryz.ntmps43 (lb rfl) fun w0 hpre => ?_
 obtain ⟨⟨ha1, ha2⟩, ⟨ha3, ha4⟩, ha5⟩ := id ha
 refine go ?_
 refine jM [iv a.code, iv a.n, str a.text] fun b_1 => ?_
 refine go ?_
 refine jH [0] 8 ?_
 refine go ?_
 refine jB (i := 2) ?_
 refine jI [] (N_sDec a.code (by omega)) ?_
 rintro _ _ ⟨u_16, e_14, f_17, rfl, rfl⟩
 refine go ?_
 refine jB (i := 6) ?_
 refine jI [] (N_sDec a.n (by omega)) ?_
 rintro _ _ ⟨u_24, e_22, f_25, rfl, rfl⟩
 refine go ?_
 by_cases h_26 : a.text = []
 · refine go ?_
   refine jE (.inl rfl) rfl (jC (v := str ((u_16 ++ [32]) ++ u_24)) rfl) (List.nil_sublist _) ?_
   refine ⟨congrArg str (Eq.symm ?_), rfl⟩
   unfold ansText
   simp only [e_14, e_22]
   first | rw [if_pos (by assumption)] | rw [if_neg (by assumption)]
   all_goals simp only [List.append_assoc]
 refine go ?_
 refine jA [] (N_sHex a.text (by omega)) ?_
 rintro _ _ ⟨u_29, b_31, e_27, f_30, rfl, rfl⟩
 refine go ?_
 refine jE (.inl rfl) rfl (jC (v := str ((((u_16 ++ [32]) ++ u_24) ++ [32]) ++ u_29)) rfl) (List.nil_sublist _) ?_
 refine ⟨congrArg str (Eq.symm ?_), rfl⟩
 unfold ansText
 simp only [e_14, e_22, e_27]
 first | rw [if_pos (by assumption)] | rw [if_neg (by assumption)]
 all_goals simp only [List.append_assoc]

theorem I_sameAnswer (a b : AN) :
   Ct Tryz.prog 44 [.agg #[.int .i64 a.code, .int .i64 a.n, str a.text], .agg #[.int .i64 b.code, .int .i64 b.n, str b.text]] [] (fun _ => True) (fun v A' => v = .bool (decide (a = b)) ∧ A' = []) := by
 refine Ct.intro Tryz.func44 rfl Tryz.ntmps44 (lb rfl) fun w0 hpre => ?_
 refine go ?_
 refine jM [iv a.code, iv a.n, str a.text] fun b_1 => ?_
 refine jM [iv b.code, iv b.n, str b.text] fun b_2 => ?_
 refine go ?_
 refine jK (PO.eqlA a b rfl rfl) ?_
 refine go ?_
 exact jJ [] ⟨rfl, rfl⟩
end Go.Proofs.YthlfmbbaomdciaaGreatDoor
