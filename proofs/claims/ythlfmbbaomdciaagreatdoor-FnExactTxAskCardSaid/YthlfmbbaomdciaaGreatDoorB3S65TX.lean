/-
Texts of the walk, joined: what each one proves stands at its theorems.
-/
import Derived.Test.YthlfmbbaomdciaaGreatDoorB0S65TX
set_option linter.unusedSimpArgs false
set_option linter.unusedVariables false
set_option linter.unnecessarySimpa false
set_option maxHeartbeats 4000000
set_option maxRecDepth 4000
namespace Go.Proofs.YthlfmbbaomdciaaGreatDoor
open Go Go.RowKit
attribute [local irreducible] JL JC JQ JO LO PO JA JX Ct
set_option maxRecDepth 4000 in
theorem I_joinTx (p : Nat) (u0 u1 u2 u3 u4 u5 u8 u9 : Value) (a6 : Option Addr) (c6 : Nat) (rr : List Str) (a7 : Option Addr) (c7 : Nat) (ww : List Str) (b1 : Option Addr) (d1 : Nat) (r' : List Str) (b2 : Option Addr) (d2 : Nat) (w' : List Str) (h1 : rr.length ≤ 1000000000) (h2 : ww.length ≤ 1000000000) (h3 : r'.length ≤ 1000000000) (h4 : w'.length ≤ 1000000000) :
   Ct Tryz.prog 98 [.pointer (some ⟨p, 6, none⟩), .agg #[.slice b1 r'.length d1, .slice b2 w'.length d2]] [bk p 35 [u0, u1, u2, u3, u4, u5, .slice a6 rr.length c6, .slice a7 ww.length c7, u8, u9], rS a6 c6 rr, rS a7 c7 ww, rS b1 d1 r', rS b2 d2 w'] (fun _ => True) (fun v A' => ∃ x1 y1 x2 y2, v = .tuple #[] ∧ A' = [bk p 35 [u0, u1, u2, u3, u4, u5, .slice x1 ((r'.foldl addSpan rr).length) y1, .slice x2 ((w'.foldl addSpan ww).length) y2, u8, u9], rS x1 y1 (r'.foldl addSpan rr), rS x2 y2 (w'.foldl addSpan ww), rS b1 d1 r', rS b2 d2 w']) := by
 refine Ct.intro Tryz.func98 rfl Tryz.ntmps98 (lb rfl) fun w0 hpre => ?_
 refine go ?_
 refine jM [.slice b1 r'.length d1, .slice b2 w'.length d2] fun b_1 => ?_
 refine jb <| jT <| jc <| jc <| jy ?_
 refine gQ ?_
 refine jb <| jT <| JC.block <| JC.ghost (L' := [bk p 35 [u0, u1, u2, u3, u4, u5, .slice a6 rr.length c6, .slice a7 ww.length c7, u8, u9], rS a6 c6 rr, bk b_1 32 [.slice b1 r'.length d1, .slice b2 w'.length d2], rS a7 c7 ww, rS b1 d1 r', rS b2 d2 w']) (fun w hw => hw.perm (pick_perm [1, 1] (A := [bk p 35 [u0, u1, u2, u3, u4, u5, .slice a6 rr.length c6, .slice a7 ww.length c7, u8, u9], rS a6 c6 rr]) (F := [bk b_1 32 [.slice b1 r'.length d1, .slice b2 w'.length d2], rS a7 c7 ww, rS b1 d1 r', rS b2 d2 w']) rfl).symm) <| jL (fun k_ e_ L_ => ∃ j_ : Nat, ∃ D : List Str, ∃ xD : Option Addr, ∃ yD : Nat, (j_ ≤ r'.length) ∧ (D = (r'.take j_).foldl addSpan rr) ∧ (D.length ≤ rr.length + j_) ∧ EL e_ [(0, .pointer (some ⟨p, 6, none⟩)), (3, .pointer (some ⟨b_1, 0, none⟩)), (9, .slice b1 r'.length d1), (10, nv r'.length), (11, nv j_)] ∧ L_ = [bk p 35 [u0, u1, u2, u3, u4, u5, .slice xD D.length yD, .slice a7 ww.length c7, u8, u9], rS xD yD D, bk b_1 32 [.slice b1 r'.length d1, .slice b2 w'.length d2], rS a7 c7 ww, rS b1 d1 r', rS b2 d2 w'] ∧ k_ = r'.length - j_) _ ⟨0, rr, a6, c6, by omega, rfl, by omega, EL.go, rfl, rfl⟩ ?_
 rintro _ _ _ ⟨j_, D, xD, yD, hj, hDD, hlD, ⟨_, rfl⟩, rfl, rfl⟩
 refine go ?_
 by_cases h_2 : ((j_ : Nat) : Int) < ((r'.length : Nat) : Int)
 · have hlt : j_ < r'.length := by omega
   refine go ?_
   refine jo fun hst => ?_
   obtain ⟨hr_3, hr_3b, -⟩ := row_some 4 rfl (by omega) hst
   refine go ?_
   refine jU (jr 4 (v := str (r'.getD j_ [])) rfl rfl kJ (atS (by omega))) ?_
   refine go ?_
   refine jA [1] (C_addSpan xD yD D (r'.getD j_ []) (by omega)) ?_
   rintro _ _ ⟨a_4, c_5, rfl, rfl⟩
   refine go ?_
   refine jD 1 [u0, u1, u2, u3, u4, u5, .slice a_4 (addSpan D (r'.getD j_ [])).length c_5, .slice a7 ww.length c7, u8, u9] ?_
   refine go ?_
   exact jP [1, 0, 0, 0, 0, 0] ⟨j_ + 1, (addSpan D (r'.getD j_ [])), a_4, c_5, by omega, (by rw [take_at (getD_some (d := []) hlt), List.foldl_append, ← hDD]; rfl), (by have h_ := addSpan_len D (r'.getD j_ []); omega), EL.go, rfl, rfl⟩
 rw [List.take_of_length_le (by omega)] at hDD
 refine JC.condF (cB (dF h_2)) <| JC.exit <| JQ.thenExit <| JQ.thenExit <| JQ.blockE <| jT <| jc <| jy ?_
 refine gQ ?_
 refine jb <| jT <| JC.block <| JC.ghost (L' := [bk p 35 [u0, u1, u2, u3, u4, u5, .slice xD D.length yD, .slice a7 ww.length c7, u8, u9], rS a7 c7 ww, rS xD yD D, bk b_1 32 [.slice b1 r'.length d1, .slice b2 w'.length d2], rS b1 d1 r', rS b2 d2 w']) (fun w hw => hw.perm (pick_perm [0, 2] (A := [bk p 35 [u0, u1, u2, u3, u4, u5, .slice xD D.length yD, .slice a7 ww.length c7, u8, u9], rS a7 c7 ww]) (F := [rS xD yD D, bk b_1 32 [.slice b1 r'.length d1, .slice b2 w'.length d2], rS b1 d1 r', rS b2 d2 w']) rfl).symm) <| jL (fun k_ e_ L_ => ∃ j_ : Nat, ∃ E : List Str, ∃ xE : Option Addr, ∃ yE : Nat, (j_ ≤ w'.length) ∧ (E = (w'.take j_).foldl addSpan ww) ∧ (E.length ≤ ww.length + j_) ∧ EL e_ [(0, .pointer (some ⟨p, 6, none⟩)), (26, .slice b2 w'.length d2), (27, nv w'.length), (28, nv j_)] ∧ L_ = [bk p 35 [u0, u1, u2, u3, u4, u5, .slice xD D.length yD, .slice xE E.length yE, u8, u9], rS xE yE E, rS xD yD D, bk b_1 32 [.slice b1 r'.length d1, .slice b2 w'.length d2], rS b1 d1 r', rS b2 d2 w'] ∧ k_ = w'.length - j_) _ ⟨0, ww, a7, c7, by omega, rfl, by omega, EL.go, rfl, rfl⟩ ?_
 rintro _ _ _ ⟨j_, E, xE, yE, hj, hDE, hlE, ⟨_, rfl⟩, rfl, rfl⟩
 refine go ?_
 by_cases h_6 : ((j_ : Nat) : Int) < ((w'.length : Nat) : Int)
 · have hlt : j_ < w'.length := by omega
   refine go ?_
   refine jo fun hst => ?_
   obtain ⟨hr_7, hr_7b, -⟩ := row_some 5 rfl (by omega) hst
   refine go ?_
   refine jU (jr 5 (v := str (w'.getD j_ [])) rfl rfl kJ (atS (by omega))) ?_
   refine go ?_
   refine jA [1] (C_addSpan xE yE E (w'.getD j_ []) (by omega)) ?_
   rintro _ _ ⟨a_8, c_9, rfl, rfl⟩
   refine go ?_
   refine jD 1 [u0, u1, u2, u3, u4, u5, .slice xD D.length yD, .slice a_8 (addSpan E (w'.getD j_ [])).length c_9, u8, u9] ?_
   refine go ?_
   exact jP [1, 0, 0, 0, 0, 0] ⟨j_ + 1, (addSpan E (w'.getD j_ [])), a_8, c_9, by omega, (by rw [take_at (getD_some (d := []) hlt), List.foldl_append, ← hDE]; rfl), (by have h_ := addSpan_len E (w'.getD j_ []); omega), EL.go, rfl, rfl⟩
 rw [List.take_of_length_le (by omega)] at hDE
 refine go ?_
 refine ju (pick_perm [0, 1, 0, 1, 1] (A := [bk p 35 [u0, u1, u2, u3, u4, u5, .slice xD D.length yD, .slice xE E.length yE, u8, u9], rS xD yD D, rS xE yE E, rS b1 d1 r', rS b2 d2 w']) (F := [bk b_1 32 [.slice b1 r'.length d1, .slice b2 w'.length d2]]) rfl).symm ?_
 refine Done.none (.inr rfl) rfl (tS 5 _) ?_
 subst hDD
 subst hDE
 exact ⟨_, _, _, _, rfl, rfl⟩

set_option maxRecDepth 4000 in
theorem Y_iTxAsk (p : TX) (hl : p.t.lim 500000000) (sa : Option Addr) (sc : Nat) (s : List Cell) (n : Nat) (hO : okC' n 1048576 s) (hn : n ≤ 28000000) (hc : okT p.t) (hg0 : p.t.calls.length < 12 → gro n p.t.calls.length ≤ 28000000) (hgT0 : p.t.calls.length < 12 → groT n 0 p.t.calls.length ≤ 1000000000) (B : Nat) (hB : p.t.calls.length < 12 → 7 * gro n p.t.calls.length + 200 ≤ B) (c : CL) (hcc : c.ok 1048576) :
   Ct Tryz.prog 17 [.slice sa s.length sc, .agg #[.int .i64 p.t.id, .int .i64 p.t.age, .int .i64 p.t.proc, .int .i64 p.t.began, .slice p.x.a0 p.t.calls.length p.x.c0, .slice p.x.a1 p.t.ans.length p.x.c1, .slice p.x.a2 p.t.rd.length p.x.c2, .slice p.x.a3 p.t.wr.length p.x.c3, .slice p.x.a4 p.t.marks.length p.x.c4, .int .i64 p.t.state], .agg #[.int .i64 c.kind, str c.name, str c.to_, .int .i64 c.a, .int .i64 c.b, str c.text]] [] (fun w => Sees w (.slice sa s.length sc) 2 s.length (s.flatMap encC) ∧ SeesA w (rdsX p) ∧ HexOk w) (fun v A' => ∃ (z : TX) (a : AN), TD.askV (viewA s p.t) p.t c = (z.t, a) ∧ ((0 ≤ a.code ∧ a.code ≤ 9) ∧ (-1 ≤ a.n ∧ a.n ≤ 1000000000) ∧ a.text.length ≤ 30000000000000) ∧ (z.t.rd.length ≤ p.t.rd.length + B ∧ z.t.wr.length ≤ p.t.wr.length + B) ∧ v = .tuple #[.agg #[.int .i64 z.t.id, .int .i64 z.t.age, .int .i64 z.t.proc, .int .i64 z.t.began, .slice z.x.a0 z.t.calls.length z.x.c0, .slice z.x.a1 z.t.ans.length z.x.c1, .slice z.x.a2 z.t.rd.length z.x.c2, .slice z.x.a3 z.t.wr.length z.x.c3, .slice z.x.a4 z.t.marks.length z.x.c4, .int .i64 z.t.state], .agg #[.int .i64 a.code, .int .i64 a.n, str a.text]] ∧ A' = [.rows (rdsX z)]) := by
 have hlv := hl
 refine Ct.introL Tryz.func17 rfl Tryz.ntmps17 (lb rfl) fun w0 hpre hlow => ?_
 have hs_s : Sees w0 _ _ _ _ := hpre.1
 have hl := hl.mono (show 500000000 ≤ 1000000000 by decide)
 obtain ⟨hs_1, hs_2, hs_3, hs_4, hs_5⟩ := seesX hpre.2.1
 have hlp := hl
 obtain ⟨hl0_, hl1_, hl2_, hl3_, hl4_⟩ := id hl
 have hO1 := hO.1
 have hsl : (stepsOf p.t).length = p.t.calls.length := List.length_map _
 have hsP := okSteps_of hc
 have hcp := hc.pr
 have hcn := hc.n
 obtain ⟨hc1, hc2, hc3, hc4, hc5, hc6⟩ := id hcc
 refine go ?_
 refine jM (xc p) fun b_6 => ?_
 refine jM [iv c.kind, str c.name, str c.to_, iv c.a, iv c.b, str c.text] fun b_7 => ?_
 refine jG xzc fun b_8 => ?_
 refine jG [iv 0, iv 0, str []] fun b_9 => ?_
 refine go ?_
 refine jA [] (Z_implTxclone p hlp) (hpre := fun w hw => hw.seeOutA hpre.2.1 nMA) ?_
 rintro _ _ ⟨y_10, hy_11, rfl, rfl⟩
 refine jG xzc fun b_12 => ?_
 refine jD 0 (xc y_10) ?_
 refine go ?_
 have hst : y_10.t.state = p.t.state := congrArg TD.state hy_11
 have hcl : y_10.t.calls.length = p.t.calls.length := by rw [hy_11]
 have hpr : y_10.t.proc = p.t.proc := congrArg TD.proc hy_11
 have hgy : gro n y_10.t.calls.length = gro n p.t.calls.length := by rw [hcl]
 refine go ?_
 by_cases h_13 : p.t.state = 1
 · refine go ?_
   by_cases h_14 : 12 ≤ ((p.t.calls.length : Nat) : Int)
   · refine go ?_
     refine jK (je (ps := [(0, iv 3)]) (cs := [iv 3, iv 0, str []]) rfl (by kernel_rfl)) ?_
     refine jD 3 (xc y_10) ?_
     refine jD 2 [iv 3, iv 0, str []] ?_
     refine go ?_
     refine ju (pick_perm [1] (A := [Res.rows (rdsX y_10)]) (F := [bk b_12 35 (xc y_10), bk b_9 39 [iv 3, iv 0, str []], bk b_8 35 (xc y_10), bk b_7 43 [iv c.kind, str c.name, str c.to_, iv c.a, iv c.b, str c.text], bk b_6 35 (xc p)]) rfl).symm ?_
     refine ji (.inl rfl) rfl (js (jl 3 (vs := (xc y_10)) rfl rfl kT kQ rfl rfl) ⟨_, rfl⟩) (js (jl 2 (vs := [iv 3, iv 0, str []]) rfl rfl kp kY rfl rfl) ⟨_, rfl⟩) (tS 1 _) ?_
     have hm : TD.askV (viewA s p.t) p.t c = (p.t, (⟨3, 0, []⟩ : AN)) := by first | exact askV_off (by omega) | exact askV_full (by omega) (by omega)
     exact ⟨y_10, (⟨3, 0, []⟩ : AN), by rw [hm, hy_11], (by (try dsimp only); (try simp only [List.length_nil]); omega), (by rw [hy_11]; omega), rfl, rfl⟩
   refine go ?_
   have hg := hg0 (by omega)
   have hgT := hgT0 (by omega)
   have hB_ := hB (by omega)
   refine JC.cut (fun e_ L_ => ∃ a_15 : Option Addr, ∃ c_16 : Nat, ∃ v_17 : List Cell, ∃ x_20 : MA, ∃ m_21 : MS, ∃ A_22 : AN, ∃ b_26 : Nat, ∃ b_27 : Nat, (viewA s p.t = v_17) ∧ (okC' (gro (n) p.t.calls.length) 1048576 v_17) ∧ ((⟨v_17, [], []⟩ : MS).doCall p.t.proc c = (m_21, A_22)) ∧ (m_21.ok (3 * (gro (n) p.t.calls.length) + 20) (7 * (gro (n) p.t.calls.length) + 200)) ∧ ((0 ≤ A_22.code ∧ A_22.code ≤ 9) ∧ (-1 ≤ A_22.n ∧ A_22.n ≤ 1000000000) ∧ A_22.text.length ≤ 30000000000000) ∧ EL e_ [(5, .pointer (some ⟨b_7, 0, none⟩)), (6, .pointer (some ⟨b_8, 0, none⟩)), (7, .pointer (some ⟨b_9, 0, none⟩)), (8, .pointer (some ⟨b_12, 0, none⟩)), (10, .pointer (some ⟨b_26, 0, none⟩)), (11, .pointer (some ⟨b_27, 0, none⟩))] ∧ L_ = [bk b_27 32 [.slice x_20.a1 m_21.r.length x_20.c1, .slice x_20.a2 m_21.w.length x_20.c2], bk b_26 39 [iv A_22.code, iv A_22.n, str A_22.text], rC x_20.a0 x_20.c0 m_21.s, rS x_20.a1 x_20.c1 m_21.r, rS x_20.a2 x_20.c2 m_21.w, rC a_15 c_16 v_17, bk b_12 35 (xc y_10), Res.rows (rdsX y_10), bk b_9 39 [iv 0, iv 0, str []], bk b_8 35 xzc, bk b_7 43 [iv c.kind, str c.name, str c.to_, iv c.a, iv c.b, str c.text], bk b_6 35 (xc p)]) ?_ ?_
   · have hg := hg0 (by omega)
     have hgT := hgT0 (by omega)
     have hB_ := hB (by omega)
     refine jH [4, 4] 13 ?_
     refine go ?_
     repeat' first
       | refine kD (i := 2) (j := 11) (k := 12) (by decide +kernel) ?_ ?_ ?_
       | refine kD (i := 6) (j := 11) (k := 12) (by decide +kernel) ?_ ?_ ?_
       | refine jZ (i := 11) (j := 12) (by decide +kernel) ?_ ?_
       | refine jB (i := 12) ?_ (by decide +kernel)
       | refine jB (i := 14) ?_ (by decide +kernel)
       | refine jB (i := 15) ?_ (by decide +kernel)
       | refine jB (i := 11) ?_ (by decide +kernel)
       | refine jZ (i := 6) (j := 12) (by decide +kernel) ?_ ?_
       | refine jB (i := 6) ?_ (by decide +kernel)
       | refine jZ (i := 6) (j := 11) (by decide +kernel) ?_ ?_
       | refine jZ (i := 2) (j := 12) (by decide +kernel) ?_ ?_
       | refine jB (i := 2) ?_ (by decide +kernel)
       | refine jZ (i := 2) (j := 11) (by decide +kernel) ?_ ?_
       | (refine jI (i := 2) [] (Y_iTxView p hlv sa sc s n hO (by omega) hc hg hgT) (hpre := fun w hw => ⟨hw.seeOut_ hs_s nM, hw.seeOutA hpre.2.1 nMA, hw.hex hlow hpre.2.2⟩) ?_; rintro _ _ ⟨a_50, c_51, v_52, e_53, hO_54, rfl, rfl⟩)
       | (refine jI (i := 6) [] (I_callOn a_50 c_51 v_52 p.t.proc c (by have hl_ := (hO_54).1; omega) (by omega) hcc hO_54 (by omega)) (hpre := fun w hw => ⟨hw.sg, hw.hex hlow hpre.2.2⟩) ?_; rintro _ _ ⟨x_63, m_64, A_65, e_66, k_67, f_68, rfl, rfl⟩; refine go ?_)
       | (refine JX.al (i := 11) [iv 0, iv 0, str []] fun b_71 => ?_; refine go ?_)
       | (refine JX.al (i := 12) [.slice none 0 0, .slice none 0 0] fun b_73 => ?_; refine go ?_)
       | (refine JX.sx (i := 14) [iv A_65.code, iv A_65.n, str A_65.text] ?_)
       | (refine JX.sy (i := 15) [.slice x_63.a1 m_64.r.length x_63.c1, .slice x_63.a2 m_64.w.length x_63.c2] ?_)
       | exact JQ.cq ⟨a_50, c_51, v_52, x_63, m_64, A_65, b_71, b_73, e_53, hO_54, e_66, k_67, f_68, EL.go, rfl⟩
   rintro _ _ ⟨a_15, c_16, v_17, x_20, m_21, A_22, b_26, b_27, e_18, hO_19, e_23, k_24, f_25, ⟨_, rfl⟩, rfl⟩
   refine jT <| jc ?_
   refine JC.ghost (L' := [Res.row (.slice y_10.x.a0 y_10.t.calls.length y_10.x.c0) 43 6 y_10.t.calls.length (y_10.t.calls.flatMap encK), Res.row (.slice y_10.x.a1 y_10.t.ans.length y_10.x.c1) 39 3 y_10.t.ans.length (y_10.t.ans.flatMap encA), rS y_10.x.a2 y_10.x.c2 y_10.t.rd, rS y_10.x.a3 y_10.x.c3 y_10.t.wr, rI y_10.x.a4 y_10.x.c4 y_10.t.marks, bk b_27 32 [.slice x_20.a1 m_21.r.length x_20.c1, .slice x_20.a2 m_21.w.length x_20.c2], bk b_26 39 [iv A_22.code, iv A_22.n, str A_22.text], rC x_20.a0 x_20.c0 m_21.s, rS x_20.a1 x_20.c1 m_21.r, rS x_20.a2 x_20.c2 m_21.w, rC a_15 c_16 v_17, bk b_12 35 (xc y_10), bk b_9 39 [iv 0, iv 0, str []], bk b_8 35 xzc, bk b_7 43 [iv c.kind, str c.name, str c.to_, iv c.a, iv c.b, str c.text], bk b_6 35 (xc p)]) (fun w hw => hw.openR 7 rfl) ?_
   refine JC.pk [5, 5, 9, 9, 9, 9, 0, 0, 0, 0, 0, 1, 1] ?_
   have hl_calls : y_10.t.calls.length = p.t.calls.length := by rw [hy_11]
   have hl_ans : y_10.t.ans.length = p.t.ans.length := by rw [hy_11]
   have hl_rd : y_10.t.rd.length = p.t.rd.length := by rw [hy_11]
   have hl_wr : y_10.t.wr.length = p.t.wr.length := by rw [hy_11]
   refine go ?_
   refine jF rfl (jR (ps := [(0, .agg #[iv c.kind, str c.name, str c.to_, iv c.a, iv c.b, str c.text])]) (cur := #[iv c.kind, str c.name, str c.to_, iv c.a, iv c.b, str c.text]) kf kX Tryz.zeroValue43 rfl (by kernel_rfl) (by decide) (by decide)) ?_
   rintro _ _ ⟨a_261, rfl, rfl⟩
   refine jF rfl (jX 7 (q := 1) (news := ([c] : List CL).flatMap encK) (n' := (y_10.t.calls ++ ([c] : List CL)).length) (cs' := (y_10.t.calls ++ ([c] : List CL)).flatMap encK) rfl kf kf Tryz.typeInfo43 rfl (by' := 72) rfl rfl rfl rfl rfl (fun w hw => Src.sees (hw.see (i := 0) rfl) (oneK _)) (by (try simp only [LE]); omega) (by (try simp only [LE]); omega) (by simp only [List.length_append, List.length_take, List.length_drop, List.length_cons, List.length_nil] <;> first | rfl | omega) (by simp only [List.flatMap_append])) ?_
   rintro _ _ ⟨a_262, c_263, rfl, rfl⟩
   refine go ?_
   refine jD 3 [iv y_10.t.id, iv y_10.t.age, iv y_10.t.proc, iv y_10.t.began, .slice a_262 (y_10.t.calls ++ ([c] : List CL)).length c_263, .slice y_10.x.a1 y_10.t.ans.length y_10.x.c1, .slice y_10.x.a2 y_10.t.rd.length y_10.x.c2, .slice y_10.x.a3 y_10.t.wr.length y_10.x.c3, .slice y_10.x.a4 y_10.t.marks.length y_10.x.c4, iv y_10.t.state] ?_
   refine go ?_
   refine jF rfl (jR (ps := [(0, .agg #[iv A_22.code, iv A_22.n, str A_22.text])]) (cur := #[iv A_22.code, iv A_22.n, str A_22.text]) ke kY Tryz.zeroValue39 rfl (by kernel_rfl) (by decide) (by decide)) ?_
   rintro _ _ ⟨a_264, rfl, rfl⟩
   refine jF rfl (jX 9 (q := 1) (news := ([A_22] : List AN).flatMap encA) (n' := (y_10.t.ans ++ ([A_22] : List AN)).length) (cs' := (y_10.t.ans ++ ([A_22] : List AN)).flatMap encA) rfl ke ke Tryz.typeInfo39 rfl (by' := 32) rfl rfl rfl rfl rfl (fun w hw => Src.sees (hw.see (i := 0) rfl) (oneA _)) (by (try simp only [LE]); omega) (by (try simp only [LE]); omega) (by simp only [List.length_append, List.length_take, List.length_drop, List.length_cons, List.length_nil] <;> first | rfl | omega) (by simp only [List.flatMap_append])) ?_
   rintro _ _ ⟨a_265, c_266, rfl, rfl⟩
   refine go ?_
   refine jD 4 [iv y_10.t.id, iv y_10.t.age, iv y_10.t.proc, iv y_10.t.began, .slice a_262 (y_10.t.calls ++ ([c] : List CL)).length c_263, .slice a_265 (y_10.t.ans ++ ([A_22] : List AN)).length c_266, .slice y_10.x.a2 y_10.t.rd.length y_10.x.c2, .slice y_10.x.a3 y_10.t.wr.length y_10.x.c3, .slice y_10.x.a4 y_10.t.marks.length y_10.x.c4, iv y_10.t.state] ?_
   refine go ?_
   have hkr := k_24.2.1
   have hkw := k_24.2.2.1
   refine go ?_
   refine jA [4, 9, 9, 10, 10] (I_joinTx b_12 (iv y_10.t.id) (iv y_10.t.age) (iv y_10.t.proc) (iv y_10.t.began) (.slice a_262 (y_10.t.calls ++ ([c] : List CL)).length c_263) (.slice a_265 (y_10.t.ans ++ ([A_22] : List AN)).length c_266) (.slice y_10.x.a4 y_10.t.marks.length y_10.x.c4) (iv y_10.t.state) y_10.x.a2 y_10.x.c2 y_10.t.rd y_10.x.a3 y_10.x.c3 y_10.t.wr x_20.a1 x_20.c1 m_21.r x_20.a2 x_20.c2 m_21.w (by omega) (by omega) (by omega) (by omega)) ?_
   rintro _ _ ⟨a_267, c_268, a_269, c_270, rfl, rfl⟩
   refine go ?_
   refine jH [0, 7] 3 ?_
   refine go ?_
   refine jB (i := 2) ?_
   refine jp 10 [iv y_10.t.id, iv y_10.t.age, iv y_10.t.proc, iv y_10.t.began, .slice a_262 (y_10.t.calls ++ ([c] : List CL)).length c_263, .slice a_265 (y_10.t.ans ++ ([A_22] : List AN)).length c_266, .slice a_267 (m_21.r.foldl addSpan y_10.t.rd).length c_268, .slice a_269 (m_21.w.foldl addSpan y_10.t.wr).length c_270, .slice y_10.x.a4 y_10.t.marks.length y_10.x.c4, iv y_10.t.state] ?_
   refine jB (i := 3) ?_
   refine jS 9 [iv A_22.code, iv A_22.n, str A_22.text] ?_
   refine jT <| jz ?_
   refine cloJ (rdsX (⟨⟨a_262, c_263, a_265, c_266, a_267, c_268, a_269, c_270, y_10.x.a4, y_10.x.c4⟩, ⟨y_10.t.id, y_10.t.age, y_10.t.proc, y_10.t.began, (y_10.t.calls ++ ([c] : List CL)), (y_10.t.ans ++ ([A_22] : List AN)), m_21.r.foldl addSpan y_10.t.rd, m_21.w.foldl addSpan y_10.t.wr, y_10.t.marks, y_10.t.state⟩⟩ : TX)) [12, 12, 1, 1, 10] <| ji (.inl rfl) rfl (js (jl 9 (vs := [iv y_10.t.id, iv y_10.t.age, iv y_10.t.proc, iv y_10.t.began, .slice a_262 (y_10.t.calls ++ ([c] : List CL)).length c_263, .slice a_265 (y_10.t.ans ++ ([A_22] : List AN)).length c_266, .slice a_267 (m_21.r.foldl addSpan y_10.t.rd).length c_268, .slice a_269 (m_21.w.foldl addSpan y_10.t.wr).length c_270, .slice y_10.x.a4 y_10.t.marks.length y_10.x.c4, iv y_10.t.state]) rfl rfl kT kQ rfl rfl) ⟨_, rfl⟩) (js (jl 8 (vs := [iv A_22.code, iv A_22.n, str A_22.text]) rfl rfl kp kY rfl rfl) ⟨_, rfl⟩) (tS 1 _) ?_
   have hv := e_18
   have hd := e_23
   try rw [hy_11] at hv
   try rw [hpr] at hd
   have hm : TD.askV (viewA s p.t) p.t c = ((⟨⟨a_262, c_263, a_265, c_266, a_267, c_268, a_269, c_270, y_10.x.a4, y_10.x.c4⟩, ⟨y_10.t.id, y_10.t.age, y_10.t.proc, y_10.t.began, (y_10.t.calls ++ ([c] : List CL)), (y_10.t.ans ++ ([A_22] : List AN)), m_21.r.foldl addSpan y_10.t.rd, m_21.w.foldl addSpan y_10.t.wr, y_10.t.marks, y_10.t.state⟩⟩ : TX).t, A_22) := by rw [askV_on (by omega) (by omega), hv, hd, ← hy_11]
   exact ⟨(⟨⟨a_262, c_263, a_265, c_266, a_267, c_268, a_269, c_270, y_10.x.a4, y_10.x.c4⟩, ⟨y_10.t.id, y_10.t.age, y_10.t.proc, y_10.t.began, (y_10.t.calls ++ ([c] : List CL)), (y_10.t.ans ++ ([A_22] : List AN)), m_21.r.foldl addSpan y_10.t.rd, m_21.w.foldl addSpan y_10.t.wr, y_10.t.marks, y_10.t.state⟩⟩ : TX), A_22, hm, (by omega), ⟨(by have h_ := foldSpan_len m_21.r y_10.t.rd; dsimp only; omega), (by have h_ := foldSpan_len m_21.w y_10.t.wr; dsimp only; omega)⟩, rfl, rfl⟩
 refine go ?_
 refine jK (je (ps := [(0, iv 2)]) (cs := [iv 2, iv 0, str []]) rfl (by kernel_rfl)) ?_
 refine jD 3 (xc y_10) ?_
 refine jD 2 [iv 2, iv 0, str []] ?_
 refine go ?_
 refine ju (pick_perm [1] (A := [Res.rows (rdsX y_10)]) (F := [bk b_12 35 (xc y_10), bk b_9 39 [iv 2, iv 0, str []], bk b_8 35 (xc y_10), bk b_7 43 [iv c.kind, str c.name, str c.to_, iv c.a, iv c.b, str c.text], bk b_6 35 (xc p)]) rfl).symm ?_
 refine ji (.inl rfl) rfl (js (jl 3 (vs := (xc y_10)) rfl rfl kT kQ rfl rfl) ⟨_, rfl⟩) (js (jl 2 (vs := [iv 2, iv 0, str []]) rfl rfl kp kY rfl rfl) ⟨_, rfl⟩) (tS 1 _) ?_
 have hm : TD.askV (viewA s p.t) p.t c = (p.t, (⟨2, 0, []⟩ : AN)) := by first | exact askV_off (by omega) | exact askV_full (by omega) (by omega)
 exact ⟨y_10, (⟨2, 0, []⟩ : AN), by rw [hm, hy_11], (by (try dsimp only); (try simp only [List.length_nil]); omega), (by rw [hy_11]; omega), rfl, rfl⟩
end Go.Proofs.YthlfmbbaomdciaaGreatDoor
