/-
  Texts of the walk, joined: what each one proves stands at its theorems.
-/
import Derived.Test.YtghfijncihbojaaGreatDoorDatRb
import Derived.Test.YtghfijncihbojaaGreatDoorMo
import Derived.Lib.MinMax
import Derived.Test.YtghfijncihbojaaGreatDoorDatL
import Derived.Test.YtghfijncihbojaaGreatDoorS22MACH
set_option linter.unusedSimpArgs false
set_option linter.unusedVariables false
set_option linter.unnecessarySimpa false
namespace Go.Proofs.YtghfijncihbojaaGreatDoor
open Go Go.RowKit
attribute [local irreducible] JL JC JQ JO LO PO JA JX Ct

set_option maxRecDepth 4000 in
set_option maxHeartbeats 1000000 in
theorem Y_iTxSteps (p : TX) (hl : p.t.lim 1000000000) :
    Ct Tryz.prog 65 [.agg #[.int .i64 p.t.id, .int .i64 p.t.age, .int .i64 p.t.proc, .int .i64 p.t.began, .slice p.x.a0 p.t.calls.length p.x.c0, .slice p.x.a1 p.t.ans.length p.x.c1, .slice p.x.a2 p.t.rd.length p.x.c2, .slice p.x.a3 p.t.wr.length p.x.c3, .slice p.x.a4 p.t.marks.length p.x.c4, .int .i64 p.t.state]] [] (fun w => SeesA w (rdsX p)) (fun v A' => ∃ a c, v = .slice a (stepsOf p.t).length c ∧ A' = [Res.row (.slice a ((stepsOf p.t).length) c) 159 7 ((stepsOf p.t).length) ((stepsOf p.t).flatMap encP)]) := by
  refine Ct.intro Tryz.func65 rfl Tryz.ntmps65 (lb rfl) fun w0 hpre => ?_
  obtain ⟨hs_1, hs_2, hs_3, hs_4, hs_5⟩ := seesX hpre
  have hlp := hl
  obtain ⟨hl0_, hl1_, hl2_, hl3_, hl4_⟩ := id hl
  refine jD <| jF ?_
  refine jH rfl (jv (cs := [iv p.t.id, iv p.t.age, iv p.t.proc, iv p.t.began, .slice p.x.a0 p.t.calls.length p.x.c0, .slice p.x.a1 p.t.ans.length p.x.c1, .slice p.x.a2 p.t.rd.length p.x.c2, .slice p.x.a3 p.t.wr.length p.x.c3, .slice p.x.a4 p.t.marks.length p.x.c4, iv p.t.state]) rfl rfl) ?_
  rintro _ _ ⟨b_6, rfl, rfl⟩
  refine jA (jG (v := .slice none 0 0) rfl) <| jE <| jB <| jD <| jF <| jA (jG (v := .slice none 0 0) rfl) <| jE <| jB <| jD <| jD ?_
  refine jF <| jA (jY fo32_4 rfl) <| jT (jf 0 (v := .slice p.x.a0 p.t.calls.length p.x.c0) rfl rfl gP rfl) <| jA (jy gC rfl) <| jA (jC (v := iv 0) rfl) <| jE <| jB <| jl <| JC.nilRow 159 7 ?_
  refine kE (fun k_ e_ L_ => ∃ j_ : Nat, ∃ oa : Option Addr, ∃ oc : Nat, ∃ o_ : List SP, (j_ ≤ p.t.calls.length) ∧ (o_.length = j_) ∧ (o_ = (p.t.calls.take j_).map fun c => (⟨p.t.proc, c⟩ : SP)) ∧ e_ 1 = .pointer (some ⟨b_6, 0, none⟩) ∧ e_ 2 = .slice none 0 0 ∧ e_ 3 = .slice oa o_.length oc ∧ e_ 7 = .slice p.x.a0 p.t.calls.length p.x.c0 ∧ e_ 8 = nv p.t.calls.length ∧ e_ 9 = nv j_ ∧ L_ = [Res.row (.slice oa o_.length oc) 159 7 o_.length (o_.flatMap encP), bk b_6 32 [iv p.t.id, iv p.t.age, iv p.t.proc, iv p.t.began, .slice p.x.a0 p.t.calls.length p.x.c0, .slice p.x.a1 p.t.ans.length p.x.c1, .slice p.x.a2 p.t.rd.length p.x.c2, .slice p.x.a3 p.t.wr.length p.x.c3, .slice p.x.a4 p.t.marks.length p.x.c4, iv p.t.state]] ∧ k_ = p.t.calls.length - j_) _ ⟨0, none, 0, ([] : List SP), by omega, rfl, rfl, rfl, rfl, rfl, rfl, rfl, rfl, rfl, rfl⟩ ?_
  rintro _ e_7 _ ⟨j_, oa, oc, o_, hj, hol, ho, he_8, he_9, he_10, he_11, he_12, he_13, rfl, rfl⟩
  refine jD <| jF <| jA (jr he_13 he_12) <| jE <| jB <| jD ?_
  by_cases h_14 : ((j_ : Nat) : Int) < ((p.t.calls.length : Nat) : Int)
  · have hlt : j_ < p.t.calls.length := by omega
    refine jQ (cB (dT h_14)) <| jW <| jB <| jD <| jl <| jD <| jF ?_
    obtain ⟨hr_15, hr_15b, -⟩ := sees_some hs_1 (by omega)
    refine jA (kD (i := j_) gC ky hr_15 hr_15b he_11 he_13 (by omega)) <| jT (LO.loadSK (vs := [iv ((p.t.calls.getD j_ k0).kind), str ((p.t.calls.getD j_ k0).name), str ((p.t.calls.getD j_ k0).to_), iv ((p.t.calls.getD j_ k0).a), iv ((p.t.calls.getD j_ k0).b), str ((p.t.calls.getD j_ k0).text)]) hs_1 nM rfl gE ky (flat_take encK_len k0 p.t.calls j_ (by omega)) rfl (by decide)) ?_
    refine jH rfl (jh (z := .agg #[iv 0, str [], str [], iv 0, iv 0, str []]) (cs := [iv 0, str [], str [], iv 0, iv 0, str []]) Tryz.zeroValue43 rfl) ?_
    rintro _ _ ⟨b_16, rfl, rfl⟩
    refine jH rfl (ja 0 (vs := [iv ((p.t.calls.getD j_ k0).kind), str ((p.t.calls.getD j_ k0).name), str ((p.t.calls.getD j_ k0).to_), iv ((p.t.calls.getD j_ k0).a), iv ((p.t.calls.getD j_ k0).b), str ((p.t.calls.getD j_ k0).text)]) (cs' := [iv ((p.t.calls.getD j_ k0).kind), str ((p.t.calls.getD j_ k0).name), str ((p.t.calls.getD j_ k0).to_), iv ((p.t.calls.getD j_ k0).a), iv ((p.t.calls.getD j_ k0).b), str ((p.t.calls.getD j_ k0).text)]) rfl rfl rfl rfl ky rfl rfl (lb rfl) rfl) ?_
    rintro _ _ rfl
    refine jE <| jB <| jF <| jA (jC (v := .slice oa o_.length oc) he_10) <| jA (jY fo32_2 he_8) <| jT (jf 2 (v := iv p.t.proc) rfl rfl kl rfl) <| jT (je 0 (vs := [iv ((p.t.calls.getD j_ k0).kind), str ((p.t.calls.getD j_ k0).name), str ((p.t.calls.getD j_ k0).to_), iv ((p.t.calls.getD j_ k0).a), iv ((p.t.calls.getD j_ k0).b), str ((p.t.calls.getD j_ k0).text)]) rfl rfl gE ky rfl rfl) <| jA (kN (ps := [(0, iv p.t.proc), (1, .agg #[iv ((p.t.calls.getD j_ k0).kind), str ((p.t.calls.getD j_ k0).name), str ((p.t.calls.getD j_ k0).to_), iv ((p.t.calls.getD j_ k0).a), iv ((p.t.calls.getD j_ k0).b), str ((p.t.calls.getD j_ k0).text)])]) (cs := [iv p.t.proc, iv ((p.t.calls.getD j_ k0).kind), str ((p.t.calls.getD j_ k0).name), str ((p.t.calls.getD j_ k0).to_), iv ((p.t.calls.getD j_ k0).a), iv ((p.t.calls.getD j_ k0).b), str ((p.t.calls.getD j_ k0).text)]) rfl (by kernel_rfl)) ?_
    refine jH rfl (kH (ps := [(0, .agg #[iv p.t.proc, iv ((p.t.calls.getD j_ k0).kind), str ((p.t.calls.getD j_ k0).name), str ((p.t.calls.getD j_ k0).to_), iv ((p.t.calls.getD j_ k0).a), iv ((p.t.calls.getD j_ k0).b), str ((p.t.calls.getD j_ k0).text)])]) (cur := #[iv p.t.proc, iv ((p.t.calls.getD j_ k0).kind), str ((p.t.calls.getD j_ k0).name), str ((p.t.calls.getD j_ k0).to_), iv ((p.t.calls.getD j_ k0).a), iv ((p.t.calls.getD j_ k0).b), str ((p.t.calls.getD j_ k0).text)]) Tryz.underlying103 Tryz.sizeOf159 Tryz.zeroValue159 rfl (by kernel_rfl) (by decide) (by decide)) ?_
    rintro _ _ ⟨a_17, rfl, rfl⟩
    refine jH rfl (kG 2 (q := 1) (news := ([(⟨p.t.proc, (p.t.calls.getD j_ k0)⟩ : SP)] : List SP).flatMap encP) (n' := (o_ ++ ([(⟨p.t.proc, (p.t.calls.getD j_ k0)⟩ : SP)] : List SP)).length) (cs' := (o_ ++ ([(⟨p.t.proc, (p.t.calls.getD j_ k0)⟩ : SP)] : List SP)).flatMap encP) rfl Tryz.underlying103 Tryz.underlying103 Tryz.typeInfo159 rfl (by' := 80) rfl rfl rfl rfl rfl (fun w hw => Src.sees (hw.see (i := 0) rfl) (oneP _)) (by (try simp only [LE]); omega) (by (try simp only [LE]); omega) (by simp only [List.length_append, List.length_take, List.length_drop, List.length_cons, List.length_nil] <;> first | rfl | omega) (by simp only [List.flatMap_append])) ?_
    rintro _ _ ⟨a_18, c_19, rfl, rfl⟩
    refine jA (jG (v := .slice a_18 ((o_ ++ ([(⟨p.t.proc, (p.t.calls.getD j_ k0)⟩ : SP)] : List SP)).length) c_19) rfl) <| jE <| jk <| jB <| jF <| jA (ji (c := ((j_ + 1 : Nat) : Int)) he_13 rfl (wr (by omega))) <| jA (jC (v := iv ((j_ + 1 : Nat) : Int)) rfl) <| jE <| jt [2, 2] (A := [Res.row (.slice a_18 ((o_ ++ ([(⟨p.t.proc, (p.t.calls.getD j_ k0)⟩ : SP)] : List SP)).length) c_19) 159 7 ((o_ ++ ([(⟨p.t.proc, (p.t.calls.getD j_ k0)⟩ : SP)] : List SP)).length) ((o_ ++ ([(⟨p.t.proc, (p.t.calls.getD j_ k0)⟩ : SP)] : List SP)).flatMap encP), bk b_6 32 [iv p.t.id, iv p.t.age, iv p.t.proc, iv p.t.began, .slice p.x.a0 p.t.calls.length p.x.c0, .slice p.x.a1 p.t.ans.length p.x.c1, .slice p.x.a2 p.t.rd.length p.x.c2, .slice p.x.a3 p.t.wr.length p.x.c3, .slice p.x.a4 p.t.marks.length p.x.c4, iv p.t.state]]) rfl ?_
    refine ju (p.t.calls.length - (j_ + 1)) (by omega) ⟨j_ + 1, a_18, c_19, (o_ ++ ([(⟨p.t.proc, (p.t.calls.getD j_ k0)⟩ : SP)] : List SP)), by omega, (by rw [List.length_append, hol]; rfl), (by rw [take_at (getD_some (d := k0) hlt), List.map_append, ← ho]; rfl), he_8, he_9, rfl, he_11, he_12, rfl, rfl, rfl⟩
  refine jR (cB (dF h_14)) <| kB <| jm <| jm <| kC <| jB <| jD <| jF <| jA (jC (v := .slice oa o_.length oc) he_10) <| jA (jG (v := .slice oa o_.length oc) rfl) ?_
  refine jE <| jB <| jM <| jU (.inl rfl) rfl (jN (v := .slice oa o_.length oc) rfl) (tS 1 _) ?_
  have he : o_ = stepsOf p.t := by rw [ho, List.take_of_length_le (by omega)]; rfl
  exact ⟨oa, oc, by rw [he], by rw [he] <;> rfl⟩

set_option maxRecDepth 4000 in
set_option maxHeartbeats 1000000 in
theorem Y_iTxView (p : TX) (hl : p.t.lim 500000000) (sa : Option Addr) (sc : Nat) (s : List Cell) (n : Nat) (hO : okC' n 1048576 s) (hn : n ≤ 18000000) (hc : okT p.t) (hg : grow n p.t.calls.length ≤ 2800000) (hgT : growT n 0 p.t.calls.length ≤ 20000000) :
    Ct Tryz.prog 31 [.slice sa s.length sc, .agg #[.int .i64 p.t.id, .int .i64 p.t.age, .int .i64 p.t.proc, .int .i64 p.t.began, .slice p.x.a0 p.t.calls.length p.x.c0, .slice p.x.a1 p.t.ans.length p.x.c1, .slice p.x.a2 p.t.rd.length p.x.c2, .slice p.x.a3 p.t.wr.length p.x.c3, .slice p.x.a4 p.t.marks.length p.x.c4, .int .i64 p.t.state]] [] (fun w => Sees w (.slice sa s.length sc) 2 s.length (s.flatMap encC) ∧ SeesA w (rdsX p) ∧ HexOk w) (fun v A' => ∃ a c v', viewA s p.t = v' ∧ okC' (grow n p.t.calls.length) 1048576 v' ∧ v = .slice a v'.length c ∧ A' = [rC a c v']) := by
  refine Ct.introL Tryz.func31 rfl Tryz.ntmps31 (lb rfl) fun w0 hpre hlow => ?_
  have hs_s : Sees w0 _ _ _ _ := hpre.1
  have hl := hl.mono (show 500000000 ≤ 1000000000 by decide)
  obtain ⟨hs_1, hs_2, hs_3, hs_4, hs_5⟩ := seesX hpre.2.1
  have hlp := hl
  obtain ⟨hl0_, hl1_, hl2_, hl3_, hl4_⟩ := id hl
  have hO1 := hO.1
  have hsl : (stepsOf p.t).length = p.t.calls.length := List.length_map _
  have hsP := okSteps_of hc
  have hcp := hc.pr
  have hcn := hc.n
  refine jD <| jF ?_
  refine jH rfl (jv (cs := [iv p.t.id, iv p.t.age, iv p.t.proc, iv p.t.began, .slice p.x.a0 p.t.calls.length p.x.c0, .slice p.x.a1 p.t.ans.length p.x.c1, .slice p.x.a2 p.t.rd.length p.x.c2, .slice p.x.a3 p.t.wr.length p.x.c3, .slice p.x.a4 p.t.marks.length p.x.c4, iv p.t.state]) rfl rfl) ?_
  rintro _ _ ⟨b_6, rfl, rfl⟩
  refine jA (jG (v := .slice none 0 0) rfl) <| jE <| jB <| jD <| jF <| jA (jC (v := .slice sa s.length sc) rfl) <| jT (je 0 (vs := [iv p.t.id, iv p.t.age, iv p.t.proc, iv p.t.began, .slice p.x.a0 p.t.calls.length p.x.c0, .slice p.x.a1 p.t.ans.length p.x.c1, .slice p.x.a2 p.t.rd.length p.x.c2, .slice p.x.a3 p.t.wr.length p.x.c3, .slice p.x.a4 p.t.marks.length p.x.c4, iv p.t.state]) rfl rfl kw kq rfl rfl) ?_
  refine jH rfl (jI [] Tryz.call65 rfl (Y_iTxSteps p hlp) rfl (fun w hw => hw.seeOutA hpre.2.1 nMA)) ?_
  rintro _ _ ⟨_, ⟨a_7, c_8, rfl, rfl⟩, rfl⟩
  refine jH rfl (jI [] Tryz.call64 rfl (I_serialRun sa sc s a_7 c_8 (stepsOf p.t) (by have hl_ := (hO).1; omega) (by omega) hO (by omega) hsP (by rw [hsl]; omega) (by rw [hsl]; omega)) rfl (fun w hw => ⟨hw.seeOut_ hs_s nM, hw.see (i := 0) rfl, hw.hex hlow hpre.2.2⟩)) ?_
  rintro _ _ ⟨_, ⟨x_9, m_10, a_11, c_12, o_13, e_14, k_15, hl_16, rfl, rfl⟩, rfl⟩
  refine jA (jC (v := .tuple #[.slice x_9.a0 m_10.s.length x_9.c0, .slice a_11 o_13.length c_12]) rfl) <| jA (jS (v := .slice x_9.a0 m_10.s.length x_9.c0) rfl rfl) <| jA (jS (v := .slice a_11 o_13.length c_12) rfl rfl) <| jA (jG (v := .slice x_9.a0 m_10.s.length x_9.c0) rfl) <| jA (jG (v := .slice a_11 o_13.length c_12) rfl) <| jE <| jB <| jD <| jF <| jA (jC (v := .slice x_9.a0 m_10.s.length x_9.c0) rfl) ?_
  refine jA (jG (v := .slice x_9.a0 m_10.s.length x_9.c0) rfl) <| jE <| jB <| jM <| jU (.inl rfl) rfl (jN (v := .slice x_9.a0 m_10.s.length x_9.c0) rfl) (tS 1 _) ?_
  exact ⟨x_9.a0, x_9.c0, m_10.s, (show viewA s p.t = _ by unfold viewA; rw [e_14]), (by rw [hsl] at *; exact k_15.okC'), rfl, rfl⟩

set_option maxRecDepth 4000 in
set_option maxHeartbeats 1000000 in
theorem I_joinTx (p : Nat) (u0 u1 u2 u3 u4 u5 u8 u9 : Value) (a6 : Option Addr) (c6 : Nat) (rr : List Str) (a7 : Option Addr) (c7 : Nat) (ww : List Str) (b1 : Option Addr) (d1 : Nat) (r' : List Str) (b2 : Option Addr) (d2 : Nat) (w' : List Str) (h1 : rr.length ≤ 1000000000) (h2 : ww.length ≤ 1000000000) (h3 : r'.length ≤ 1000000000) (h4 : w'.length ≤ 1000000000) :
    Ct Tryz.prog 32 [.pointer (some ⟨p, 6, none⟩), .agg #[.slice b1 r'.length d1, .slice b2 w'.length d2]] [bk p 32 [u0, u1, u2, u3, u4, u5, .slice a6 rr.length c6, .slice a7 ww.length c7, u8, u9], rS a6 c6 rr, rS a7 c7 ww, rS b1 d1 r', rS b2 d2 w'] (fun _ => True) (fun v A' => ∃ x1 y1 x2 y2, v = .tuple #[] ∧ A' = [bk p 32 [u0, u1, u2, u3, u4, u5, .slice x1 ((r'.foldl addSpan rr).length) y1, .slice x2 ((w'.foldl addSpan ww).length) y2, u8, u9], rS x1 y1 (r'.foldl addSpan rr), rS x2 y2 (w'.foldl addSpan ww), rS b1 d1 r', rS b2 d2 w']) := by
  refine Ct.intro Tryz.func32 rfl Tryz.ntmps32 (lb rfl) fun w0 hpre => ?_
  refine jD <| jF ?_
  refine jH rfl (jv (cs := [.slice b1 r'.length d1, .slice b2 w'.length d2]) rfl rfl) ?_
  rintro _ _ ⟨b_1, rfl, rfl⟩
  refine jE <| jB <| jD <| jD <| jF <| jA (jY fo30_0 rfl) <| jT (jf 0 (v := .slice b1 r'.length d1) rfl rfl ku rfl) <| jA (jy kd rfl) <| jA (jC (v := iv 0) rfl) <| jE ?_
  refine jB <| jl <| JC.ghost (L' := [bk p 32 [u0, u1, u2, u3, u4, u5, .slice a6 rr.length c6, .slice a7 ww.length c7, u8, u9], rS a6 c6 rr, bk b_1 30 [.slice b1 r'.length d1, .slice b2 w'.length d2], rS a7 c7 ww, rS b1 d1 r', rS b2 d2 w']) (fun w hw => hw.perm (pick_perm [1, 1] (A := [bk p 32 [u0, u1, u2, u3, u4, u5, .slice a6 rr.length c6, .slice a7 ww.length c7, u8, u9], rS a6 c6 rr]) (F := [bk b_1 30 [.slice b1 r'.length d1, .slice b2 w'.length d2], rS a7 c7 ww, rS b1 d1 r', rS b2 d2 w']) rfl).symm) <| kE (fun k_ e_ L_ => ∃ j_ : Nat, ∃ D : List Str, ∃ xD : Option Addr, ∃ yD : Nat, (j_ ≤ r'.length) ∧ (D = (r'.take j_).foldl addSpan rr) ∧ (D.length ≤ rr.length + j_) ∧ e_ 0 = .pointer (some ⟨p, 6, none⟩) ∧ e_ 3 = .pointer (some ⟨b_1, 0, none⟩) ∧ e_ 9 = .slice b1 r'.length d1 ∧ e_ 10 = nv r'.length ∧ e_ 11 = nv j_ ∧ L_ = [bk p 32 [u0, u1, u2, u3, u4, u5, .slice xD D.length yD, .slice a7 ww.length c7, u8, u9], rS xD yD D, bk b_1 30 [.slice b1 r'.length d1, .slice b2 w'.length d2], rS a7 c7 ww, rS b1 d1 r', rS b2 d2 w'] ∧ k_ = r'.length - j_) _ ⟨0, rr, a6, c6, by omega, rfl, by omega, rfl, rfl, rfl, rfl, rfl, rfl, rfl⟩ ?_
  rintro _ e_2 _ ⟨j_, D, xD, yD, hj, hDD, hlD, he_3, he_4, he_5, he_6, he_7, rfl, rfl⟩
  refine jD <| jF <| jA (jr he_7 he_6) <| jE <| jB <| jD ?_
  by_cases h_8 : ((j_ : Nat) : Int) < ((r'.length : Nat) : Int)
  · have hlt : j_ < r'.length := by omega
    refine jQ (cB (dT h_8)) <| jW <| jB <| jD <| jl <| jD <| jF ?_
    refine kW fun hst => ?_
    obtain ⟨hr_9, hr_9b, -⟩ := row_some 4 rfl (by omega) hst
    refine jA (kD (i := j_) kd kh hr_9 hr_9b he_5 he_7 (by omega)) <| jT (kX 4 (v := str (r'.getD j_ [])) rfl rfl kg (atS (by omega))) <| jA (jG (v := str (r'.getD j_ [])) rfl) <| jE <| jB <| jF <| jA (jC (v := .pointer (some ⟨p, 6, none⟩)) he_3) <| jA (jC (v := .pointer (some ⟨p, 6, none⟩)) he_3) <| jA (ka rfl) <| jA (jY fo30_0 rfl) ?_
    refine jT (jf 0 (v := .slice xD D.length yD) rfl rfl ku rfl) <| jA (jC (v := str (r'.getD j_ [])) rfl) ?_
    refine jH rfl (jI [1] Tryz.call66 rfl (C_addSpan xD yD D (r'.getD j_ []) (by omega)) rfl (fun _ _ => trivial)) ?_
    rintro _ _ ⟨_, ⟨a_10, c_11, rfl, rfl⟩, rfl⟩
    refine jA (ka rfl) <| jA (jY fo30_0 rfl) ?_
    refine jH rfl (ja 1 (vs := [.slice a_10 ((addSpan D (r'.getD j_ [])).length) c_11]) (cs' := [u0, u1, u2, u3, u4, u5, .slice a_10 ((addSpan D (r'.getD j_ [])).length) c_11, .slice a7 ww.length c7, u8, u9]) rfl rfl rfl rfl gM rfl rfl (lb rfl) rfl) ?_
    rintro _ _ rfl
    refine jE <| jk <| jB <| jF <| jA (ji (c := ((j_ + 1 : Nat) : Int)) he_7 rfl (wr (by omega))) <| jA (jC (v := iv ((j_ + 1 : Nat) : Int)) rfl) <| jE <| jt [1, 0, 0, 0, 0, 0] (A := [bk p 32 [u0, u1, u2, u3, u4, u5, .slice a_10 ((addSpan D (r'.getD j_ [])).length) c_11, .slice a7 ww.length c7, u8, u9], rS a_10 c_11 (addSpan D (r'.getD j_ [])), bk b_1 30 [.slice b1 r'.length d1, .slice b2 w'.length d2], rS a7 c7 ww, rS b1 d1 r', rS b2 d2 w']) rfl ?_
    refine ju (r'.length - (j_ + 1)) (by omega) ⟨j_ + 1, (addSpan D (r'.getD j_ [])), a_10, c_11, by omega, (by rw [take_at (getD_some (d := []) hlt), List.foldl_append, ← hDD]; rfl), (by have h_ := addSpan_len D (r'.getD j_ []); omega), he_3, he_4, he_5, he_6, rfl, rfl, rfl⟩
  rw [List.take_of_length_le (by omega)] at hDD
  refine jR (cB (dF h_8)) <| kB <| jm <| jm <| kC <| jB <| jD <| jF <| jA (jY fo30_1 he_4) <| jT (jf 2 (v := .slice b2 w'.length d2) rfl rfl ku rfl) ?_
  refine jA (jy kd rfl) <| jA (jC (v := iv 0) rfl) <| jE <| jB <| jl <| JC.ghost (L' := [bk p 32 [u0, u1, u2, u3, u4, u5, .slice xD D.length yD, .slice a7 ww.length c7, u8, u9], rS a7 c7 ww, rS xD yD D, bk b_1 30 [.slice b1 r'.length d1, .slice b2 w'.length d2], rS b1 d1 r', rS b2 d2 w']) (fun w hw => hw.perm (pick_perm [0, 2] (A := [bk p 32 [u0, u1, u2, u3, u4, u5, .slice xD D.length yD, .slice a7 ww.length c7, u8, u9], rS a7 c7 ww]) (F := [rS xD yD D, bk b_1 30 [.slice b1 r'.length d1, .slice b2 w'.length d2], rS b1 d1 r', rS b2 d2 w']) rfl).symm) <| kE (fun k_ e_ L_ => ∃ j_ : Nat, ∃ E : List Str, ∃ xE : Option Addr, ∃ yE : Nat, (j_ ≤ w'.length) ∧ (E = (w'.take j_).foldl addSpan ww) ∧ (E.length ≤ ww.length + j_) ∧ e_ 0 = .pointer (some ⟨p, 6, none⟩) ∧ e_ 26 = .slice b2 w'.length d2 ∧ e_ 27 = nv w'.length ∧ e_ 28 = nv j_ ∧ L_ = [bk p 32 [u0, u1, u2, u3, u4, u5, .slice xD D.length yD, .slice xE E.length yE, u8, u9], rS xE yE E, rS xD yD D, bk b_1 30 [.slice b1 r'.length d1, .slice b2 w'.length d2], rS b1 d1 r', rS b2 d2 w'] ∧ k_ = w'.length - j_) _ ⟨0, ww, a7, c7, by omega, rfl, by omega, he_3, rfl, rfl, rfl, rfl, rfl⟩ ?_
  rintro _ e_12 _ ⟨j_, E, xE, yE, hj, hDE, hlE, he_13, he_14, he_15, he_16, rfl, rfl⟩
  refine jD <| jF <| jA (jr he_16 he_15) <| jE <| jB <| jD ?_
  by_cases h_17 : ((j_ : Nat) : Int) < ((w'.length : Nat) : Int)
  · have hlt : j_ < w'.length := by omega
    refine jQ (cB (dT h_17)) <| jW <| jB <| jD <| jl <| jD <| jF ?_
    refine kW fun hst => ?_
    obtain ⟨hr_18, hr_18b, -⟩ := row_some 5 rfl (by omega) hst
    refine jA (kD (i := j_) kd kh hr_18 hr_18b he_14 he_16 (by omega)) <| jT (kX 5 (v := str (w'.getD j_ [])) rfl rfl kg (atS (by omega))) <| jA (jG (v := str (w'.getD j_ [])) rfl) <| jE <| jB <| jF <| jA (jC (v := .pointer (some ⟨p, 6, none⟩)) he_13) <| jA (jC (v := .pointer (some ⟨p, 6, none⟩)) he_13) <| jA (ka rfl) <| jA (jY fo30_1 rfl) ?_
    refine jT (jf 0 (v := .slice xE E.length yE) rfl rfl ku rfl) <| jA (jC (v := str (w'.getD j_ [])) rfl) ?_
    refine jH rfl (jI [1] Tryz.call66 rfl (C_addSpan xE yE E (w'.getD j_ []) (by omega)) rfl (fun _ _ => trivial)) ?_
    rintro _ _ ⟨_, ⟨a_19, c_20, rfl, rfl⟩, rfl⟩
    refine jA (ka rfl) <| jA (jY fo30_1 rfl) ?_
    refine jH rfl (ja 1 (vs := [.slice a_19 ((addSpan E (w'.getD j_ [])).length) c_20]) (cs' := [u0, u1, u2, u3, u4, u5, .slice xD D.length yD, .slice a_19 ((addSpan E (w'.getD j_ [])).length) c_20, u8, u9]) rfl rfl rfl rfl gM rfl rfl (lb rfl) rfl) ?_
    rintro _ _ rfl
    refine jE <| jk <| jB <| jF <| jA (ji (c := ((j_ + 1 : Nat) : Int)) he_16 rfl (wr (by omega))) <| jA (jC (v := iv ((j_ + 1 : Nat) : Int)) rfl) <| jE <| jt [1, 0, 0, 0, 0, 0] (A := [bk p 32 [u0, u1, u2, u3, u4, u5, .slice xD D.length yD, .slice a_19 ((addSpan E (w'.getD j_ [])).length) c_20, u8, u9], rS a_19 c_20 (addSpan E (w'.getD j_ [])), rS xD yD D, bk b_1 30 [.slice b1 r'.length d1, .slice b2 w'.length d2], rS b1 d1 r', rS b2 d2 w']) rfl ?_
    refine ju (w'.length - (j_ + 1)) (by omega) ⟨j_ + 1, (addSpan E (w'.getD j_ [])), a_19, c_20, by omega, (by rw [take_at (getD_some (d := []) hlt), List.foldl_append, ← hDE]; rfl), (by have h_ := addSpan_len E (w'.getD j_ []); omega), he_13, he_14, he_15, rfl, rfl, rfl⟩
  rw [List.take_of_length_le (by omega)] at hDE
  refine jR (cB (dF h_17)) <| kB <| jm <| jm <| kC <| kK (pick_perm [0, 1, 0, 1, 1] (A := [bk p 32 [u0, u1, u2, u3, u4, u5, .slice xD D.length yD, .slice xE E.length yE, u8, u9], rS xD yD D, rS xE yE E, rS b1 d1 r', rS b2 d2 w']) (F := [bk b_1 30 [.slice b1 r'.length d1, .slice b2 w'.length d2]]) rfl).symm <| Done.none (.inr rfl) rfl (tS 5 _) ?_
  subst hDD
  subst hDE
  exact ⟨_, _, _, _, rfl, rfl⟩

theorem Y_iTxNew (a b c : Int) :
    Ct Tryz.prog 8 [.int .i64 a, .int .i64 b, .int .i64 c] [] (fun _ => True) (fun v A' => ∃ z : TX, z.t = TD.new a b c ∧ v = .agg #[.int .i64 z.t.id, .int .i64 z.t.age, .int .i64 z.t.proc, .int .i64 z.t.began, .slice z.x.a0 z.t.calls.length z.x.c0, .slice z.x.a1 z.t.ans.length z.x.c1, .slice z.x.a2 z.t.rd.length z.x.c2, .slice z.x.a3 z.t.wr.length z.x.c3, .slice z.x.a4 z.t.marks.length z.x.c4, .int .i64 z.t.state] ∧ A' = [.rows (rdsX z)]) := by
  refine Ct.intro Tryz.func8 rfl Tryz.ntmps8 (lb rfl) fun w0 hpre => ?_
  refine jD <| jF ?_
  refine jH rfl (jh (z := .agg #[iv 0, iv 0, iv 0, iv 0, .slice none 0 0, .slice none 0 0, .slice none 0 0, .slice none 0 0, .slice none 0 0, iv 0]) (cs := [iv 0, iv 0, iv 0, iv 0, .slice none 0 0, .slice none 0 0, .slice none 0 0, .slice none 0 0, .slice none 0 0, iv 0]) gF rfl) ?_
  rintro _ _ ⟨b_1, rfl, rfl⟩
  refine jE <| jB <| jD <| jF <| jA (jC (v := iv a) rfl) <| jA (jC (v := iv b) rfl) <| jA (jC (v := iv c) rfl) <| jA (kN (ps := [(0, iv a), (1, iv b), (2, iv c), (8, iv 1)]) (cs := [iv a, iv b, iv c, iv 0, .slice none 0 0, .slice none 0 0, .slice none 0 0, .slice none 0 0, .slice none 0 0, iv 1]) rfl (by kernel_rfl)) ?_
  refine jH rfl (ja 0 (vs := [iv a, iv b, iv c, iv 0, .slice none 0 0, .slice none 0 0, .slice none 0 0, .slice none 0 0, .slice none 0 0, iv 1]) (cs' := [iv a, iv b, iv c, iv 0, .slice none 0 0, .slice none 0 0, .slice none 0 0, .slice none 0 0, .slice none 0 0, iv 1]) rfl rfl rfl rfl kq rfl rfl (lb rfl) rfl) ?_
  rintro _ _ rfl
  refine jE <| jB <| jM <| JQ.nilRow 43 6 <| JQ.nilRow 37 3 <| JQ.nilRow 9 1 <| JQ.nilRow 9 1 <| JQ.nilRow 3 1 <| JQ.ghost (L' := [Res.rows (rdsX (⟨⟨none, 0, none, 0, none, 0, none, 0, none, 0⟩, TD.new a b c⟩ : TX)), bk b_1 32 [iv a, iv b, iv c, iv 0, .slice none 0 0, .slice none 0 0, .slice none 0 0, .slice none 0 0, .slice none 0 0, iv 1]]) (fun w hw => hw.closeR (A := rdsX (⟨⟨none, 0, none, 0, none, 0, none, 0, none, 0⟩, TD.new a b c⟩ : TX)) [4, 3, 2, 1, 0] rfl) <| jU (.inl rfl) rfl (jg (je 1 (vs := [iv a, iv b, iv c, iv 0, .slice none 0 0, .slice none 0 0, .slice none 0 0, .slice none 0 0, .slice none 0 0, iv 1]) rfl rfl kw kq rfl rfl) ⟨_, rfl⟩) (tS 1 _) ?_
  exact ⟨(⟨⟨none, 0, none, 0, none, 0, none, 0, none, 0⟩, TD.new a b c⟩ : TX), rfl, rfl, rfl⟩

set_option maxRecDepth 4000 in
set_option maxHeartbeats 1000000 in
theorem Y_iTxAsk (p : TX) (hl : p.t.lim 500000000) (sa : Option Addr) (sc : Nat) (s : List Cell) (n : Nat) (hO : okC' n 1048576 s) (hn : n ≤ 18000000) (hc : okT p.t) (hg0 : p.t.calls.length < 12 → grow n p.t.calls.length ≤ 2800000) (hgT0 : p.t.calls.length < 12 → growT n 0 p.t.calls.length ≤ 20000000) (c : CL) (hcc : c.ok 1048576) :
    Ct Tryz.prog 10 [.slice sa s.length sc, .agg #[.int .i64 p.t.id, .int .i64 p.t.age, .int .i64 p.t.proc, .int .i64 p.t.began, .slice p.x.a0 p.t.calls.length p.x.c0, .slice p.x.a1 p.t.ans.length p.x.c1, .slice p.x.a2 p.t.rd.length p.x.c2, .slice p.x.a3 p.t.wr.length p.x.c3, .slice p.x.a4 p.t.marks.length p.x.c4, .int .i64 p.t.state], .agg #[.int .i64 c.kind, str c.name, str c.to_, .int .i64 c.a, .int .i64 c.b, str c.text]] [] (fun w => Sees w (.slice sa s.length sc) 2 s.length (s.flatMap encC) ∧ SeesA w (rdsX p) ∧ HexOk w) (fun v A' => ∃ (z : TX) (a : AN), TD.askV (viewA s p.t) p.t c = (z.t, a) ∧ ((0 ≤ a.code ∧ a.code ≤ 9) ∧ (-1 ≤ a.n ∧ a.n ≤ 1000000000) ∧ a.text.length ≤ 30000000000000) ∧ (z.t.rd.length ≤ p.t.rd.length + 20000000 ∧ z.t.wr.length ≤ p.t.wr.length + 20000000) ∧ v = .tuple #[.agg #[.int .i64 z.t.id, .int .i64 z.t.age, .int .i64 z.t.proc, .int .i64 z.t.began, .slice z.x.a0 z.t.calls.length z.x.c0, .slice z.x.a1 z.t.ans.length z.x.c1, .slice z.x.a2 z.t.rd.length z.x.c2, .slice z.x.a3 z.t.wr.length z.x.c3, .slice z.x.a4 z.t.marks.length z.x.c4, .int .i64 z.t.state], .agg #[.int .i64 a.code, .int .i64 a.n, str a.text]] ∧ A' = [.rows (rdsX z)]) := by
  have hlv := hl
  refine Ct.introL Tryz.func10 rfl Tryz.ntmps10 (lb rfl) fun w0 hpre hlow => ?_
  have hs_s : Sees w0 _ _ _ _ := hpre.1
  have hl := hl.mono (show 500000000 ≤ 1000000000 by decide)
  obtain ⟨hs_1, hs_2, hs_3, hs_4, hs_5⟩ := seesX hpre.2.1
  have hlp := hl
  obtain ⟨hl0_, hl1_, hl2_, hl3_, hl4_⟩ := id hl
  have hO1 := hO.1
  have hsl : (stepsOf p.t).length = p.t.calls.length := List.length_map _
  have hsP := okSteps_of hc
  have hcp := hc.pr
  have hcn := hc.n
  obtain ⟨hc1, hc2, hc3, hc4, hc5, hc6⟩ := id hcc
  refine jD <| jF ?_
  refine jH rfl (jv (cs := [iv p.t.id, iv p.t.age, iv p.t.proc, iv p.t.began, .slice p.x.a0 p.t.calls.length p.x.c0, .slice p.x.a1 p.t.ans.length p.x.c1, .slice p.x.a2 p.t.rd.length p.x.c2, .slice p.x.a3 p.t.wr.length p.x.c3, .slice p.x.a4 p.t.marks.length p.x.c4, iv p.t.state]) rfl rfl) ?_
  rintro _ _ ⟨b_6, rfl, rfl⟩
  refine jH rfl (jv (cs := [iv c.kind, str c.name, str c.to_, iv c.a, iv c.b, str c.text]) rfl rfl) ?_
  rintro _ _ ⟨b_7, rfl, rfl⟩
  refine jH rfl (jh (z := .agg #[iv 0, iv 0, iv 0, iv 0, .slice none 0 0, .slice none 0 0, .slice none 0 0, .slice none 0 0, .slice none 0 0, iv 0]) (cs := [iv 0, iv 0, iv 0, iv 0, .slice none 0 0, .slice none 0 0, .slice none 0 0, .slice none 0 0, .slice none 0 0, iv 0]) gF rfl) ?_
  rintro _ _ ⟨b_8, rfl, rfl⟩
  refine jH rfl (jh (z := .agg #[iv 0, iv 0, str []]) (cs := [iv 0, iv 0, str []]) km rfl) ?_
  rintro _ _ ⟨b_9, rfl, rfl⟩
  refine jE <| jB <| jD <| jF <| jT (je 3 (vs := [iv p.t.id, iv p.t.age, iv p.t.proc, iv p.t.began, .slice p.x.a0 p.t.calls.length p.x.c0, .slice p.x.a1 p.t.ans.length p.x.c1, .slice p.x.a2 p.t.rd.length p.x.c2, .slice p.x.a3 p.t.wr.length p.x.c3, .slice p.x.a4 p.t.marks.length p.x.c4, iv p.t.state]) rfl rfl kw kq rfl rfl) ?_
  refine jH rfl (jI [] Tryz.call29 rfl (Z_implTxclone p hlp) rfl (fun w hw => hw.seeOutA hpre.2.1 nMA)) ?_
  rintro _ _ ⟨_, ⟨y_10, hy_11, rfl, rfl⟩, rfl⟩
  refine jH rfl (jh (z := .agg #[iv 0, iv 0, iv 0, iv 0, .slice none 0 0, .slice none 0 0, .slice none 0 0, .slice none 0 0, .slice none 0 0, iv 0]) (cs := [iv 0, iv 0, iv 0, iv 0, .slice none 0 0, .slice none 0 0, .slice none 0 0, .slice none 0 0, .slice none 0 0, iv 0]) gF rfl) ?_
  rintro _ _ ⟨b_12, rfl, rfl⟩
  refine jH rfl (ja 0 (vs := [iv y_10.t.id, iv y_10.t.age, iv y_10.t.proc, iv y_10.t.began, .slice y_10.x.a0 y_10.t.calls.length y_10.x.c0, .slice y_10.x.a1 y_10.t.ans.length y_10.x.c1, .slice y_10.x.a2 y_10.t.rd.length y_10.x.c2, .slice y_10.x.a3 y_10.t.wr.length y_10.x.c3, .slice y_10.x.a4 y_10.t.marks.length y_10.x.c4, iv y_10.t.state]) (cs' := [iv y_10.t.id, iv y_10.t.age, iv y_10.t.proc, iv y_10.t.began, .slice y_10.x.a0 y_10.t.calls.length y_10.x.c0, .slice y_10.x.a1 y_10.t.ans.length y_10.x.c1, .slice y_10.x.a2 y_10.t.rd.length y_10.x.c2, .slice y_10.x.a3 y_10.t.wr.length y_10.x.c3, .slice y_10.x.a4 y_10.t.marks.length y_10.x.c4, iv y_10.t.state]) rfl rfl rfl rfl kq rfl rfl (lb rfl) rfl) ?_
  rintro _ _ rfl
  refine jE <| jB <| jD <| jl <| jD ?_
  have hst : y_10.t.state = p.t.state := congrArg TD.state hy_11
  have hcl : y_10.t.calls.length = p.t.calls.length := by rw [hy_11]
  have hpr : y_10.t.proc = p.t.proc := congrArg TD.proc hy_11
  have hgy : grow n y_10.t.calls.length = grow n p.t.calls.length := by rw [hcl]
  refine jF <| jA (jY fo32_8 rfl) <| jT (jf 5 (v := iv p.t.state) rfl rfl kl rfl) <| jA (kO rfl rfl) <| jA (jG (v := .bool (!(decide (p.t.state = 1)))) rfl) <| jE <| jB ?_
  by_cases h_13 : p.t.state = 1
  · refine jR (cB (cN (dT h_13))) <| jD <| jF <| jA (jY fo32_4 rfl) <| jT (jf 5 (v := .slice p.x.a0 p.t.calls.length p.x.c0) rfl rfl gP rfl) <| jA (jy gC rfl) <| jA (kT rfl rfl) <| jA (jG (v := .bool (decide (12 ≤ ((p.t.calls.length : Nat) : Int)))) rfl) <| jE <| jB ?_
    by_cases h_14 : 12 ≤ ((p.t.calls.length : Nat) : Int)
    · refine jQ (cB (dT h_14)) <| jD <| jF <| jT (je 0 (vs := [iv y_10.t.id, iv y_10.t.age, iv y_10.t.proc, iv y_10.t.began, .slice y_10.x.a0 y_10.t.calls.length y_10.x.c0, .slice y_10.x.a1 y_10.t.ans.length y_10.x.c1, .slice y_10.x.a2 y_10.t.rd.length y_10.x.c2, .slice y_10.x.a3 y_10.t.wr.length y_10.x.c3, .slice y_10.x.a4 y_10.t.marks.length y_10.x.c4, iv y_10.t.state]) rfl rfl kw kq rfl rfl) <| jA (kN (ps := [(0, iv 3)]) (cs := [iv 3, iv 0, str []]) rfl (by kernel_rfl)) ?_
      refine jH rfl (ja 3 (vs := [iv y_10.t.id, iv y_10.t.age, iv y_10.t.proc, iv y_10.t.began, .slice y_10.x.a0 y_10.t.calls.length y_10.x.c0, .slice y_10.x.a1 y_10.t.ans.length y_10.x.c1, .slice y_10.x.a2 y_10.t.rd.length y_10.x.c2, .slice y_10.x.a3 y_10.t.wr.length y_10.x.c3, .slice y_10.x.a4 y_10.t.marks.length y_10.x.c4, iv y_10.t.state]) (cs' := [iv y_10.t.id, iv y_10.t.age, iv y_10.t.proc, iv y_10.t.began, .slice y_10.x.a0 y_10.t.calls.length y_10.x.c0, .slice y_10.x.a1 y_10.t.ans.length y_10.x.c1, .slice y_10.x.a2 y_10.t.rd.length y_10.x.c2, .slice y_10.x.a3 y_10.t.wr.length y_10.x.c3, .slice y_10.x.a4 y_10.t.marks.length y_10.x.c4, iv y_10.t.state]) rfl rfl rfl rfl kq rfl rfl (lb rfl) rfl) ?_
      rintro _ _ rfl
      refine jH rfl (ja 2 (vs := [iv 3, iv 0, str []]) (cs' := [iv 3, iv 0, str []]) rfl rfl rfl rfl kc rfl rfl (lb rfl) rfl) ?_
      rintro _ _ rfl
      refine jE <| jB <| jM <| kA <| jb <| kK (pick_perm [1] (A := [Res.rows (rdsX y_10)]) (F := [bk b_12 32 [iv y_10.t.id, iv y_10.t.age, iv y_10.t.proc, iv y_10.t.began, .slice y_10.x.a0 y_10.t.calls.length y_10.x.c0, .slice y_10.x.a1 y_10.t.ans.length y_10.x.c1, .slice y_10.x.a2 y_10.t.rd.length y_10.x.c2, .slice y_10.x.a3 y_10.t.wr.length y_10.x.c3, .slice y_10.x.a4 y_10.t.marks.length y_10.x.c4, iv y_10.t.state], bk b_9 37 [iv 3, iv 0, str []], bk b_8 32 [iv y_10.t.id, iv y_10.t.age, iv y_10.t.proc, iv y_10.t.began, .slice y_10.x.a0 y_10.t.calls.length y_10.x.c0, .slice y_10.x.a1 y_10.t.ans.length y_10.x.c1, .slice y_10.x.a2 y_10.t.rd.length y_10.x.c2, .slice y_10.x.a3 y_10.t.wr.length y_10.x.c3, .slice y_10.x.a4 y_10.t.marks.length y_10.x.c4, iv y_10.t.state], bk b_7 43 [iv c.kind, str c.name, str c.to_, iv c.a, iv c.b, str c.text], bk b_6 32 [iv p.t.id, iv p.t.age, iv p.t.proc, iv p.t.began, .slice p.x.a0 p.t.calls.length p.x.c0, .slice p.x.a1 p.t.ans.length p.x.c1, .slice p.x.a2 p.t.rd.length p.x.c2, .slice p.x.a3 p.t.wr.length p.x.c3, .slice p.x.a4 p.t.marks.length p.x.c4, iv p.t.state]]) rfl).symm <| jn (.inl rfl) rfl (jg (je 3 (vs := [iv y_10.t.id, iv y_10.t.age, iv y_10.t.proc, iv y_10.t.began, .slice y_10.x.a0 y_10.t.calls.length y_10.x.c0, .slice y_10.x.a1 y_10.t.ans.length y_10.x.c1, .slice y_10.x.a2 y_10.t.rd.length y_10.x.c2, .slice y_10.x.a3 y_10.t.wr.length y_10.x.c3, .slice y_10.x.a4 y_10.t.marks.length y_10.x.c4, iv y_10.t.state]) rfl rfl kw kq rfl rfl) ⟨_, rfl⟩) (jg (je 2 (vs := [iv 3, iv 0, str []]) rfl rfl ke kc rfl rfl) ⟨_, rfl⟩) (tS 1 _) ?_
      have hm : TD.askV (viewA s p.t) p.t c = (p.t, (⟨3, 0, []⟩ : AN)) := by first | exact askV_off (by omega) | exact askV_full (by omega) (by omega)
      exact ⟨y_10, (⟨3, 0, []⟩ : AN), by rw [hm, hy_11], (by (try dsimp only); (try simp only [List.length_nil]); omega), (by rw [hy_11]; omega), rfl, rfl⟩
    refine jR (cB (dF h_14)) <| jW <| jk <| jB <| jD ?_
    have hg := hg0 (by omega)
    have hgT := hgT0 (by omega)
    refine JC.cut (fun e_ L_ => ∃ a_15 : Option Addr, ∃ c_16 : Nat, ∃ v_17 : List Cell, ∃ x_20 : MA, ∃ m_21 : MS, ∃ A_22 : AN, ∃ b_26 : Nat, ∃ b_27 : Nat, (viewA s p.t = v_17) ∧ (okC' (grow (n) p.t.calls.length) 1048576 v_17) ∧ ((⟨v_17, [], []⟩ : MS).doCall p.t.proc c = (m_21, A_22)) ∧ (m_21.ok (3 * (grow (n) p.t.calls.length) + 20) (7 * (grow (n) p.t.calls.length) + 200)) ∧ ((0 ≤ A_22.code ∧ A_22.code ≤ 9) ∧ (-1 ≤ A_22.n ∧ A_22.n ≤ 1000000000) ∧ A_22.text.length ≤ 30000000000000) ∧ e_ 5 = .pointer (some ⟨b_7, 0, none⟩) ∧ e_ 6 = .pointer (some ⟨b_8, 0, none⟩) ∧ e_ 7 = .pointer (some ⟨b_9, 0, none⟩) ∧ e_ 8 = .pointer (some ⟨b_12, 0, none⟩) ∧ e_ 10 = .pointer (some ⟨b_26, 0, none⟩) ∧ e_ 11 = .pointer (some ⟨b_27, 0, none⟩) ∧ L_ = [bk b_27 30 [.slice x_20.a1 m_21.r.length x_20.c1, .slice x_20.a2 m_21.w.length x_20.c2], bk b_26 37 [iv A_22.code, iv A_22.n, str A_22.text], rC x_20.a0 x_20.c0 m_21.s, rS x_20.a1 x_20.c1 m_21.r, rS x_20.a2 x_20.c2 m_21.w, rC a_15 c_16 v_17, bk b_12 32 [iv y_10.t.id, iv y_10.t.age, iv y_10.t.proc, iv y_10.t.began, .slice y_10.x.a0 y_10.t.calls.length y_10.x.c0, .slice y_10.x.a1 y_10.t.ans.length y_10.x.c1, .slice y_10.x.a2 y_10.t.rd.length y_10.x.c2, .slice y_10.x.a3 y_10.t.wr.length y_10.x.c3, .slice y_10.x.a4 y_10.t.marks.length y_10.x.c4, iv y_10.t.state], Res.rows (rdsX y_10), bk b_9 37 [iv 0, iv 0, str []], bk b_8 32 [iv 0, iv 0, iv 0, iv 0, .slice none 0 0, .slice none 0 0, .slice none 0 0, .slice none 0 0, .slice none 0 0, iv 0], bk b_7 43 [iv c.kind, str c.name, str c.to_, iv c.a, iv c.b, str c.text], bk b_6 32 [iv p.t.id, iv p.t.age, iv p.t.proc, iv p.t.began, .slice p.x.a0 p.t.calls.length p.x.c0, .slice p.x.a1 p.t.ans.length p.x.c1, .slice p.x.a2 p.t.rd.length p.x.c2, .slice p.x.a3 p.t.wr.length p.x.c3, .slice p.x.a4 p.t.marks.length p.x.c4, iv p.t.state]]) ?_ ?_
    · have hg := hg0 (by omega)
      have hgT := hgT0 (by omega)
      refine jq [bk b_7 43 [iv c.kind, str c.name, str c.to_, iv c.a, iv c.b, str c.text], bk b_6 32 [iv p.t.id, iv p.t.age, iv p.t.proc, iv p.t.began, .slice p.x.a0 p.t.calls.length p.x.c0, .slice p.x.a1 p.t.ans.length p.x.c1, .slice p.x.a2 p.t.rd.length p.x.c2, .slice p.x.a3 p.t.wr.length p.x.c3, .slice p.x.a4 p.t.marks.length p.x.c4, iv p.t.state]] 13 mixed (by simp) <| jJ 0 rfl (jC (v := .slice sa s.length sc) rfl) <| jj 1 rfl (je 1 (vs := [iv p.t.id, iv p.t.age, iv p.t.proc, iv p.t.began, .slice p.x.a0 p.t.calls.length p.x.c0, .slice p.x.a1 p.t.ans.length p.x.c1, .slice p.x.a2 p.t.rd.length p.x.c2, .slice p.x.a3 p.t.wr.length p.x.c3, .slice p.x.a4 p.t.marks.length p.x.c4, iv p.t.state]) rfl rfl kw kq rfl rfl) <| jJ 3 rfl (jY fo32_2 rfl) <| jj 4 rfl (jf 1 (v := iv p.t.proc) rfl rfl kl rfl) <| jj 5 rfl (je 0 (vs := [iv c.kind, str c.name, str c.to_, iv c.a, iv c.b, str c.text]) rfl rfl gE ky rfl rfl) ?_
      refine JA.three (i := 2) (j := 11) (k := 12) (by kernel_rfl) ?_ ?_ ?_
      · refine jP rfl rfl (jI [] Tryz.call31 rfl (Y_iTxView p hlv sa sc s n hO (by omega) hc hg hgT) rfl (fun w hw => ⟨hw.seeOut_ hs_s nM, hw.seeOutA hpre.2.1 nMA, hw.hex hlow hpre.2.2⟩)) ?_
        rintro _ _ ⟨_, ⟨a_50, c_51, v_52, e_53, hO_54, rfl, rfl⟩, rfl⟩
        refine ⟨(by simp), ?_⟩
        refine JA.three (i := 6) (j := 11) (k := 12) (by kernel_rfl) ?_ ?_ ?_
        · refine jP rfl rfl (jI [] Tryz.call30 rfl (I_callOn a_50 c_51 v_52 p.t.proc c (by have hl_ := (hO_54).1; omega) (by omega) hcc hO_54 (by omega)) rfl (fun w hw => ⟨hw.see (i := 0) rfl, hw.hex hlow hpre.2.2⟩)) ?_
          rintro _ _ ⟨_, ⟨x_63, m_64, A_65, e_66, k_67, f_68, rfl, rfl⟩, rfl⟩
          refine ⟨(by simp), ?_⟩
          refine jJ 7 rfl (jC (v := .tuple #[.slice x_63.a0 m_64.s.length x_63.c0, .agg #[iv A_65.code, iv A_65.n, str A_65.text], .agg #[.slice x_63.a1 m_64.r.length x_63.c1, .slice x_63.a2 m_64.w.length x_63.c2]]) rfl) <| jJ 8 rfl (jS (v := .slice x_63.a0 m_64.s.length x_63.c0) rfl rfl) <| jJ 9 rfl (jS (v := .agg #[iv A_65.code, iv A_65.n, str A_65.text]) rfl rfl) <| jJ 10 rfl (jS (v := .agg #[.slice x_63.a1 m_64.r.length x_63.c1, .slice x_63.a2 m_64.w.length x_63.c2]) rfl rfl) ?_
          refine kL (i := 11) (j := 12) (by kernel_rfl) ?_ ?_
          · refine jP rfl rfl (jh (z := .agg #[iv 0, iv 0, str []]) (cs := [iv 0, iv 0, str []]) km rfl) ?_
            rintro _ _ ⟨b_71, rfl, rfl⟩
            refine ⟨(by simp), ?_⟩
            refine jK (i := 12) ?_
            refine jP rfl rfl (jh (z := .agg #[.slice none 0 0, .slice none 0 0]) (cs := [.slice none 0 0, .slice none 0 0]) kz rfl) ?_
            rintro _ _ ⟨b_73, rfl, rfl⟩
            refine ⟨(by simp), ?_⟩
            refine jJ 13 rfl (jG (v := .slice x_63.a0 m_64.s.length x_63.c0) rfl) <| jK (i := 14) ?_
            refine jp rfl (ja 1 (vs := [iv A_65.code, iv A_65.n, str A_65.text]) (cs' := [iv A_65.code, iv A_65.n, str A_65.text]) rfl rfl rfl rfl kc rfl rfl (lb rfl) rfl) ?_
            rintro _ _ rfl
            refine jK (i := 15) ?_
            refine jo rfl (ja 0 (vs := [.slice x_63.a1 m_64.r.length x_63.c1, .slice x_63.a2 m_64.w.length x_63.c2]) (cs' := [.slice x_63.a1 m_64.r.length x_63.c1, .slice x_63.a2 m_64.w.length x_63.c2]) rfl rfl rfl rfl kr rfl rfl (lb rfl) rfl) ?_
            rintro _ _ rfl
            refine kR [0, 0, 0, 0, 0, 0, 0, 0, 0, 0, 0, 0] ?_
            exact jz ⟨a_50, c_51, v_52, x_63, m_64, A_65, b_71, b_73, e_53, hO_54, e_66, k_67, f_68, rfl, rfl, rfl, rfl, rfl, rfl,(by kernel_rfl)⟩
          refine jP rfl rfl (jh (z := .agg #[.slice none 0 0, .slice none 0 0]) (cs := [.slice none 0 0, .slice none 0 0]) kz rfl) ?_
          rintro _ _ ⟨b_74, rfl, rfl⟩
          refine ⟨(by simp), ?_⟩
          refine jK (i := 11) ?_
          refine jP rfl rfl (jh (z := .agg #[iv 0, iv 0, str []]) (cs := [iv 0, iv 0, str []]) km rfl) ?_
          rintro _ _ ⟨b_76, rfl, rfl⟩
          refine ⟨(by simp), ?_⟩
          refine jJ 13 rfl (jG (v := .slice x_63.a0 m_64.s.length x_63.c0) rfl) <| jK (i := 14) ?_
          refine jp rfl (ja 0 (vs := [iv A_65.code, iv A_65.n, str A_65.text]) (cs' := [iv A_65.code, iv A_65.n, str A_65.text]) rfl rfl rfl rfl kc rfl rfl (lb rfl) rfl) ?_
          rintro _ _ rfl
          refine jK (i := 15) ?_
          refine jo rfl (ja 1 (vs := [.slice x_63.a1 m_64.r.length x_63.c1, .slice x_63.a2 m_64.w.length x_63.c2]) (cs' := [.slice x_63.a1 m_64.r.length x_63.c1, .slice x_63.a2 m_64.w.length x_63.c2]) rfl rfl rfl rfl kr rfl rfl (lb rfl) rfl) ?_
          rintro _ _ rfl
          refine kR [1, 0, 0, 0, 0, 0, 0, 0, 0, 0, 0, 0] ?_
          exact jz ⟨a_50, c_51, v_52, x_63, m_64, A_65, b_76, b_74, e_53, hO_54, e_66, k_67, f_68, rfl, rfl, rfl, rfl, rfl, rfl,(by kernel_rfl)⟩
        · refine jP rfl rfl (jh (z := .agg #[iv 0, iv 0, str []]) (cs := [iv 0, iv 0, str []]) km rfl) ?_
          rintro _ _ ⟨b_77, rfl, rfl⟩
          refine ⟨(by simp), ?_⟩
          refine kL (i := 6) (j := 12) (by kernel_rfl) ?_ ?_
          · refine jP rfl rfl (jI [] Tryz.call30 rfl (I_callOn a_50 c_51 v_52 p.t.proc c (by have hl_ := (hO_54).1; omega) (by omega) hcc hO_54 (by omega)) rfl (fun w hw => ⟨hw.see (i := 1) rfl, hw.hex hlow hpre.2.2⟩)) ?_
            rintro _ _ ⟨_, ⟨x_85, m_86, A_87, e_88, k_89, f_90, rfl, rfl⟩, rfl⟩
            refine ⟨(by simp), ?_⟩
            refine jJ 7 rfl (jC (v := .tuple #[.slice x_85.a0 m_86.s.length x_85.c0, .agg #[iv A_87.code, iv A_87.n, str A_87.text], .agg #[.slice x_85.a1 m_86.r.length x_85.c1, .slice x_85.a2 m_86.w.length x_85.c2]]) rfl) <| jJ 8 rfl (jS (v := .slice x_85.a0 m_86.s.length x_85.c0) rfl rfl) <| jJ 9 rfl (jS (v := .agg #[iv A_87.code, iv A_87.n, str A_87.text]) rfl rfl) <| jJ 10 rfl (jS (v := .agg #[.slice x_85.a1 m_86.r.length x_85.c1, .slice x_85.a2 m_86.w.length x_85.c2]) rfl rfl) <| jK (i := 12) ?_
            refine jP rfl rfl (jh (z := .agg #[.slice none 0 0, .slice none 0 0]) (cs := [.slice none 0 0, .slice none 0 0]) kz rfl) ?_
            rintro _ _ ⟨b_92, rfl, rfl⟩
            refine ⟨(by simp), ?_⟩
            refine jJ 13 rfl (jG (v := .slice x_85.a0 m_86.s.length x_85.c0) rfl) <| jK (i := 14) ?_
            refine jp rfl (ja 4 (vs := [iv A_87.code, iv A_87.n, str A_87.text]) (cs' := [iv A_87.code, iv A_87.n, str A_87.text]) rfl rfl rfl rfl kc rfl rfl (lb rfl) rfl) ?_
            rintro _ _ rfl
            refine jK (i := 15) ?_
            refine jo rfl (ja 0 (vs := [.slice x_85.a1 m_86.r.length x_85.c1, .slice x_85.a2 m_86.w.length x_85.c2]) (cs' := [.slice x_85.a1 m_86.r.length x_85.c1, .slice x_85.a2 m_86.w.length x_85.c2]) rfl rfl rfl rfl kr rfl rfl (lb rfl) rfl) ?_
            rintro _ _ rfl
            refine kR [0, 3, 0, 0, 0, 0, 0, 0, 0, 0, 0, 0] ?_
            exact jz ⟨a_50, c_51, v_52, x_85, m_86, A_87, b_77, b_92, e_53, hO_54, e_88, k_89, f_90, rfl, rfl, rfl, rfl, rfl, rfl,(by kernel_rfl)⟩
          refine jP rfl rfl (jh (z := .agg #[.slice none 0 0, .slice none 0 0]) (cs := [.slice none 0 0, .slice none 0 0]) kz rfl) ?_
          rintro _ _ ⟨b_93, rfl, rfl⟩
          refine ⟨(by simp), ?_⟩
          refine jK (i := 6) ?_
          refine jP rfl rfl (jI [] Tryz.call30 rfl (I_callOn a_50 c_51 v_52 p.t.proc c (by have hl_ := (hO_54).1; omega) (by omega) hcc hO_54 (by omega)) rfl (fun w hw => ⟨hw.see (i := 2) rfl, hw.hex hlow hpre.2.2⟩)) ?_
          rintro _ _ ⟨_, ⟨x_100, m_101, A_102, e_103, k_104, f_105, rfl, rfl⟩, rfl⟩
          refine ⟨(by simp), ?_⟩
          refine jJ 7 rfl (jC (v := .tuple #[.slice x_100.a0 m_101.s.length x_100.c0, .agg #[iv A_102.code, iv A_102.n, str A_102.text], .agg #[.slice x_100.a1 m_101.r.length x_100.c1, .slice x_100.a2 m_101.w.length x_100.c2]]) rfl) <| jJ 8 rfl (jS (v := .slice x_100.a0 m_101.s.length x_100.c0) rfl rfl) <| jJ 9 rfl (jS (v := .agg #[iv A_102.code, iv A_102.n, str A_102.text]) rfl rfl) <| jJ 10 rfl (jS (v := .agg #[.slice x_100.a1 m_101.r.length x_100.c1, .slice x_100.a2 m_101.w.length x_100.c2]) rfl rfl) <| jJ 13 rfl (jG (v := .slice x_100.a0 m_101.s.length x_100.c0) rfl) <| jK (i := 14) ?_
          refine jp rfl (ja 4 (vs := [iv A_102.code, iv A_102.n, str A_102.text]) (cs' := [iv A_102.code, iv A_102.n, str A_102.text]) rfl rfl rfl rfl kc rfl rfl (lb rfl) rfl) ?_
          rintro _ _ rfl
          refine jK (i := 15) ?_
          refine jo rfl (ja 3 (vs := [.slice x_100.a1 m_101.r.length x_100.c1, .slice x_100.a2 m_101.w.length x_100.c2]) (cs' := [.slice x_100.a1 m_101.r.length x_100.c1, .slice x_100.a2 m_101.w.length x_100.c2]) rfl rfl rfl rfl kr rfl rfl (lb rfl) rfl) ?_
          rintro _ _ rfl
          refine kR [3, 3, 0, 0, 0, 0, 0, 0, 0, 0, 0, 0] ?_
          exact jz ⟨a_50, c_51, v_52, x_100, m_101, A_102, b_77, b_93, e_53, hO_54, e_103, k_104, f_105, rfl, rfl, rfl, rfl, rfl, rfl,(by kernel_rfl)⟩
        refine jP rfl rfl (jh (z := .agg #[.slice none 0 0, .slice none 0 0]) (cs := [.slice none 0 0, .slice none 0 0]) kz rfl) ?_
        rintro _ _ ⟨b_106, rfl, rfl⟩
        refine ⟨(by simp), ?_⟩
        refine kL (i := 6) (j := 11) (by kernel_rfl) ?_ ?_
        · refine jP rfl rfl (jI [] Tryz.call30 rfl (I_callOn a_50 c_51 v_52 p.t.proc c (by have hl_ := (hO_54).1; omega) (by omega) hcc hO_54 (by omega)) rfl (fun w hw => ⟨hw.see (i := 1) rfl, hw.hex hlow hpre.2.2⟩)) ?_
          rintro _ _ ⟨_, ⟨x_114, m_115, A_116, e_117, k_118, f_119, rfl, rfl⟩, rfl⟩
          refine ⟨(by simp), ?_⟩
          refine jJ 7 rfl (jC (v := .tuple #[.slice x_114.a0 m_115.s.length x_114.c0, .agg #[iv A_116.code, iv A_116.n, str A_116.text], .agg #[.slice x_114.a1 m_115.r.length x_114.c1, .slice x_114.a2 m_115.w.length x_114.c2]]) rfl) <| jJ 8 rfl (jS (v := .slice x_114.a0 m_115.s.length x_114.c0) rfl rfl) <| jJ 9 rfl (jS (v := .agg #[iv A_116.code, iv A_116.n, str A_116.text]) rfl rfl) <| jJ 10 rfl (jS (v := .agg #[.slice x_114.a1 m_115.r.length x_114.c1, .slice x_114.a2 m_115.w.length x_114.c2]) rfl rfl) <| jK (i := 11) ?_
          refine jP rfl rfl (jh (z := .agg #[iv 0, iv 0, str []]) (cs := [iv 0, iv 0, str []]) km rfl) ?_
          rintro _ _ ⟨b_121, rfl, rfl⟩
          refine ⟨(by simp), ?_⟩
          refine jJ 13 rfl (jG (v := .slice x_114.a0 m_115.s.length x_114.c0) rfl) <| jK (i := 14) ?_
          refine jp rfl (ja 0 (vs := [iv A_116.code, iv A_116.n, str A_116.text]) (cs' := [iv A_116.code, iv A_116.n, str A_116.text]) rfl rfl rfl rfl kc rfl rfl (lb rfl) rfl) ?_
          rintro _ _ rfl
          refine jK (i := 15) ?_
          refine jo rfl (ja 4 (vs := [.slice x_114.a1 m_115.r.length x_114.c1, .slice x_114.a2 m_115.w.length x_114.c2]) (cs' := [.slice x_114.a1 m_115.r.length x_114.c1, .slice x_114.a2 m_115.w.length x_114.c2]) rfl rfl rfl rfl kr rfl rfl (lb rfl) rfl) ?_
          rintro _ _ rfl
          refine kR [4, 0, 0, 0, 0, 0, 0, 0, 0, 0, 0, 0] ?_
          exact jz ⟨a_50, c_51, v_52, x_114, m_115, A_116, b_121, b_106, e_53, hO_54, e_117, k_118, f_119, rfl, rfl, rfl, rfl, rfl, rfl,(by kernel_rfl)⟩
        refine jP rfl rfl (jh (z := .agg #[iv 0, iv 0, str []]) (cs := [iv 0, iv 0, str []]) km rfl) ?_
        rintro _ _ ⟨b_122, rfl, rfl⟩
        refine ⟨(by simp), ?_⟩
        refine jK (i := 6) ?_
        refine jP rfl rfl (jI [] Tryz.call30 rfl (I_callOn a_50 c_51 v_52 p.t.proc c (by have hl_ := (hO_54).1; omega) (by omega) hcc hO_54 (by omega)) rfl (fun w hw => ⟨hw.see (i := 2) rfl, hw.hex hlow hpre.2.2⟩)) ?_
        rintro _ _ ⟨_, ⟨x_129, m_130, A_131, e_132, k_133, f_134, rfl, rfl⟩, rfl⟩
        refine ⟨(by simp), ?_⟩
        refine jJ 7 rfl (jC (v := .tuple #[.slice x_129.a0 m_130.s.length x_129.c0, .agg #[iv A_131.code, iv A_131.n, str A_131.text], .agg #[.slice x_129.a1 m_130.r.length x_129.c1, .slice x_129.a2 m_130.w.length x_129.c2]]) rfl) <| jJ 8 rfl (jS (v := .slice x_129.a0 m_130.s.length x_129.c0) rfl rfl) <| jJ 9 rfl (jS (v := .agg #[iv A_131.code, iv A_131.n, str A_131.text]) rfl rfl) <| jJ 10 rfl (jS (v := .agg #[.slice x_129.a1 m_130.r.length x_129.c1, .slice x_129.a2 m_130.w.length x_129.c2]) rfl rfl) <| jJ 13 rfl (jG (v := .slice x_129.a0 m_130.s.length x_129.c0) rfl) <| jK (i := 14) ?_
        refine jp rfl (ja 3 (vs := [iv A_131.code, iv A_131.n, str A_131.text]) (cs' := [iv A_131.code, iv A_131.n, str A_131.text]) rfl rfl rfl rfl kc rfl rfl (lb rfl) rfl) ?_
        rintro _ _ rfl
        refine jK (i := 15) ?_
        refine jo rfl (ja 4 (vs := [.slice x_129.a1 m_130.r.length x_129.c1, .slice x_129.a2 m_130.w.length x_129.c2]) (cs' := [.slice x_129.a1 m_130.r.length x_129.c1, .slice x_129.a2 m_130.w.length x_129.c2]) rfl rfl rfl rfl kr rfl rfl (lb rfl) rfl) ?_
        rintro _ _ rfl
        refine kR [4, 3, 0, 0, 0, 0, 0, 0, 0, 0, 0, 0] ?_
        exact jz ⟨a_50, c_51, v_52, x_129, m_130, A_131, b_122, b_106, e_53, hO_54, e_132, k_133, f_134, rfl, rfl, rfl, rfl, rfl, rfl,(by kernel_rfl)⟩
      · refine jP rfl rfl (jh (z := .agg #[iv 0, iv 0, str []]) (cs := [iv 0, iv 0, str []]) km rfl) ?_
        rintro _ _ ⟨b_135, rfl, rfl⟩
        refine ⟨(by simp), ?_⟩
        refine kL (i := 2) (j := 12) (by kernel_rfl) ?_ ?_
        · refine jP rfl rfl (jI [] Tryz.call31 rfl (Y_iTxView p hlv sa sc s n hO (by omega) hc hg hgT) rfl (fun w hw => ⟨hw.seeOut_ hs_s nM, hw.seeOutA hpre.2.1 nMA, hw.hex hlow hpre.2.2⟩)) ?_
          rintro _ _ ⟨_, ⟨a_142, c_143, v_144, e_145, hO_146, rfl, rfl⟩, rfl⟩
          refine ⟨(by simp), ?_⟩
          refine kL (i := 6) (j := 12) (by kernel_rfl) ?_ ?_
          · refine jP rfl rfl (jI [] Tryz.call30 rfl (I_callOn a_142 c_143 v_144 p.t.proc c (by have hl_ := (hO_146).1; omega) (by omega) hcc hO_146 (by omega)) rfl (fun w hw => ⟨hw.see (i := 0) rfl, hw.hex hlow hpre.2.2⟩)) ?_
            rintro _ _ ⟨_, ⟨x_154, m_155, A_156, e_157, k_158, f_159, rfl, rfl⟩, rfl⟩
            refine ⟨(by simp), ?_⟩
            refine jJ 7 rfl (jC (v := .tuple #[.slice x_154.a0 m_155.s.length x_154.c0, .agg #[iv A_156.code, iv A_156.n, str A_156.text], .agg #[.slice x_154.a1 m_155.r.length x_154.c1, .slice x_154.a2 m_155.w.length x_154.c2]]) rfl) <| jJ 8 rfl (jS (v := .slice x_154.a0 m_155.s.length x_154.c0) rfl rfl) <| jJ 9 rfl (jS (v := .agg #[iv A_156.code, iv A_156.n, str A_156.text]) rfl rfl) <| jJ 10 rfl (jS (v := .agg #[.slice x_154.a1 m_155.r.length x_154.c1, .slice x_154.a2 m_155.w.length x_154.c2]) rfl rfl) <| jK (i := 12) ?_
            refine jP rfl rfl (jh (z := .agg #[.slice none 0 0, .slice none 0 0]) (cs := [.slice none 0 0, .slice none 0 0]) kz rfl) ?_
            rintro _ _ ⟨b_161, rfl, rfl⟩
            refine ⟨(by simp), ?_⟩
            refine jJ 13 rfl (jG (v := .slice x_154.a0 m_155.s.length x_154.c0) rfl) <| jK (i := 14) ?_
            refine jp rfl (ja 5 (vs := [iv A_156.code, iv A_156.n, str A_156.text]) (cs' := [iv A_156.code, iv A_156.n, str A_156.text]) rfl rfl rfl rfl kc rfl rfl (lb rfl) rfl) ?_
            rintro _ _ rfl
            refine jK (i := 15) ?_
            refine jo rfl (ja 0 (vs := [.slice x_154.a1 m_155.r.length x_154.c1, .slice x_154.a2 m_155.w.length x_154.c2]) (cs' := [.slice x_154.a1 m_155.r.length x_154.c1, .slice x_154.a2 m_155.w.length x_154.c2]) rfl rfl rfl rfl kr rfl rfl (lb rfl) rfl) ?_
            rintro _ _ rfl
            refine kR [0, 4, 0, 0, 0, 0, 0, 0, 0, 0, 0, 0] ?_
            exact jz ⟨a_142, c_143, v_144, x_154, m_155, A_156, b_135, b_161, e_145, hO_146, e_157, k_158, f_159, rfl, rfl, rfl, rfl, rfl, rfl,(by kernel_rfl)⟩
          refine jP rfl rfl (jh (z := .agg #[.slice none 0 0, .slice none 0 0]) (cs := [.slice none 0 0, .slice none 0 0]) kz rfl) ?_
          rintro _ _ ⟨b_162, rfl, rfl⟩
          refine ⟨(by simp), ?_⟩
          refine jK (i := 6) ?_
          refine jP rfl rfl (jI [] Tryz.call30 rfl (I_callOn a_142 c_143 v_144 p.t.proc c (by have hl_ := (hO_146).1; omega) (by omega) hcc hO_146 (by omega)) rfl (fun w hw => ⟨hw.see (i := 1) rfl, hw.hex hlow hpre.2.2⟩)) ?_
          rintro _ _ ⟨_, ⟨x_169, m_170, A_171, e_172, k_173, f_174, rfl, rfl⟩, rfl⟩
          refine ⟨(by simp), ?_⟩
          refine jJ 7 rfl (jC (v := .tuple #[.slice x_169.a0 m_170.s.length x_169.c0, .agg #[iv A_171.code, iv A_171.n, str A_171.text], .agg #[.slice x_169.a1 m_170.r.length x_169.c1, .slice x_169.a2 m_170.w.length x_169.c2]]) rfl) <| jJ 8 rfl (jS (v := .slice x_169.a0 m_170.s.length x_169.c0) rfl rfl) <| jJ 9 rfl (jS (v := .agg #[iv A_171.code, iv A_171.n, str A_171.text]) rfl rfl) <| jJ 10 rfl (jS (v := .agg #[.slice x_169.a1 m_170.r.length x_169.c1, .slice x_169.a2 m_170.w.length x_169.c2]) rfl rfl) <| jJ 13 rfl (jG (v := .slice x_169.a0 m_170.s.length x_169.c0) rfl) <| jK (i := 14) ?_
          refine jp rfl (ja 5 (vs := [iv A_171.code, iv A_171.n, str A_171.text]) (cs' := [iv A_171.code, iv A_171.n, str A_171.text]) rfl rfl rfl rfl kc rfl rfl (lb rfl) rfl) ?_
          rintro _ _ rfl
          refine jK (i := 15) ?_
          refine jo rfl (ja 3 (vs := [.slice x_169.a1 m_170.r.length x_169.c1, .slice x_169.a2 m_170.w.length x_169.c2]) (cs' := [.slice x_169.a1 m_170.r.length x_169.c1, .slice x_169.a2 m_170.w.length x_169.c2]) rfl rfl rfl rfl kr rfl rfl (lb rfl) rfl) ?_
          rintro _ _ rfl
          refine kR [3, 4, 0, 0, 0, 0, 0, 0, 0, 0, 0, 0] ?_
          exact jz ⟨a_142, c_143, v_144, x_169, m_170, A_171, b_135, b_162, e_145, hO_146, e_172, k_173, f_174, rfl, rfl, rfl, rfl, rfl, rfl,(by kernel_rfl)⟩
        refine jP rfl rfl (jh (z := .agg #[.slice none 0 0, .slice none 0 0]) (cs := [.slice none 0 0, .slice none 0 0]) kz rfl) ?_
        rintro _ _ ⟨b_175, rfl, rfl⟩
        refine ⟨(by simp), ?_⟩
        refine jK (i := 2) ?_
        refine jP rfl rfl (jI [] Tryz.call31 rfl (Y_iTxView p hlv sa sc s n hO (by omega) hc hg hgT) rfl (fun w hw => ⟨hw.seeOut_ hs_s nM, hw.seeOutA hpre.2.1 nMA, hw.hex hlow hpre.2.2⟩)) ?_
        rintro _ _ ⟨_, ⟨a_181, c_182, v_183, e_184, hO_185, rfl, rfl⟩, rfl⟩
        refine ⟨(by simp), ?_⟩
        refine jK (i := 6) ?_
        refine jP rfl rfl (jI [] Tryz.call30 rfl (I_callOn a_181 c_182 v_183 p.t.proc c (by have hl_ := (hO_185).1; omega) (by omega) hcc hO_185 (by omega)) rfl (fun w hw => ⟨hw.see (i := 0) rfl, hw.hex hlow hpre.2.2⟩)) ?_
        rintro _ _ ⟨_, ⟨x_192, m_193, A_194, e_195, k_196, f_197, rfl, rfl⟩, rfl⟩
        refine ⟨(by simp), ?_⟩
        refine jJ 7 rfl (jC (v := .tuple #[.slice x_192.a0 m_193.s.length x_192.c0, .agg #[iv A_194.code, iv A_194.n, str A_194.text], .agg #[.slice x_192.a1 m_193.r.length x_192.c1, .slice x_192.a2 m_193.w.length x_192.c2]]) rfl) <| jJ 8 rfl (jS (v := .slice x_192.a0 m_193.s.length x_192.c0) rfl rfl) <| jJ 9 rfl (jS (v := .agg #[iv A_194.code, iv A_194.n, str A_194.text]) rfl rfl) <| jJ 10 rfl (jS (v := .agg #[.slice x_192.a1 m_193.r.length x_192.c1, .slice x_192.a2 m_193.w.length x_192.c2]) rfl rfl) <| jJ 13 rfl (jG (v := .slice x_192.a0 m_193.s.length x_192.c0) rfl) <| jK (i := 14) ?_
        refine jp rfl (ja 5 (vs := [iv A_194.code, iv A_194.n, str A_194.text]) (cs' := [iv A_194.code, iv A_194.n, str A_194.text]) rfl rfl rfl rfl kc rfl rfl (lb rfl) rfl) ?_
        rintro _ _ rfl
        refine jK (i := 15) ?_
        refine jo rfl (ja 4 (vs := [.slice x_192.a1 m_193.r.length x_192.c1, .slice x_192.a2 m_193.w.length x_192.c2]) (cs' := [.slice x_192.a1 m_193.r.length x_192.c1, .slice x_192.a2 m_193.w.length x_192.c2]) rfl rfl rfl rfl kr rfl rfl (lb rfl) rfl) ?_
        rintro _ _ rfl
        refine kR [4, 4, 0, 0, 0, 0, 0, 0, 0, 0, 0, 0] ?_
        exact jz ⟨a_181, c_182, v_183, x_192, m_193, A_194, b_135, b_175, e_184, hO_185, e_195, k_196, f_197, rfl, rfl, rfl, rfl, rfl, rfl,(by kernel_rfl)⟩
      refine jP rfl rfl (jh (z := .agg #[.slice none 0 0, .slice none 0 0]) (cs := [.slice none 0 0, .slice none 0 0]) kz rfl) ?_
      rintro _ _ ⟨b_198, rfl, rfl⟩
      refine ⟨(by simp), ?_⟩
      refine kL (i := 2) (j := 11) (by kernel_rfl) ?_ ?_
      · refine jP rfl rfl (jI [] Tryz.call31 rfl (Y_iTxView p hlv sa sc s n hO (by omega) hc hg hgT) rfl (fun w hw => ⟨hw.seeOut_ hs_s nM, hw.seeOutA hpre.2.1 nMA, hw.hex hlow hpre.2.2⟩)) ?_
        rintro _ _ ⟨_, ⟨a_205, c_206, v_207, e_208, hO_209, rfl, rfl⟩, rfl⟩
        refine ⟨(by simp), ?_⟩
        refine kL (i := 6) (j := 11) (by kernel_rfl) ?_ ?_
        · refine jP rfl rfl (jI [] Tryz.call30 rfl (I_callOn a_205 c_206 v_207 p.t.proc c (by have hl_ := (hO_209).1; omega) (by omega) hcc hO_209 (by omega)) rfl (fun w hw => ⟨hw.see (i := 0) rfl, hw.hex hlow hpre.2.2⟩)) ?_
          rintro _ _ ⟨_, ⟨x_217, m_218, A_219, e_220, k_221, f_222, rfl, rfl⟩, rfl⟩
          refine ⟨(by simp), ?_⟩
          refine jJ 7 rfl (jC (v := .tuple #[.slice x_217.a0 m_218.s.length x_217.c0, .agg #[iv A_219.code, iv A_219.n, str A_219.text], .agg #[.slice x_217.a1 m_218.r.length x_217.c1, .slice x_217.a2 m_218.w.length x_217.c2]]) rfl) <| jJ 8 rfl (jS (v := .slice x_217.a0 m_218.s.length x_217.c0) rfl rfl) <| jJ 9 rfl (jS (v := .agg #[iv A_219.code, iv A_219.n, str A_219.text]) rfl rfl) <| jJ 10 rfl (jS (v := .agg #[.slice x_217.a1 m_218.r.length x_217.c1, .slice x_217.a2 m_218.w.length x_217.c2]) rfl rfl) <| jK (i := 11) ?_
          refine jP rfl rfl (jh (z := .agg #[iv 0, iv 0, str []]) (cs := [iv 0, iv 0, str []]) km rfl) ?_
          rintro _ _ ⟨b_224, rfl, rfl⟩
          refine ⟨(by simp), ?_⟩
          refine jJ 13 rfl (jG (v := .slice x_217.a0 m_218.s.length x_217.c0) rfl) <| jK (i := 14) ?_
          refine jp rfl (ja 0 (vs := [iv A_219.code, iv A_219.n, str A_219.text]) (cs' := [iv A_219.code, iv A_219.n, str A_219.text]) rfl rfl rfl rfl kc rfl rfl (lb rfl) rfl) ?_
          rintro _ _ rfl
          refine jK (i := 15) ?_
          refine jo rfl (ja 5 (vs := [.slice x_217.a1 m_218.r.length x_217.c1, .slice x_217.a2 m_218.w.length x_217.c2]) (cs' := [.slice x_217.a1 m_218.r.length x_217.c1, .slice x_217.a2 m_218.w.length x_217.c2]) rfl rfl rfl rfl kr rfl rfl (lb rfl) rfl) ?_
          rintro _ _ rfl
          refine kR [5, 0, 0, 0, 0, 0, 0, 0, 0, 0, 0, 0] ?_
          exact jz ⟨a_205, c_206, v_207, x_217, m_218, A_219, b_224, b_198, e_208, hO_209, e_220, k_221, f_222, rfl, rfl, rfl, rfl, rfl, rfl,(by kernel_rfl)⟩
        refine jP rfl rfl (jh (z := .agg #[iv 0, iv 0, str []]) (cs := [iv 0, iv 0, str []]) km rfl) ?_
        rintro _ _ ⟨b_225, rfl, rfl⟩
        refine ⟨(by simp), ?_⟩
        refine jK (i := 6) ?_
        refine jP rfl rfl (jI [] Tryz.call30 rfl (I_callOn a_205 c_206 v_207 p.t.proc c (by have hl_ := (hO_209).1; omega) (by omega) hcc hO_209 (by omega)) rfl (fun w hw => ⟨hw.see (i := 1) rfl, hw.hex hlow hpre.2.2⟩)) ?_
        rintro _ _ ⟨_, ⟨x_232, m_233, A_234, e_235, k_236, f_237, rfl, rfl⟩, rfl⟩
        refine ⟨(by simp), ?_⟩
        refine jJ 7 rfl (jC (v := .tuple #[.slice x_232.a0 m_233.s.length x_232.c0, .agg #[iv A_234.code, iv A_234.n, str A_234.text], .agg #[.slice x_232.a1 m_233.r.length x_232.c1, .slice x_232.a2 m_233.w.length x_232.c2]]) rfl) <| jJ 8 rfl (jS (v := .slice x_232.a0 m_233.s.length x_232.c0) rfl rfl) <| jJ 9 rfl (jS (v := .agg #[iv A_234.code, iv A_234.n, str A_234.text]) rfl rfl) <| jJ 10 rfl (jS (v := .agg #[.slice x_232.a1 m_233.r.length x_232.c1, .slice x_232.a2 m_233.w.length x_232.c2]) rfl rfl) <| jJ 13 rfl (jG (v := .slice x_232.a0 m_233.s.length x_232.c0) rfl) <| jK (i := 14) ?_
        refine jp rfl (ja 3 (vs := [iv A_234.code, iv A_234.n, str A_234.text]) (cs' := [iv A_234.code, iv A_234.n, str A_234.text]) rfl rfl rfl rfl kc rfl rfl (lb rfl) rfl) ?_
        rintro _ _ rfl
        refine jK (i := 15) ?_
        refine jo rfl (ja 5 (vs := [.slice x_232.a1 m_233.r.length x_232.c1, .slice x_232.a2 m_233.w.length x_232.c2]) (cs' := [.slice x_232.a1 m_233.r.length x_232.c1, .slice x_232.a2 m_233.w.length x_232.c2]) rfl rfl rfl rfl kr rfl rfl (lb rfl) rfl) ?_
        rintro _ _ rfl
        refine kR [5, 3, 0, 0, 0, 0, 0, 0, 0, 0, 0, 0] ?_
        exact jz ⟨a_205, c_206, v_207, x_232, m_233, A_234, b_225, b_198, e_208, hO_209, e_235, k_236, f_237, rfl, rfl, rfl, rfl, rfl, rfl,(by kernel_rfl)⟩
      refine jP rfl rfl (jh (z := .agg #[iv 0, iv 0, str []]) (cs := [iv 0, iv 0, str []]) km rfl) ?_
      rintro _ _ ⟨b_238, rfl, rfl⟩
      refine ⟨(by simp), ?_⟩
      refine jK (i := 2) ?_
      refine jP rfl rfl (jI [] Tryz.call31 rfl (Y_iTxView p hlv sa sc s n hO (by omega) hc hg hgT) rfl (fun w hw => ⟨hw.seeOut_ hs_s nM, hw.seeOutA hpre.2.1 nMA, hw.hex hlow hpre.2.2⟩)) ?_
      rintro _ _ ⟨_, ⟨a_244, c_245, v_246, e_247, hO_248, rfl, rfl⟩, rfl⟩
      refine ⟨(by simp), ?_⟩
      refine jK (i := 6) ?_
      refine jP rfl rfl (jI [] Tryz.call30 rfl (I_callOn a_244 c_245 v_246 p.t.proc c (by have hl_ := (hO_248).1; omega) (by omega) hcc hO_248 (by omega)) rfl (fun w hw => ⟨hw.see (i := 0) rfl, hw.hex hlow hpre.2.2⟩)) ?_
      rintro _ _ ⟨_, ⟨x_255, m_256, A_257, e_258, k_259, f_260, rfl, rfl⟩, rfl⟩
      refine ⟨(by simp), ?_⟩
      refine jJ 7 rfl (jC (v := .tuple #[.slice x_255.a0 m_256.s.length x_255.c0, .agg #[iv A_257.code, iv A_257.n, str A_257.text], .agg #[.slice x_255.a1 m_256.r.length x_255.c1, .slice x_255.a2 m_256.w.length x_255.c2]]) rfl) <| jJ 8 rfl (jS (v := .slice x_255.a0 m_256.s.length x_255.c0) rfl rfl) <| jJ 9 rfl (jS (v := .agg #[iv A_257.code, iv A_257.n, str A_257.text]) rfl rfl) <| jJ 10 rfl (jS (v := .agg #[.slice x_255.a1 m_256.r.length x_255.c1, .slice x_255.a2 m_256.w.length x_255.c2]) rfl rfl) <| jJ 13 rfl (jG (v := .slice x_255.a0 m_256.s.length x_255.c0) rfl) <| jK (i := 14) ?_
      refine jp rfl (ja 4 (vs := [iv A_257.code, iv A_257.n, str A_257.text]) (cs' := [iv A_257.code, iv A_257.n, str A_257.text]) rfl rfl rfl rfl kc rfl rfl (lb rfl) rfl) ?_
      rintro _ _ rfl
      refine jK (i := 15) ?_
      refine jo rfl (ja 5 (vs := [.slice x_255.a1 m_256.r.length x_255.c1, .slice x_255.a2 m_256.w.length x_255.c2]) (cs' := [.slice x_255.a1 m_256.r.length x_255.c1, .slice x_255.a2 m_256.w.length x_255.c2]) rfl rfl rfl rfl kr rfl rfl (lb rfl) rfl) ?_
      rintro _ _ rfl
      refine kR [5, 4, 0, 0, 0, 0, 0, 0, 0, 0, 0, 0] ?_
      exact jz ⟨a_244, c_245, v_246, x_255, m_256, A_257, b_238, b_198, e_247, hO_248, e_258, k_259, f_260, rfl, rfl, rfl, rfl, rfl, rfl,(by kernel_rfl)⟩
    rintro e_261 _ ⟨a_15, c_16, v_17, x_20, m_21, A_22, b_26, b_27, e_18, hO_19, e_23, k_24, f_25, he_262, he_263, he_264, he_265, he_266, he_267, rfl⟩
    refine jB <| jD <| JC.ghost (L' := [Res.row (.slice y_10.x.a0 y_10.t.calls.length y_10.x.c0) 43 6 y_10.t.calls.length (y_10.t.calls.flatMap encK), Res.row (.slice y_10.x.a1 y_10.t.ans.length y_10.x.c1) 37 3 y_10.t.ans.length (y_10.t.ans.flatMap encA), rS y_10.x.a2 y_10.x.c2 y_10.t.rd, rS y_10.x.a3 y_10.x.c3 y_10.t.wr, rI y_10.x.a4 y_10.x.c4 y_10.t.marks, bk b_27 30 [.slice x_20.a1 m_21.r.length x_20.c1, .slice x_20.a2 m_21.w.length x_20.c2], bk b_26 37 [iv A_22.code, iv A_22.n, str A_22.text], rC x_20.a0 x_20.c0 m_21.s, rS x_20.a1 x_20.c1 m_21.r, rS x_20.a2 x_20.c2 m_21.w, rC a_15 c_16 v_17, bk b_12 32 [iv y_10.t.id, iv y_10.t.age, iv y_10.t.proc, iv y_10.t.began, .slice y_10.x.a0 y_10.t.calls.length y_10.x.c0, .slice y_10.x.a1 y_10.t.ans.length y_10.x.c1, .slice y_10.x.a2 y_10.t.rd.length y_10.x.c2, .slice y_10.x.a3 y_10.t.wr.length y_10.x.c3, .slice y_10.x.a4 y_10.t.marks.length y_10.x.c4, iv y_10.t.state], bk b_9 37 [iv 0, iv 0, str []], bk b_8 32 [iv 0, iv 0, iv 0, iv 0, .slice none 0 0, .slice none 0 0, .slice none 0 0, .slice none 0 0, .slice none 0 0, iv 0], bk b_7 43 [iv c.kind, str c.name, str c.to_, iv c.a, iv c.b, str c.text], bk b_6 32 [iv p.t.id, iv p.t.age, iv p.t.proc, iv p.t.began, .slice p.x.a0 p.t.calls.length p.x.c0, .slice p.x.a1 p.t.ans.length p.x.c1, .slice p.x.a2 p.t.rd.length p.x.c2, .slice p.x.a3 p.t.wr.length p.x.c3, .slice p.x.a4 p.t.marks.length p.x.c4, iv p.t.state]]) (fun w hw => hw.openR 7 rfl) ?_
    have hl_calls : y_10.t.calls.length = p.t.calls.length := by rw [hy_11]
    have hl_ans : y_10.t.ans.length = p.t.ans.length := by rw [hy_11]
    have hl_rd : y_10.t.rd.length = p.t.rd.length := by rw [hy_11]
    have hl_wr : y_10.t.wr.length = p.t.wr.length := by rw [hy_11]
    refine jF <| jA (jY fo32_4 he_265) <| jT (jf 11 (v := .slice y_10.x.a0 y_10.t.calls.length y_10.x.c0) rfl rfl gP rfl) <| jT (je 14 (vs := [iv c.kind, str c.name, str c.to_, iv c.a, iv c.b, str c.text]) rfl he_262 gE ky rfl rfl) ?_
    refine jH rfl (kH (ps := [(0, .agg #[iv c.kind, str c.name, str c.to_, iv c.a, iv c.b, str c.text])]) (cur := #[iv c.kind, str c.name, str c.to_, iv c.a, iv c.b, str c.text]) gC ky Tryz.zeroValue43 rfl (by kernel_rfl) (by decide) (by decide)) ?_
    rintro _ _ ⟨a_268, rfl, rfl⟩
    refine jH rfl (kG 1 (q := 1) (news := ([c] : List CL).flatMap encK) (n' := (y_10.t.calls ++ ([c] : List CL)).length) (cs' := (y_10.t.calls ++ ([c] : List CL)).flatMap encK) rfl gC gC Tryz.typeInfo43 rfl (by' := 72) rfl rfl rfl rfl rfl (fun w hw => Src.sees (hw.see (i := 0) rfl) (oneK _)) (by (try simp only [LE]); omega) (by (try simp only [LE]); omega) (by simp only [List.length_append, List.length_take, List.length_drop, List.length_cons, List.length_nil] <;> first | rfl | omega) (by simp only [List.flatMap_append])) ?_
    rintro _ _ ⟨a_269, c_270, rfl, rfl⟩
    refine jA (jY fo32_4 he_265) ?_
    refine jH rfl (ja 12 (vs := [.slice a_269 ((y_10.t.calls ++ ([c] : List CL)).length) c_270]) (cs' := [iv y_10.t.id, iv y_10.t.age, iv y_10.t.proc, iv y_10.t.began, .slice a_269 ((y_10.t.calls ++ ([c] : List CL)).length) c_270, .slice y_10.x.a1 y_10.t.ans.length y_10.x.c1, .slice y_10.x.a2 y_10.t.rd.length y_10.x.c2, .slice y_10.x.a3 y_10.t.wr.length y_10.x.c3, .slice y_10.x.a4 y_10.t.marks.length y_10.x.c4, iv y_10.t.state]) rfl rfl rfl rfl Tryz.sizeOf26 rfl rfl (lb rfl) rfl) ?_
    rintro _ _ rfl
    refine jE <| jB <| jD <| jF <| jA (jY fo32_5 he_265) <| jT (jf 12 (v := .slice y_10.x.a1 y_10.t.ans.length y_10.x.c1) rfl rfl Tryz.isAgg27 rfl) <| jT (je 7 (vs := [iv A_22.code, iv A_22.n, str A_22.text]) rfl he_266 ke kc rfl rfl) ?_
    refine jH rfl (kH (ps := [(0, .agg #[iv A_22.code, iv A_22.n, str A_22.text])]) (cur := #[iv A_22.code, iv A_22.n, str A_22.text]) gH kc km rfl (by kernel_rfl) (by decide) (by decide)) ?_
    rintro _ _ ⟨a_271, rfl, rfl⟩
    refine jH rfl (kG 3 (q := 1) (news := ([A_22] : List AN).flatMap encA) (n' := (y_10.t.ans ++ ([A_22] : List AN)).length) (cs' := (y_10.t.ans ++ ([A_22] : List AN)).flatMap encA) rfl gH gH Tryz.typeInfo37 rfl (by' := 32) rfl rfl rfl rfl rfl (fun w hw => Src.sees (hw.see (i := 0) rfl) (oneA _)) (by (try simp only [LE]); omega) (by (try simp only [LE]); omega) (by simp only [List.length_append, List.length_take, List.length_drop, List.length_cons, List.length_nil] <;> first | rfl | omega) (by simp only [List.flatMap_append])) ?_
    rintro _ _ ⟨a_272, c_273, rfl, rfl⟩
    refine jA (jY fo32_5 he_265) ?_
    refine jH rfl (ja 13 (vs := [.slice a_272 ((y_10.t.ans ++ ([A_22] : List AN)).length) c_273]) (cs' := [iv y_10.t.id, iv y_10.t.age, iv y_10.t.proc, iv y_10.t.began, .slice a_269 ((y_10.t.calls ++ ([c] : List CL)).length) c_270, .slice a_272 ((y_10.t.ans ++ ([A_22] : List AN)).length) c_273, .slice y_10.x.a2 y_10.t.rd.length y_10.x.c2, .slice y_10.x.a3 y_10.t.wr.length y_10.x.c3, .slice y_10.x.a4 y_10.t.marks.length y_10.x.c4, iv y_10.t.state]) rfl rfl rfl rfl Tryz.sizeOf27 rfl rfl (lb rfl) rfl) ?_
    rintro _ _ rfl
    refine jE <| jB <| jD ?_
    have hkr := k_24.2.1
    have hkw := k_24.2.2.1
    refine jF <| jA (jY fo32_6 he_265) <| jT (je 7 (vs := [.slice x_20.a1 m_21.r.length x_20.c1, .slice x_20.a2 m_21.w.length x_20.c2]) rfl he_267 gG kr rfl rfl) ?_
    refine jH rfl (jI [13, 4, 4, 8, 8] Tryz.call32 rfl (I_joinTx b_12 (iv y_10.t.id) (iv y_10.t.age) (iv y_10.t.proc) (iv y_10.t.began) (.slice a_269 ((y_10.t.calls ++ ([c] : List CL)).length) c_270) (.slice a_272 ((y_10.t.ans ++ ([A_22] : List AN)).length) c_273) (.slice y_10.x.a4 y_10.t.marks.length y_10.x.c4) (iv y_10.t.state) y_10.x.a2 y_10.x.c2 y_10.t.rd y_10.x.a3 y_10.x.c3 y_10.t.wr x_20.a1 x_20.c1 m_21.r x_20.a2 x_20.c2 m_21.w (by omega) (by omega) (by omega) (by omega)) rfl (fun _ _ => trivial)) ?_
    rintro _ _ ⟨_, ⟨a_274, c_275, a_276, c_277, rfl, rfl⟩, rfl⟩
    refine jE <| jB <| jD <| jq [bk b_12 32 [iv y_10.t.id, iv y_10.t.age, iv y_10.t.proc, iv y_10.t.began, .slice a_269 ((y_10.t.calls ++ ([c] : List CL)).length) c_270, .slice a_272 ((y_10.t.ans ++ ([A_22] : List AN)).length) c_273, .slice a_274 ((m_21.r.foldl addSpan y_10.t.rd).length) c_275, .slice a_276 ((m_21.w.foldl addSpan y_10.t.wr).length) c_277, .slice y_10.x.a4 y_10.t.marks.length y_10.x.c4, iv y_10.t.state], bk b_26 37 [iv A_22.code, iv A_22.n, str A_22.text]] 3 mixed (by simp) <| jj 0 rfl (je 0 (vs := [iv y_10.t.id, iv y_10.t.age, iv y_10.t.proc, iv y_10.t.began, .slice a_269 ((y_10.t.calls ++ ([c] : List CL)).length) c_270, .slice a_272 ((y_10.t.ans ++ ([A_22] : List AN)).length) c_273, .slice a_274 ((m_21.r.foldl addSpan y_10.t.rd).length) c_275, .slice a_276 ((m_21.w.foldl addSpan y_10.t.wr).length) c_277, .slice y_10.x.a4 y_10.t.marks.length y_10.x.c4, iv y_10.t.state]) rfl he_265 kw kq rfl rfl) <| jj 1 rfl (je 1 (vs := [iv A_22.code, iv A_22.n, str A_22.text]) rfl he_266 ke kc rfl rfl) <| jK (i := 2) ?_
    refine jP rfl rfl (ja 15 (vs := [iv y_10.t.id, iv y_10.t.age, iv y_10.t.proc, iv y_10.t.began, .slice a_269 ((y_10.t.calls ++ ([c] : List CL)).length) c_270, .slice a_272 ((y_10.t.ans ++ ([A_22] : List AN)).length) c_273, .slice a_274 ((m_21.r.foldl addSpan y_10.t.rd).length) c_275, .slice a_276 ((m_21.w.foldl addSpan y_10.t.wr).length) c_277, .slice y_10.x.a4 y_10.t.marks.length y_10.x.c4, iv y_10.t.state]) (cs' := [iv y_10.t.id, iv y_10.t.age, iv y_10.t.proc, iv y_10.t.began, .slice a_269 ((y_10.t.calls ++ ([c] : List CL)).length) c_270, .slice a_272 ((y_10.t.ans ++ ([A_22] : List AN)).length) c_273, .slice a_274 ((m_21.r.foldl addSpan y_10.t.rd).length) c_275, .slice a_276 ((m_21.w.foldl addSpan y_10.t.wr).length) c_277, .slice y_10.x.a4 y_10.t.marks.length y_10.x.c4, iv y_10.t.state]) rfl he_263 rfl rfl kq rfl rfl (lb rfl) rfl) ?_
    rintro _ _ rfl
    refine ⟨(by simp), ?_⟩
    refine jK (i := 3) ?_
    refine jo rfl (ja 14 (vs := [iv A_22.code, iv A_22.n, str A_22.text]) (cs' := [iv A_22.code, iv A_22.n, str A_22.text]) rfl he_264 rfl rfl kc rfl rfl (lb rfl) rfl) ?_
    rintro _ _ rfl
    refine jB <| jM <| JQ.ghost (L' := [Res.rows (rdsX (⟨⟨a_269, c_270, a_272, c_273, a_274, c_275, a_276, c_277, y_10.x.a4, y_10.x.c4⟩, ⟨y_10.t.id, y_10.t.age, y_10.t.proc, y_10.t.began, (y_10.t.calls ++ ([c] : List CL)), (y_10.t.ans ++ ([A_22] : List AN)), m_21.r.foldl addSpan y_10.t.rd, m_21.w.foldl addSpan y_10.t.wr, y_10.t.marks, y_10.t.state⟩⟩ : TX)), bk b_12 32 [iv y_10.t.id, iv y_10.t.age, iv y_10.t.proc, iv y_10.t.began, .slice a_269 ((y_10.t.calls ++ ([c] : List CL)).length) c_270, .slice a_272 ((y_10.t.ans ++ ([A_22] : List AN)).length) c_273, .slice a_274 ((m_21.r.foldl addSpan y_10.t.rd).length) c_275, .slice a_276 ((m_21.w.foldl addSpan y_10.t.wr).length) c_277, .slice y_10.x.a4 y_10.t.marks.length y_10.x.c4, iv y_10.t.state], rS x_20.a1 x_20.c1 m_21.r, rS x_20.a2 x_20.c2 m_21.w, Res.row (.slice a_271 1 1) 37 3 1 (([A_22] : List AN).flatMap encA), Res.row (.slice a_268 1 1) 43 6 1 (([c] : List CL).flatMap encK), bk b_27 30 [.slice x_20.a1 m_21.r.length x_20.c1, .slice x_20.a2 m_21.w.length x_20.c2], bk b_26 37 [iv A_22.code, iv A_22.n, str A_22.text], rC x_20.a0 x_20.c0 m_21.s, rC a_15 c_16 v_17, bk b_9 37 [iv A_22.code, iv A_22.n, str A_22.text], bk b_8 32 [iv y_10.t.id, iv y_10.t.age, iv y_10.t.proc, iv y_10.t.began, .slice a_269 ((y_10.t.calls ++ ([c] : List CL)).length) c_270, .slice a_272 ((y_10.t.ans ++ ([A_22] : List AN)).length) c_273, .slice a_274 ((m_21.r.foldl addSpan y_10.t.rd).length) c_275, .slice a_276 ((m_21.w.foldl addSpan y_10.t.wr).length) c_277, .slice y_10.x.a4 y_10.t.marks.length y_10.x.c4, iv y_10.t.state], bk b_7 43 [iv c.kind, str c.name, str c.to_, iv c.a, iv c.b, str c.text], bk b_6 32 [iv p.t.id, iv p.t.age, iv p.t.proc, iv p.t.began, .slice p.x.a0 p.t.calls.length p.x.c0, .slice p.x.a1 p.t.ans.length p.x.c1, .slice p.x.a2 p.t.rd.length p.x.c2, .slice p.x.a3 p.t.wr.length p.x.c3, .slice p.x.a4 p.t.marks.length p.x.c4, iv p.t.state]]) (fun w hw => hw.closeR (A := rdsX (⟨⟨a_269, c_270, a_272, c_273, a_274, c_275, a_276, c_277, y_10.x.a4, y_10.x.c4⟩, ⟨y_10.t.id, y_10.t.age, y_10.t.proc, y_10.t.began, (y_10.t.calls ++ ([c] : List CL)), (y_10.t.ans ++ ([A_22] : List AN)), m_21.r.foldl addSpan y_10.t.rd, m_21.w.foldl addSpan y_10.t.wr, y_10.t.marks, y_10.t.state⟩⟩ : TX)) [7, 7, 1, 1, 5] rfl) <| jn (.inl rfl) rfl (jg (je 11 (vs := [iv y_10.t.id, iv y_10.t.age, iv y_10.t.proc, iv y_10.t.began, .slice a_269 ((y_10.t.calls ++ ([c] : List CL)).length) c_270, .slice a_272 ((y_10.t.ans ++ ([A_22] : List AN)).length) c_273, .slice a_274 ((m_21.r.foldl addSpan y_10.t.rd).length) c_275, .slice a_276 ((m_21.w.foldl addSpan y_10.t.wr).length) c_277, .slice y_10.x.a4 y_10.t.marks.length y_10.x.c4, iv y_10.t.state]) rfl he_263 kw kq rfl rfl) ⟨_, he_263⟩) (jg (je 10 (vs := [iv A_22.code, iv A_22.n, str A_22.text]) rfl he_264 ke kc rfl rfl) ⟨_, he_264⟩) (tS 1 _) ?_
    have hv := e_18
    have hd := e_23
    try rw [hy_11] at hv
    try rw [hpr] at hd
    have hm : TD.askV (viewA s p.t) p.t c = ((⟨⟨a_269, c_270, a_272, c_273, a_274, c_275, a_276, c_277, y_10.x.a4, y_10.x.c4⟩, ⟨y_10.t.id, y_10.t.age, y_10.t.proc, y_10.t.began, (y_10.t.calls ++ ([c] : List CL)), (y_10.t.ans ++ ([A_22] : List AN)), m_21.r.foldl addSpan y_10.t.rd, m_21.w.foldl addSpan y_10.t.wr, y_10.t.marks, y_10.t.state⟩⟩ : TX).t, A_22) := by rw [askV_on (by omega) (by omega), hv, hd, ← hy_11]
    exact ⟨(⟨⟨a_269, c_270, a_272, c_273, a_274, c_275, a_276, c_277, y_10.x.a4, y_10.x.c4⟩, ⟨y_10.t.id, y_10.t.age, y_10.t.proc, y_10.t.began, (y_10.t.calls ++ ([c] : List CL)), (y_10.t.ans ++ ([A_22] : List AN)), m_21.r.foldl addSpan y_10.t.rd, m_21.w.foldl addSpan y_10.t.wr, y_10.t.marks, y_10.t.state⟩⟩ : TX), A_22, hm, (by omega), ⟨(by have h_ := foldSpan_len m_21.r y_10.t.rd; dsimp only; omega), (by have h_ := foldSpan_len m_21.w y_10.t.wr; dsimp only; omega)⟩, rfl, rfl⟩
  refine jQ (cB (cN (dF h_13))) <| jD <| jF <| jT (je 0 (vs := [iv y_10.t.id, iv y_10.t.age, iv y_10.t.proc, iv y_10.t.began, .slice y_10.x.a0 y_10.t.calls.length y_10.x.c0, .slice y_10.x.a1 y_10.t.ans.length y_10.x.c1, .slice y_10.x.a2 y_10.t.rd.length y_10.x.c2, .slice y_10.x.a3 y_10.t.wr.length y_10.x.c3, .slice y_10.x.a4 y_10.t.marks.length y_10.x.c4, iv y_10.t.state]) rfl rfl kw kq rfl rfl) <| jA (kN (ps := [(0, iv 2)]) (cs := [iv 2, iv 0, str []]) rfl (by kernel_rfl)) ?_
  refine jH rfl (ja 3 (vs := [iv y_10.t.id, iv y_10.t.age, iv y_10.t.proc, iv y_10.t.began, .slice y_10.x.a0 y_10.t.calls.length y_10.x.c0, .slice y_10.x.a1 y_10.t.ans.length y_10.x.c1, .slice y_10.x.a2 y_10.t.rd.length y_10.x.c2, .slice y_10.x.a3 y_10.t.wr.length y_10.x.c3, .slice y_10.x.a4 y_10.t.marks.length y_10.x.c4, iv y_10.t.state]) (cs' := [iv y_10.t.id, iv y_10.t.age, iv y_10.t.proc, iv y_10.t.began, .slice y_10.x.a0 y_10.t.calls.length y_10.x.c0, .slice y_10.x.a1 y_10.t.ans.length y_10.x.c1, .slice y_10.x.a2 y_10.t.rd.length y_10.x.c2, .slice y_10.x.a3 y_10.t.wr.length y_10.x.c3, .slice y_10.x.a4 y_10.t.marks.length y_10.x.c4, iv y_10.t.state]) rfl rfl rfl rfl kq rfl rfl (lb rfl) rfl) ?_
  rintro _ _ rfl
  refine jH rfl (ja 2 (vs := [iv 2, iv 0, str []]) (cs' := [iv 2, iv 0, str []]) rfl rfl rfl rfl kc rfl rfl (lb rfl) rfl) ?_
  rintro _ _ rfl
  refine jE <| jB <| jM <| kA <| jb <| kK (pick_perm [1] (A := [Res.rows (rdsX y_10)]) (F := [bk b_12 32 [iv y_10.t.id, iv y_10.t.age, iv y_10.t.proc, iv y_10.t.began, .slice y_10.x.a0 y_10.t.calls.length y_10.x.c0, .slice y_10.x.a1 y_10.t.ans.length y_10.x.c1, .slice y_10.x.a2 y_10.t.rd.length y_10.x.c2, .slice y_10.x.a3 y_10.t.wr.length y_10.x.c3, .slice y_10.x.a4 y_10.t.marks.length y_10.x.c4, iv y_10.t.state], bk b_9 37 [iv 2, iv 0, str []], bk b_8 32 [iv y_10.t.id, iv y_10.t.age, iv y_10.t.proc, iv y_10.t.began, .slice y_10.x.a0 y_10.t.calls.length y_10.x.c0, .slice y_10.x.a1 y_10.t.ans.length y_10.x.c1, .slice y_10.x.a2 y_10.t.rd.length y_10.x.c2, .slice y_10.x.a3 y_10.t.wr.length y_10.x.c3, .slice y_10.x.a4 y_10.t.marks.length y_10.x.c4, iv y_10.t.state], bk b_7 43 [iv c.kind, str c.name, str c.to_, iv c.a, iv c.b, str c.text], bk b_6 32 [iv p.t.id, iv p.t.age, iv p.t.proc, iv p.t.began, .slice p.x.a0 p.t.calls.length p.x.c0, .slice p.x.a1 p.t.ans.length p.x.c1, .slice p.x.a2 p.t.rd.length p.x.c2, .slice p.x.a3 p.t.wr.length p.x.c3, .slice p.x.a4 p.t.marks.length p.x.c4, iv p.t.state]]) rfl).symm <| jn (.inl rfl) rfl (jg (je 3 (vs := [iv y_10.t.id, iv y_10.t.age, iv y_10.t.proc, iv y_10.t.began, .slice y_10.x.a0 y_10.t.calls.length y_10.x.c0, .slice y_10.x.a1 y_10.t.ans.length y_10.x.c1, .slice y_10.x.a2 y_10.t.rd.length y_10.x.c2, .slice y_10.x.a3 y_10.t.wr.length y_10.x.c3, .slice y_10.x.a4 y_10.t.marks.length y_10.x.c4, iv y_10.t.state]) rfl rfl kw kq rfl rfl) ⟨_, rfl⟩) (jg (je 2 (vs := [iv 2, iv 0, str []]) rfl rfl ke kc rfl rfl) ⟨_, rfl⟩) (tS 1 _) ?_
  have hm : TD.askV (viewA s p.t) p.t c = (p.t, (⟨2, 0, []⟩ : AN)) := by first | exact askV_off (by omega) | exact askV_full (by omega) (by omega)
  exact ⟨y_10, (⟨2, 0, []⟩ : AN), by rw [hm, hy_11], (by (try dsimp only); (try simp only [List.length_nil]); omega), (by rw [hy_11]; omega), rfl, rfl⟩

end Go.Proofs.YtghfijncihbojaaGreatDoor

set_option linter.unusedSimpArgs false
set_option linter.unusedVariables false
set_option linter.unnecessarySimpa false
namespace Go.Proofs.YtghfijncihbojaaGreatDoor
open Go Go.RowKit
theorem sameTD {a b : TD} : a = b ↔ a.id = b.id ∧ a.age = b.age ∧ a.proc = b.proc ∧ a.began = b.began ∧ a.calls = b.calls ∧ a.ans = b.ans ∧ a.rd = b.rd ∧ a.wr = b.wr ∧ a.marks = b.marks ∧ a.state = b.state := by cases a; cases b; simp
theorem underK : Tryz.prog.underlying 43 = some (.struct (Tryz.prog.fieldsOf 43)) := by kernel_rfl
theorem PO.neqK {n : Nat} {e : Env} {d : Option Tmp} {ty : TypeId} {pos : String} {aft : Array Edge} {gd : Option (Nat × Bool)} {x y : Operand} {u : TypeId} (a b : CL) (hx : rd n e x = .agg #[.int .i64 a.kind, str a.name, str a.to_, .int .i64 a.a, .int .i64 a.b, str a.text]) (hy : rd n e y = .agg #[.int .i64 b.kind, str b.name, str b.to_, .int .i64 b.a, .int .i64 b.b, str b.text]) : PO Tryz.prog n e ⟨d, .binOp .neq 43 x y u, ty, pos, aft, gd⟩ (.bool (!decide (a = b))) := fun w => by
  have he : (Op.equalIn 10000 43 (.agg #[.int .i64 a.kind, str a.name, str a.to_, .int .i64 a.a, .int .i64 a.b, str a.text]) (.agg #[.int .i64 b.kind, str b.name, str b.to_, .int .i64 b.a, .int .i64 b.b, str b.text])).run Tryz.prog w = .ok (decide (a = b)) w := by
    rw [run_equalIn_struct w 9999 43 _ _ underK Tryz.stoodInHeld43]
    rw [show (Tryz.prog.fieldsOf 43).toList = [⟨ "Kind", 3, 0, false, "", "", 0⟩, ⟨ "Name", 9, 1, false, "", "", 8⟩, ⟨ "To", 9, 2, false, "", "", 24⟩, ⟨ "A", 3, 3, false, "", "", 40⟩, ⟨ "\x42", 3, 4, false, "", "", 48⟩, ⟨ "Text", 9, 5, false, "", "", 56⟩] by kernel_rfl]
    have e0 : (Op.equalIn 9999 3 (.int .i64 a.kind) (.int .i64 b.kind)).run Tryz.prog w = .ok (decide (a.kind = b.kind)) w := by
      rw [run_equalIn_int w 9998 3 _ _ _ _ gD]
      simp [beq_dec]
    have p0 : ∀ c : CL, (part 3 #[.int .i64 c.kind, str c.name, str c.to_, .int .i64 c.a, .int .i64 c.b, str c.text] 0).run Tryz.prog w = .ok (.int .i64 c.kind) w := fun c => by simp [part, str]
    have e1 : (Op.equalIn 9999 9 (str a.name) (str b.name)).run Tryz.prog w = .ok (decide (a.name = b.name)) w := by
      simp only [str]
      rw [run_equalIn_string w 9998 9 _ _ kf]
      simp [beq_dec]
    have p1 : ∀ c : CL, (part 9 #[.int .i64 c.kind, str c.name, str c.to_, .int .i64 c.a, .int .i64 c.b, str c.text] 1).run Tryz.prog w = .ok (str c.name) w := fun c => by simp [part, str]
    have e2 : (Op.equalIn 9999 9 (str a.to_) (str b.to_)).run Tryz.prog w = .ok (decide (a.to_ = b.to_)) w := by
      simp only [str]
      rw [run_equalIn_string w 9998 9 _ _ kf]
      simp [beq_dec]
    have p2 : ∀ c : CL, (part 9 #[.int .i64 c.kind, str c.name, str c.to_, .int .i64 c.a, .int .i64 c.b, str c.text] 2).run Tryz.prog w = .ok (str c.to_) w := fun c => by simp [part, str]
    have e3 : (Op.equalIn 9999 3 (.int .i64 a.a) (.int .i64 b.a)).run Tryz.prog w = .ok (decide (a.a = b.a)) w := by
      rw [run_equalIn_int w 9998 3 _ _ _ _ gD]
      simp [beq_dec]
    have p3 : ∀ c : CL, (part 3 #[.int .i64 c.kind, str c.name, str c.to_, .int .i64 c.a, .int .i64 c.b, str c.text] 3).run Tryz.prog w = .ok (.int .i64 c.a) w := fun c => by simp [part, str]
    have e4 : (Op.equalIn 9999 3 (.int .i64 a.b) (.int .i64 b.b)).run Tryz.prog w = .ok (decide (a.b = b.b)) w := by
      rw [run_equalIn_int w 9998 3 _ _ _ _ gD]
      simp [beq_dec]
    have p4 : ∀ c : CL, (part 3 #[.int .i64 c.kind, str c.name, str c.to_, .int .i64 c.a, .int .i64 c.b, str c.text] 4).run Tryz.prog w = .ok (.int .i64 c.b) w := fun c => by simp [part, str]
    have e5 : (Op.equalIn 9999 9 (str a.text) (str b.text)).run Tryz.prog w = .ok (decide (a.text = b.text)) w := by
      simp only [str]
      rw [run_equalIn_string w 9998 9 _ _ kf]
      simp [beq_dec]
    have p5 : ∀ c : CL, (part 9 #[.int .i64 c.kind, str c.name, str c.to_, .int .i64 c.a, .int .i64 c.b, str c.text] 5).run Tryz.prog w = .ok (str c.text) w := fun c => by simp [part, str]
    simp only [Op.eqFields, Sem.run_bind, p0, p1, p2, p3, p4, p5, e0, e1, e2, e3, e4, e5, Result.andThen_ok, ne_eq, Sem.run_ite, Sem.run_pure]
    obtain ⟨a0, a1, a2, a3, a4, a5⟩ := a
    obtain ⟨b0, b1, b2, b3, b4, b5⟩ := b
    by_cases h0 : a0 = b0
    · skip
      by_cases h1 : a1 = b1
      · skip
        by_cases h2 : a2 = b2
        · skip
          by_cases h3 : a3 = b3
          · skip
            by_cases h4 : a4 = b4
            · skip
              by_cases h5 : a5 = b5
              · skip
                simp [h0, h1, h2, h3, h4, h5]
              · simp [h0, h1, h2, h3, h4, h5]
            · simp [h0, h1, h2, h3, h4]
          · simp [h0, h1, h2, h3]
        · simp [h0, h1, h2]
      · simp [h0, h1]
    · simp [h0]
  simp only [execOp, hx, hy, Sem.run_bind, run_eqGuard_agg w .neq 43 x y _ _ Tryz.eqGuardType43, Result.andThen_ok, run_neq_struct, he, Sem.run_pure]
theorem underA : Tryz.prog.underlying 37 = some (.struct (Tryz.prog.fieldsOf 37)) := by kernel_rfl
theorem PO.neqA {n : Nat} {e : Env} {d : Option Tmp} {ty : TypeId} {pos : String} {aft : Array Edge} {gd : Option (Nat × Bool)} {x y : Operand} {u : TypeId} (a b : AN) (hx : rd n e x = .agg #[.int .i64 a.code, .int .i64 a.n, str a.text]) (hy : rd n e y = .agg #[.int .i64 b.code, .int .i64 b.n, str b.text]) : PO Tryz.prog n e ⟨d, .binOp .neq 37 x y u, ty, pos, aft, gd⟩ (.bool (!decide (a = b))) := fun w => by
  have he : (Op.equalIn 10000 37 (.agg #[.int .i64 a.code, .int .i64 a.n, str a.text]) (.agg #[.int .i64 b.code, .int .i64 b.n, str b.text])).run Tryz.prog w = .ok (decide (a = b)) w := by
    rw [run_equalIn_struct w 9999 37 _ _ underA Tryz.stoodInHeld37]
    rw [show (Tryz.prog.fieldsOf 37).toList = [⟨ "Code", 3, 0, false, "", "", 0⟩, ⟨ "N", 3, 1, false, "", "", 8⟩, ⟨ "Text", 9, 2, false, "", "", 16⟩] by kernel_rfl]
    have e0 : (Op.equalIn 9999 3 (.int .i64 a.code) (.int .i64 b.code)).run Tryz.prog w = .ok (decide (a.code = b.code)) w := by
      rw [run_equalIn_int w 9998 3 _ _ _ _ gD]
      simp [beq_dec]
    have p0 : ∀ c : AN, (part 3 #[.int .i64 c.code, .int .i64 c.n, str c.text] 0).run Tryz.prog w = .ok (.int .i64 c.code) w := fun c => by simp [part, str]
    have e1 : (Op.equalIn 9999 3 (.int .i64 a.n) (.int .i64 b.n)).run Tryz.prog w = .ok (decide (a.n = b.n)) w := by
      rw [run_equalIn_int w 9998 3 _ _ _ _ gD]
      simp [beq_dec]
    have p1 : ∀ c : AN, (part 3 #[.int .i64 c.code, .int .i64 c.n, str c.text] 1).run Tryz.prog w = .ok (.int .i64 c.n) w := fun c => by simp [part, str]
    have e2 : (Op.equalIn 9999 9 (str a.text) (str b.text)).run Tryz.prog w = .ok (decide (a.text = b.text)) w := by
      simp only [str]
      rw [run_equalIn_string w 9998 9 _ _ kf]
      simp [beq_dec]
    have p2 : ∀ c : AN, (part 9 #[.int .i64 c.code, .int .i64 c.n, str c.text] 2).run Tryz.prog w = .ok (str c.text) w := fun c => by simp [part, str]
    simp only [Op.eqFields, Sem.run_bind, p0, p1, p2, e0, e1, e2, Result.andThen_ok, ne_eq, Sem.run_ite, Sem.run_pure]
    obtain ⟨a0, a1, a2⟩ := a
    obtain ⟨b0, b1, b2⟩ := b
    by_cases h0 : a0 = b0
    · skip
      by_cases h1 : a1 = b1
      · skip
        by_cases h2 : a2 = b2
        · skip
          simp [h0, h1, h2]
        · simp [h0, h1, h2]
      · simp [h0, h1]
    · simp [h0]
  simp only [execOp, hx, hy, Sem.run_bind, run_eqGuard_agg w .neq 37 x y _ _ Tryz.eqGuardType37, Result.andThen_ok, run_neq_struct, he, Sem.run_pure]
attribute [local irreducible] JL JC JQ JO LO PO JA JX Ct

theorem C_sameCalls (a b : Option Addr) (c c' : Nat) (s t : List CL) (hn : s.length ≤ 9223372036854775807) :
    Ct Tryz.prog 41 [.slice a s.length c, .slice b t.length c'] [] (fun w => Sees w (.slice a s.length c) 6 s.length (s.flatMap encK) ∧ Sees w (.slice b t.length c') 6 t.length (t.flatMap encK)) (fun r A' => r = .bool (decide (s = t)) ∧ A' = []) := by
  refine Ct.intro Tryz.func41 rfl Tryz.ntmps41 (lb rfl) fun w0 hpre => ?_
  have hs_a : Sees w0 _ _ _ _ := hpre.1
  have hs_b : Sees w0 _ _ _ _ := hpre.2
  refine jD <| jF <| jA (jG (v := .bool false) rfl) <| jE <| jB <| jD <| jD <| jF <| jA (jC (v := .slice a s.length c) rfl) <| jA (jy gC rfl) ?_
  refine jA (jC (v := .slice b t.length c') rfl) <| jA (jy gC rfl) <| jA (kO rfl rfl) <| jE <| jB ?_
  by_cases h_1 : ((s.length : Nat) : Int) = ((t.length : Nat) : Int)
  · have hlen := h_1
    refine jR (cB (cN (dT h_1))) <| jW <| jB <| jD <| jD <| jF <| jA (jG (v := iv 0) rfl) <| jE <| jB <| jl ?_
    refine kE (fun k_ e_ L_ => ∃ j : Nat, (j ≤ s.length) ∧ (s.take j = t.take j) ∧ (s.length = t.length) ∧ e_ 0 = .slice a s.length c ∧ e_ 1 = .slice b t.length c' ∧ e_ 5 = nv j ∧ L_ = [] ∧ k_ = s.length - j) _ ⟨0, by omega, rfl, by omega, rfl, rfl, rfl, rfl, rfl⟩ ?_
    rintro _ e_2 _ ⟨j, hj, hE, hln, he_3, he_4, he_5, rfl, rfl⟩
    refine jD <| jD <| jF <| jA (jC (v := nv j) he_5) <| jA (jC (v := .slice a s.length c) he_3) <| jA (jy gC rfl) <| jA (jr rfl rfl) <| jE <| jB ?_
    by_cases h_6 : ((j : Nat) : Int) < ((s.length : Nat) : Int)
    · have hlt : j < s.length := by omega
      refine jQ (cB (dT h_6)) <| jW <| jB <| jD <| jl <| jD <| jq [] 8 mixed (by simp) <| jJ 0 rfl (jC (v := .slice a s.length c) he_3) <| jJ 1 rfl (jC (v := nv j) he_5) ?_
      obtain ⟨hr_7, hr_7b, -⟩ := sees_some hs_a (by omega)
      refine jJ 2 rfl (kD (i := j) gC ky hr_7 hr_7b rfl rfl (by omega)) <| jj 3 rfl (LO.loadSK (vs := [iv ((s.getD j k0).kind), str ((s.getD j k0).name), str ((s.getD j k0).to_), iv ((s.getD j k0).a), iv ((s.getD j k0).b), str ((s.getD j k0).text)]) hs_a nM rfl gE ky (flat_take encK_len k0 s j (by omega)) rfl (by decide)) <| jJ 4 rfl (jC (v := .slice b t.length c') he_4) <| jJ 5 rfl (jC (v := nv j) he_5) ?_
      obtain ⟨hr_8, hr_8b, -⟩ := sees_some hs_b (by omega)
      refine jJ 6 rfl (kD (i := j) gC ky hr_8 hr_8b rfl rfl (by omega)) <| jj 7 rfl (LO.loadSK (vs := [iv ((t.getD j k0).kind), str ((t.getD j k0).name), str ((t.getD j k0).to_), iv ((t.getD j k0).a), iv ((t.getD j k0).b), str ((t.getD j k0).text)]) hs_b nM rfl gE ky (flat_take encK_len k0 t j (by omega)) rfl (by decide)) <| jJ 8 rfl (PO.neqK (s.getD j k0) (t.getD j k0) rfl rfl) <| kI (by kernel_rfl) <| jB ?_
      by_cases h_9 : s.getD j k0 = t.getD j k0
      · have heq := h_9
        refine jR (cB (cN (dT h_9))) <| jW <| jk <| jB <| jF <| jA (jC (v := nv j) he_5) <| jA (ji (c := ((j + 1 : Nat) : Int)) rfl rfl (wr (by omega))) <| jA (jG (v := iv ((j + 1 : Nat) : Int)) rfl) <| jE ?_
        refine ju (s.length - (j + 1)) (by omega) ⟨j + 1, by omega, take_succ_eq k0 hE hlt hln heq, hln, he_3, he_4, rfl, rfl, rfl⟩
      have hne := h_9
      refine jQ (cB (cN (dF h_9))) <| jD <| jF <| jA (jG (v := .bool false) rfl) <| jE <| jB <| jM <| kA <| jb <| jb ?_
      refine kA <| jb <| jU (.inl rfl) rfl (jN (v := .bool false) rfl) (List.nil_sublist _) ?_
      refine ⟨?_, rfl⟩
      rw [dF (fun h => hne (by rw [h]))]
    refine jR (cB (dF h_6)) <| kB <| jm <| jm <| kC <| jB <| jD <| jF <| jA (jG (v := .bool true) rfl) <| jE ?_
    refine jB <| jM <| jU (.inl rfl) rfl (jN (v := .bool true) rfl) (List.nil_sublist _) ?_
    refine ⟨?_, rfl⟩
    rw [dT (take_all_eq hE (by omega) (by omega))]
  have hlen := h_1
  refine jQ (cB (cN (dF h_1))) <| jD <| jF <| jA (jG (v := .bool false) rfl) <| jE <| jB <| jM <| jb <| jU (.inl rfl) rfl (jN (v := .bool false) rfl) (List.nil_sublist _) ?_
  refine ⟨?_, rfl⟩
  rw [dF (fun h => by rw [h] at hlen; omega)]

theorem C_sameAnswers (a b : Option Addr) (c c' : Nat) (s t : List AN) (hn : s.length ≤ 9223372036854775807) :
    Ct Tryz.prog 42 [.slice a s.length c, .slice b t.length c'] [] (fun w => Sees w (.slice a s.length c) 3 s.length (s.flatMap encA) ∧ Sees w (.slice b t.length c') 3 t.length (t.flatMap encA)) (fun r A' => r = .bool (decide (s = t)) ∧ A' = []) := by
  refine Ct.intro Tryz.func42 rfl Tryz.ntmps42 (lb rfl) fun w0 hpre => ?_
  have hs_a : Sees w0 _ _ _ _ := hpre.1
  have hs_b : Sees w0 _ _ _ _ := hpre.2
  refine jD <| jF <| jA (jG (v := .bool false) rfl) <| jE <| jB <| jD <| jD <| jF <| jA (jC (v := .slice a s.length c) rfl) <| jA (jy gH rfl) ?_
  refine jA (jC (v := .slice b t.length c') rfl) <| jA (jy gH rfl) <| jA (kO rfl rfl) <| jE <| jB ?_
  by_cases h_1 : ((s.length : Nat) : Int) = ((t.length : Nat) : Int)
  · have hlen := h_1
    refine jR (cB (cN (dT h_1))) <| jW <| jB <| jD <| jD <| jF <| jA (jG (v := iv 0) rfl) <| jE <| jB <| jl ?_
    refine kE (fun k_ e_ L_ => ∃ j : Nat, (j ≤ s.length) ∧ (s.take j = t.take j) ∧ (s.length = t.length) ∧ e_ 0 = .slice a s.length c ∧ e_ 1 = .slice b t.length c' ∧ e_ 5 = nv j ∧ L_ = [] ∧ k_ = s.length - j) _ ⟨0, by omega, rfl, by omega, rfl, rfl, rfl, rfl, rfl⟩ ?_
    rintro _ e_2 _ ⟨j, hj, hE, hln, he_3, he_4, he_5, rfl, rfl⟩
    refine jD <| jD <| jF <| jA (jC (v := nv j) he_5) <| jA (jC (v := .slice a s.length c) he_3) <| jA (jy gH rfl) <| jA (jr rfl rfl) <| jE <| jB ?_
    by_cases h_6 : ((j : Nat) : Int) < ((s.length : Nat) : Int)
    · have hlt : j < s.length := by omega
      refine jQ (cB (dT h_6)) <| jW <| jB <| jD <| jl <| jD <| jq [] 8 mixed (by simp) <| jJ 0 rfl (jC (v := .slice a s.length c) he_3) <| jJ 1 rfl (jC (v := nv j) he_5) ?_
      obtain ⟨hr_7, hr_7b, -⟩ := sees_some hs_a (by omega)
      refine jJ 2 rfl (kD (i := j) gH kc hr_7 hr_7b rfl rfl (by omega)) <| jj 3 rfl (LO.loadSK (vs := [iv ((s.getD j a0_).code), iv ((s.getD j a0_).n), str ((s.getD j a0_).text)]) hs_a nM rfl ke kc (flat_take encA_len a0_ s j (by omega)) rfl (by decide)) <| jJ 4 rfl (jC (v := .slice b t.length c') he_4) <| jJ 5 rfl (jC (v := nv j) he_5) ?_
      obtain ⟨hr_8, hr_8b, -⟩ := sees_some hs_b (by omega)
      refine jJ 6 rfl (kD (i := j) gH kc hr_8 hr_8b rfl rfl (by omega)) <| jj 7 rfl (LO.loadSK (vs := [iv ((t.getD j a0_).code), iv ((t.getD j a0_).n), str ((t.getD j a0_).text)]) hs_b nM rfl ke kc (flat_take encA_len a0_ t j (by omega)) rfl (by decide)) <| jJ 8 rfl (PO.neqA (s.getD j a0_) (t.getD j a0_) rfl rfl) <| kI (by kernel_rfl) <| jB ?_
      by_cases h_9 : s.getD j a0_ = t.getD j a0_
      · have heq := h_9
        refine jR (cB (cN (dT h_9))) <| jW <| jk <| jB <| jF <| jA (jC (v := nv j) he_5) <| jA (ji (c := ((j + 1 : Nat) : Int)) rfl rfl (wr (by omega))) <| jA (jG (v := iv ((j + 1 : Nat) : Int)) rfl) <| jE ?_
        refine ju (s.length - (j + 1)) (by omega) ⟨j + 1, by omega, take_succ_eq a0_ hE hlt hln heq, hln, he_3, he_4, rfl, rfl, rfl⟩
      have hne := h_9
      refine jQ (cB (cN (dF h_9))) <| jD <| jF <| jA (jG (v := .bool false) rfl) <| jE <| jB <| jM <| kA <| jb <| jb ?_
      refine kA <| jb <| jU (.inl rfl) rfl (jN (v := .bool false) rfl) (List.nil_sublist _) ?_
      refine ⟨?_, rfl⟩
      rw [dF (fun h => hne (by rw [h]))]
    refine jR (cB (dF h_6)) <| kB <| jm <| jm <| kC <| jB <| jD <| jF <| jA (jG (v := .bool true) rfl) <| jE ?_
    refine jB <| jM <| jU (.inl rfl) rfl (jN (v := .bool true) rfl) (List.nil_sublist _) ?_
    refine ⟨?_, rfl⟩
    rw [dT (take_all_eq hE (by omega) (by omega))]
  have hlen := h_1
  refine jQ (cB (cN (dF h_1))) <| jD <| jF <| jA (jG (v := .bool false) rfl) <| jE <| jB <| jM <| jb <| jU (.inl rfl) rfl (jN (v := .bool false) rfl) (List.nil_sublist _) ?_
  refine ⟨?_, rfl⟩
  rw [dF (fun h => by rw [h] at hlen; omega)]

set_option maxRecDepth 4000 in
set_option maxHeartbeats 1000000 in
theorem Y_sameTx (p q : TX) (hl : p.t.lim 1000000000) :
    Ct Tryz.prog 16 [.agg #[.int .i64 p.t.id, .int .i64 p.t.age, .int .i64 p.t.proc, .int .i64 p.t.began, .slice p.x.a0 p.t.calls.length p.x.c0, .slice p.x.a1 p.t.ans.length p.x.c1, .slice p.x.a2 p.t.rd.length p.x.c2, .slice p.x.a3 p.t.wr.length p.x.c3, .slice p.x.a4 p.t.marks.length p.x.c4, .int .i64 p.t.state], .agg #[.int .i64 q.t.id, .int .i64 q.t.age, .int .i64 q.t.proc, .int .i64 q.t.began, .slice q.x.a0 q.t.calls.length q.x.c0, .slice q.x.a1 q.t.ans.length q.x.c1, .slice q.x.a2 q.t.rd.length q.x.c2, .slice q.x.a3 q.t.wr.length q.x.c3, .slice q.x.a4 q.t.marks.length q.x.c4, .int .i64 q.t.state]] [] (fun w => SeesA w (rdsX p) ∧ SeesA w (rdsX q)) (fun v A' => v = .bool (decide (p.t = q.t)) ∧ A' = []) := by
  refine Ct.intro Tryz.func16 rfl Tryz.ntmps16 (lb rfl) fun w0 hpre => ?_
  obtain ⟨hs_1, hs_2, hs_3, hs_4, hs_5⟩ := seesX hpre.1
  obtain ⟨hs_6, hs_7, hs_8, hs_9, hs_10⟩ := seesX hpre.2
  obtain ⟨hl0_, hl1_, hl2_, hl3_, hl4_⟩ := id hl
  refine jD <| jF ?_
  refine jH rfl (jv (cs := [iv p.t.id, iv p.t.age, iv p.t.proc, iv p.t.began, .slice p.x.a0 p.t.calls.length p.x.c0, .slice p.x.a1 p.t.ans.length p.x.c1, .slice p.x.a2 p.t.rd.length p.x.c2, .slice p.x.a3 p.t.wr.length p.x.c3, .slice p.x.a4 p.t.marks.length p.x.c4, iv p.t.state]) rfl rfl) ?_
  rintro _ _ ⟨b_11, rfl, rfl⟩
  refine jH rfl (jv (cs := [iv q.t.id, iv q.t.age, iv q.t.proc, iv q.t.began, .slice q.x.a0 q.t.calls.length q.x.c0, .slice q.x.a1 q.t.ans.length q.x.c1, .slice q.x.a2 q.t.rd.length q.x.c2, .slice q.x.a3 q.t.wr.length q.x.c3, .slice q.x.a4 q.t.marks.length q.x.c4, iv q.t.state]) rfl rfl) ?_
  rintro _ _ ⟨b_12, rfl, rfl⟩
  refine jA (jG (v := .bool false) rfl) <| jE <| jB <| jD <| jF <| jA (jY fo32_0 rfl) <| jT (jf 1 (v := iv p.t.id) rfl rfl kl rfl) <| jA (jY fo32_0 rfl) <| jT (jf 0 (v := iv q.t.id) rfl rfl kl rfl) <| jA (jx rfl rfl) ?_
  refine jA (jC (v := .bool (decide (p.t.id = q.t.id))) rfl) ?_
  by_cases h_13 : p.t.id = q.t.id
  · refine jX rfl rfl rfl (cB (dT h_13)) (jZ (jd (jY fo32_1 rfl))) ?_
    rintro _ _ ⟨rfl, rfl⟩
    refine jX rfl rfl rfl (cB (dT h_13)) (jZ (jf 1 (v := iv p.t.age) rfl rfl kl rfl)) ?_
    rintro _ _ ⟨rfl, rfl⟩
    refine jX rfl rfl rfl (cB (dT h_13)) (jZ (jd (jY fo32_1 rfl))) ?_
    rintro _ _ ⟨rfl, rfl⟩
    refine jX rfl rfl rfl (cB (dT h_13)) (jZ (jf 0 (v := iv q.t.age) rfl rfl kl rfl)) ?_
    rintro _ _ ⟨rfl, rfl⟩
    refine jX rfl rfl rfl (cB (dT h_13)) (jZ (jd (jx rfl rfl))) ?_
    rintro _ _ ⟨rfl, rfl⟩
    refine jA (jw (v := .bool (decide (p.t.age = q.t.age))) (cB (dT h_13)) rfl) <| jA (jC (v := .bool (decide (p.t.age = q.t.age))) rfl) ?_
    by_cases h_14 : p.t.age = q.t.age
    · refine jX rfl rfl rfl (cB (dT h_14)) (jZ (jd (jY fo32_2 rfl))) ?_
      rintro _ _ ⟨rfl, rfl⟩
      refine jX rfl rfl rfl (cB (dT h_14)) (jZ (jf 1 (v := iv p.t.proc) rfl rfl kl rfl)) ?_
      rintro _ _ ⟨rfl, rfl⟩
      refine jX rfl rfl rfl (cB (dT h_14)) (jZ (jd (jY fo32_2 rfl))) ?_
      rintro _ _ ⟨rfl, rfl⟩
      refine jX rfl rfl rfl (cB (dT h_14)) (jZ (jf 0 (v := iv q.t.proc) rfl rfl kl rfl)) ?_
      rintro _ _ ⟨rfl, rfl⟩
      refine jX rfl rfl rfl (cB (dT h_14)) (jZ (jd (jx rfl rfl))) ?_
      rintro _ _ ⟨rfl, rfl⟩
      refine jA (jw (v := .bool (decide (p.t.proc = q.t.proc))) (cB (dT h_14)) rfl) <| jA (jC (v := .bool (decide (p.t.proc = q.t.proc))) rfl) ?_
      by_cases h_15 : p.t.proc = q.t.proc
      · refine jX rfl rfl rfl (cB (dT h_15)) (jZ (jd (jY fo32_3 rfl))) ?_
        rintro _ _ ⟨rfl, rfl⟩
        refine jX rfl rfl rfl (cB (dT h_15)) (jZ (jf 1 (v := iv p.t.began) rfl rfl kl rfl)) ?_
        rintro _ _ ⟨rfl, rfl⟩
        refine jX rfl rfl rfl (cB (dT h_15)) (jZ (jd (jY fo32_3 rfl))) ?_
        rintro _ _ ⟨rfl, rfl⟩
        refine jX rfl rfl rfl (cB (dT h_15)) (jZ (jf 0 (v := iv q.t.began) rfl rfl kl rfl)) ?_
        rintro _ _ ⟨rfl, rfl⟩
        refine jX rfl rfl rfl (cB (dT h_15)) (jZ (jd (jx rfl rfl))) ?_
        rintro _ _ ⟨rfl, rfl⟩
        refine jA (jw (v := .bool (decide (p.t.began = q.t.began))) (cB (dT h_15)) rfl) <| jA (jC (v := .bool (decide (p.t.began = q.t.began))) rfl) ?_
        by_cases h_16 : p.t.began = q.t.began
        · refine jX rfl rfl rfl (cB (dT h_16)) (jZ (jd (jY fo32_4 rfl))) ?_
          rintro _ _ ⟨rfl, rfl⟩
          refine jX rfl rfl rfl (cB (dT h_16)) (jZ (jf 1 (v := .slice p.x.a0 p.t.calls.length p.x.c0) rfl rfl gP rfl)) ?_
          rintro _ _ ⟨rfl, rfl⟩
          refine jX rfl rfl rfl (cB (dT h_16)) (jZ (jd (jY fo32_4 rfl))) ?_
          rintro _ _ ⟨rfl, rfl⟩
          refine jX rfl rfl rfl (cB (dT h_16)) (jZ (jf 0 (v := .slice q.x.a0 q.t.calls.length q.x.c0) rfl rfl gP rfl)) ?_
          rintro _ _ ⟨rfl, rfl⟩
          refine jX rfl rfl rfl (cB (dT h_16)) (jI [] Tryz.call41 rfl (C_sameCalls p.x.a0 q.x.a0 p.x.c0 q.x.c0 p.t.calls q.t.calls (by omega)) rfl (fun w hw => ⟨hw.seeOut_ hs_1 nM, hw.seeOut_ hs_6 nM⟩)) ?_
          rintro _ _ ⟨_, ⟨rfl, rfl⟩, rfl⟩
          refine jA (jw (v := .bool (decide (p.t.calls = q.t.calls))) (cB (dT h_16)) rfl) <| jA (jC (v := .bool (decide (p.t.calls = q.t.calls))) rfl) ?_
          by_cases h_17 : p.t.calls = q.t.calls
          · refine jX rfl rfl rfl (cB (dT h_17)) (jZ (jd (jY fo32_5 rfl))) ?_
            rintro _ _ ⟨rfl, rfl⟩
            refine jX rfl rfl rfl (cB (dT h_17)) (jZ (jf 1 (v := .slice p.x.a1 p.t.ans.length p.x.c1) rfl rfl Tryz.isAgg27 rfl)) ?_
            rintro _ _ ⟨rfl, rfl⟩
            refine jX rfl rfl rfl (cB (dT h_17)) (jZ (jd (jY fo32_5 rfl))) ?_
            rintro _ _ ⟨rfl, rfl⟩
            refine jX rfl rfl rfl (cB (dT h_17)) (jZ (jf 0 (v := .slice q.x.a1 q.t.ans.length q.x.c1) rfl rfl Tryz.isAgg27 rfl)) ?_
            rintro _ _ ⟨rfl, rfl⟩
            refine jX rfl rfl rfl (cB (dT h_17)) (jI [] Tryz.call42 rfl (C_sameAnswers p.x.a1 q.x.a1 p.x.c1 q.x.c1 p.t.ans q.t.ans (by omega)) rfl (fun w hw => ⟨hw.seeOut_ hs_2 nM, hw.seeOut_ hs_7 nM⟩)) ?_
            rintro _ _ ⟨_, ⟨rfl, rfl⟩, rfl⟩
            refine jA (jw (v := .bool (decide (p.t.ans = q.t.ans))) (cB (dT h_17)) rfl) <| jA (jC (v := .bool (decide (p.t.ans = q.t.ans))) rfl) ?_
            by_cases h_18 : p.t.ans = q.t.ans
            · refine jX rfl rfl rfl (cB (dT h_18)) (jZ (jd (jY fo32_6 rfl))) ?_
              rintro _ _ ⟨rfl, rfl⟩
              refine jX rfl rfl rfl (cB (dT h_18)) (jZ (je 1 (vs := [.slice p.x.a2 p.t.rd.length p.x.c2, .slice p.x.a3 p.t.wr.length p.x.c3]) rfl rfl gG kr rfl rfl)) ?_
              rintro _ _ ⟨rfl, rfl⟩
              refine jX rfl rfl rfl (cB (dT h_18)) (jZ (jd (jY fo32_6 rfl))) ?_
              rintro _ _ ⟨rfl, rfl⟩
              refine jX rfl rfl rfl (cB (dT h_18)) (jZ (je 0 (vs := [.slice q.x.a2 q.t.rd.length q.x.c2, .slice q.x.a3 q.t.wr.length q.x.c3]) rfl rfl gG kr rfl rfl)) ?_
              rintro _ _ ⟨rfl, rfl⟩
              refine jX rfl rfl rfl (cB (dT h_18)) (jI [] Tryz.call43 rfl (C_sameTouch p.x.a2 p.x.a3 q.x.a2 q.x.a3 p.x.c2 p.x.c3 q.x.c2 q.x.c3 p.t.rd p.t.wr q.t.rd q.t.wr (by omega) (by omega)) rfl (fun w hw => ⟨hw.seeOut_ hs_3 nM, hw.seeOut_ hs_4 nM, hw.seeOut_ hs_8 nM, hw.seeOut_ hs_9 nM⟩)) ?_
              rintro _ _ ⟨_, ⟨rfl, rfl⟩, rfl⟩
              refine jA (jw (v := .bool (decide (p.t.rd = q.t.rd) && decide (p.t.wr = q.t.wr))) (cB (dT h_18)) rfl) <| jA (jC (v := .bool (decide (p.t.rd = q.t.rd) && decide (p.t.wr = q.t.wr))) rfl) ?_
              rcases Bool.eq_false_or_eq_true (decide (p.t.rd = q.t.rd) && decide (p.t.wr = q.t.wr)) with h_19 | h_19
              · have h_19d := h_19
                simp only [Bool.and_eq_true, Bool.and_eq_false_iff, decide_eq_true_eq, decide_eq_false_iff_not] at h_19d
                refine jX rfl rfl rfl (cB h_19) (jZ (jd (jY fo32_7 rfl))) ?_
                rintro _ _ ⟨rfl, rfl⟩
                refine jX rfl rfl rfl (cB h_19) (jZ (jf 1 (v := .slice p.x.a4 p.t.marks.length p.x.c4) rfl rfl gS rfl)) ?_
                rintro _ _ ⟨rfl, rfl⟩
                refine jX rfl rfl rfl (cB h_19) (jZ (jd (jY fo32_7 rfl))) ?_
                rintro _ _ ⟨rfl, rfl⟩
                refine jX rfl rfl rfl (cB h_19) (jZ (jf 0 (v := .slice q.x.a4 q.t.marks.length q.x.c4) rfl rfl gS rfl)) ?_
                rintro _ _ ⟨rfl, rfl⟩
                refine jX rfl rfl rfl (cB h_19) (jI [] Tryz.call44 rfl (C_sameInts p.x.a4 q.x.a4 p.x.c4 q.x.c4 p.t.marks q.t.marks (by omega)) rfl (fun w hw => ⟨hw.seeOut_ hs_5 nM, hw.seeOut_ hs_10 nM⟩)) ?_
                rintro _ _ ⟨_, ⟨rfl, rfl⟩, rfl⟩
                refine jA (jw (v := .bool (decide (p.t.marks = q.t.marks))) (cB h_19) rfl) <| jA (jC (v := .bool (decide (p.t.marks = q.t.marks))) rfl) ?_
                by_cases h_20 : p.t.marks = q.t.marks
                · refine jX rfl rfl rfl (cB (dT h_20)) (jZ (jd (jY fo32_8 rfl))) ?_
                  rintro _ _ ⟨rfl, rfl⟩
                  refine jX rfl rfl rfl (cB (dT h_20)) (jZ (jf 1 (v := iv p.t.state) rfl rfl kl rfl)) ?_
                  rintro _ _ ⟨rfl, rfl⟩
                  refine jX rfl rfl rfl (cB (dT h_20)) (jZ (jd (jY fo32_8 rfl))) ?_
                  rintro _ _ ⟨rfl, rfl⟩
                  refine jX rfl rfl rfl (cB (dT h_20)) (jZ (jf 0 (v := iv q.t.state) rfl rfl kl rfl)) ?_
                  rintro _ _ ⟨rfl, rfl⟩
                  refine jX rfl rfl rfl (cB (dT h_20)) (jZ (jd (jx rfl rfl))) ?_
                  rintro _ _ ⟨rfl, rfl⟩
                  refine jA (jw (v := .bool (decide (p.t.state = q.t.state))) (cB (dT h_20)) rfl) <| jA (jG (v := .bool (decide (p.t.state = q.t.state))) rfl) <| jE <| jB <| jM <| jU (.inl rfl) rfl (jN (v := .bool (decide (p.t.state = q.t.state))) rfl) (List.nil_sublist _) ?_
                  refine ⟨cB (decide_eq_decide.2 ?_), rfl⟩
                  rw [sameTD]
                  simp_all
                refine jO (b := false) rfl rfl rfl (cB (dF h_20)) <| jO (b := false) rfl rfl rfl (cB (dF h_20)) <| jO (b := false) rfl rfl rfl (cB (dF h_20)) <| jO (b := false) rfl rfl rfl (cB (dF h_20)) <| jO (b := false) rfl rfl rfl (cB (dF h_20)) <| jA (js (v := .bool false) (cB (dF h_20)) rfl) <| jA (jG (v := .bool false) rfl) <| jE <| jB <| jM ?_
                refine jU (.inl rfl) rfl (jN (v := .bool false) rfl) (List.nil_sublist _) ?_
                refine ⟨cB (dF (fun h_ => ?_)).symm, rfl⟩
                obtain ⟨g0_, g1_, g2_, g3_, g4_, g5_, g6_, g7_, g8_, g9_⟩ := sameTD.1 h_
                first | contradiction | simp_all
              have h_19d := h_19
              simp only [Bool.and_eq_true, Bool.and_eq_false_iff, decide_eq_true_eq, decide_eq_false_iff_not] at h_19d
              refine jO (b := false) rfl rfl rfl (cB h_19) <| jO (b := false) rfl rfl rfl (cB h_19) <| jO (b := false) rfl rfl rfl (cB h_19) <| jO (b := false) rfl rfl rfl (cB h_19) <| jO (b := false) rfl rfl rfl (cB h_19) <| jA (js (v := .bool false) (cB h_19) rfl) <| jA (jC (v := .bool false) rfl) <| jO (b := false) rfl rfl rfl (cB rfl) <| jO (b := false) rfl rfl rfl (cB rfl) <| jO (b := false) rfl rfl rfl (cB rfl) ?_
              refine jO (b := false) rfl rfl rfl (cB rfl) <| jO (b := false) rfl rfl rfl (cB rfl) <| jA (js (v := .bool false) (cB rfl) rfl) <| jA (jG (v := .bool false) rfl) <| jE <| jB <| jM <| jU (.inl rfl) rfl (jN (v := .bool false) rfl) (List.nil_sublist _) ?_
              refine ⟨cB (dF (fun h_ => ?_)).symm, rfl⟩
              obtain ⟨g0_, g1_, g2_, g3_, g4_, g5_, g6_, g7_, g8_, g9_⟩ := sameTD.1 h_
              first | contradiction | simp_all
            refine jO (b := false) rfl rfl rfl (cB (dF h_18)) <| jO (b := false) rfl rfl rfl (cB (dF h_18)) <| jO (b := false) rfl rfl rfl (cB (dF h_18)) <| jO (b := false) rfl rfl rfl (cB (dF h_18)) <| jO (b := false) rfl rfl rfl (cB (dF h_18)) <| jA (js (v := .bool false) (cB (dF h_18)) rfl) <| jA (jC (v := .bool false) rfl) <| jO (b := false) rfl rfl rfl (cB rfl) <| jO (b := false) rfl rfl rfl (cB rfl) <| jO (b := false) rfl rfl rfl (cB rfl) ?_
            refine jO (b := false) rfl rfl rfl (cB rfl) <| jO (b := false) rfl rfl rfl (cB rfl) <| jA (js (v := .bool false) (cB rfl) rfl) <| jA (jC (v := .bool false) rfl) <| jO (b := false) rfl rfl rfl (cB rfl) <| jO (b := false) rfl rfl rfl (cB rfl) <| jO (b := false) rfl rfl rfl (cB rfl) <| jO (b := false) rfl rfl rfl (cB rfl) <| jO (b := false) rfl rfl rfl (cB rfl) <| jA (js (v := .bool false) (cB rfl) rfl) ?_
            refine jA (jG (v := .bool false) rfl) <| jE <| jB <| jM <| jU (.inl rfl) rfl (jN (v := .bool false) rfl) (List.nil_sublist _) ?_
            refine ⟨cB (dF (fun h_ => ?_)).symm, rfl⟩
            obtain ⟨g0_, g1_, g2_, g3_, g4_, g5_, g6_, g7_, g8_, g9_⟩ := sameTD.1 h_
            first | contradiction | simp_all
          refine jO (b := false) rfl rfl rfl (cB (dF h_17)) <| jO (b := false) rfl rfl rfl (cB (dF h_17)) <| jO (b := false) rfl rfl rfl (cB (dF h_17)) <| jO (b := false) rfl rfl rfl (cB (dF h_17)) <| jO (b := false) rfl rfl rfl (cB (dF h_17)) <| jA (js (v := .bool false) (cB (dF h_17)) rfl) <| jA (jC (v := .bool false) rfl) <| jO (b := false) rfl rfl rfl (cB rfl) <| jO (b := false) rfl rfl rfl (cB rfl) <| jO (b := false) rfl rfl rfl (cB rfl) ?_
          refine jO (b := false) rfl rfl rfl (cB rfl) <| jO (b := false) rfl rfl rfl (cB rfl) <| jA (js (v := .bool false) (cB rfl) rfl) <| jA (jC (v := .bool false) rfl) <| jO (b := false) rfl rfl rfl (cB rfl) <| jO (b := false) rfl rfl rfl (cB rfl) <| jO (b := false) rfl rfl rfl (cB rfl) <| jO (b := false) rfl rfl rfl (cB rfl) <| jO (b := false) rfl rfl rfl (cB rfl) <| jA (js (v := .bool false) (cB rfl) rfl) ?_
          refine jA (jC (v := .bool false) rfl) <| jO (b := false) rfl rfl rfl (cB rfl) <| jO (b := false) rfl rfl rfl (cB rfl) <| jO (b := false) rfl rfl rfl (cB rfl) <| jO (b := false) rfl rfl rfl (cB rfl) <| jO (b := false) rfl rfl rfl (cB rfl) <| jA (js (v := .bool false) (cB rfl) rfl) <| jA (jG (v := .bool false) rfl) <| jE <| jB ?_
          refine jM <| jU (.inl rfl) rfl (jN (v := .bool false) rfl) (List.nil_sublist _) ?_
          refine ⟨cB (dF (fun h_ => ?_)).symm, rfl⟩
          obtain ⟨g0_, g1_, g2_, g3_, g4_, g5_, g6_, g7_, g8_, g9_⟩ := sameTD.1 h_
          first | contradiction | simp_all
        refine jO (b := false) rfl rfl rfl (cB (dF h_16)) <| jO (b := false) rfl rfl rfl (cB (dF h_16)) <| jO (b := false) rfl rfl rfl (cB (dF h_16)) <| jO (b := false) rfl rfl rfl (cB (dF h_16)) <| jO (b := false) rfl rfl rfl (cB (dF h_16)) <| jA (js (v := .bool false) (cB (dF h_16)) rfl) <| jA (jC (v := .bool false) rfl) <| jO (b := false) rfl rfl rfl (cB rfl) <| jO (b := false) rfl rfl rfl (cB rfl) <| jO (b := false) rfl rfl rfl (cB rfl) ?_
        refine jO (b := false) rfl rfl rfl (cB rfl) <| jO (b := false) rfl rfl rfl (cB rfl) <| jA (js (v := .bool false) (cB rfl) rfl) <| jA (jC (v := .bool false) rfl) <| jO (b := false) rfl rfl rfl (cB rfl) <| jO (b := false) rfl rfl rfl (cB rfl) <| jO (b := false) rfl rfl rfl (cB rfl) <| jO (b := false) rfl rfl rfl (cB rfl) <| jO (b := false) rfl rfl rfl (cB rfl) <| jA (js (v := .bool false) (cB rfl) rfl) ?_
        refine jA (jC (v := .bool false) rfl) <| jO (b := false) rfl rfl rfl (cB rfl) <| jO (b := false) rfl rfl rfl (cB rfl) <| jO (b := false) rfl rfl rfl (cB rfl) <| jO (b := false) rfl rfl rfl (cB rfl) <| jO (b := false) rfl rfl rfl (cB rfl) <| jA (js (v := .bool false) (cB rfl) rfl) <| jA (jC (v := .bool false) rfl) <| jO (b := false) rfl rfl rfl (cB rfl) <| jO (b := false) rfl rfl rfl (cB rfl) ?_
        refine jO (b := false) rfl rfl rfl (cB rfl) <| jO (b := false) rfl rfl rfl (cB rfl) <| jO (b := false) rfl rfl rfl (cB rfl) <| jA (js (v := .bool false) (cB rfl) rfl) <| jA (jG (v := .bool false) rfl) <| jE <| jB <| jM <| jU (.inl rfl) rfl (jN (v := .bool false) rfl) (List.nil_sublist _) ?_
        refine ⟨cB (dF (fun h_ => ?_)).symm, rfl⟩
        obtain ⟨g0_, g1_, g2_, g3_, g4_, g5_, g6_, g7_, g8_, g9_⟩ := sameTD.1 h_
        first | contradiction | simp_all
      refine jO (b := false) rfl rfl rfl (cB (dF h_15)) <| jO (b := false) rfl rfl rfl (cB (dF h_15)) <| jO (b := false) rfl rfl rfl (cB (dF h_15)) <| jO (b := false) rfl rfl rfl (cB (dF h_15)) <| jO (b := false) rfl rfl rfl (cB (dF h_15)) <| jA (js (v := .bool false) (cB (dF h_15)) rfl) <| jA (jC (v := .bool false) rfl) <| jO (b := false) rfl rfl rfl (cB rfl) <| jO (b := false) rfl rfl rfl (cB rfl) <| jO (b := false) rfl rfl rfl (cB rfl) ?_
      refine jO (b := false) rfl rfl rfl (cB rfl) <| jO (b := false) rfl rfl rfl (cB rfl) <| jA (js (v := .bool false) (cB rfl) rfl) <| jA (jC (v := .bool false) rfl) <| jO (b := false) rfl rfl rfl (cB rfl) <| jO (b := false) rfl rfl rfl (cB rfl) <| jO (b := false) rfl rfl rfl (cB rfl) <| jO (b := false) rfl rfl rfl (cB rfl) <| jO (b := false) rfl rfl rfl (cB rfl) <| jA (js (v := .bool false) (cB rfl) rfl) ?_
      refine jA (jC (v := .bool false) rfl) <| jO (b := false) rfl rfl rfl (cB rfl) <| jO (b := false) rfl rfl rfl (cB rfl) <| jO (b := false) rfl rfl rfl (cB rfl) <| jO (b := false) rfl rfl rfl (cB rfl) <| jO (b := false) rfl rfl rfl (cB rfl) <| jA (js (v := .bool false) (cB rfl) rfl) <| jA (jC (v := .bool false) rfl) <| jO (b := false) rfl rfl rfl (cB rfl) <| jO (b := false) rfl rfl rfl (cB rfl) ?_
      refine jO (b := false) rfl rfl rfl (cB rfl) <| jO (b := false) rfl rfl rfl (cB rfl) <| jO (b := false) rfl rfl rfl (cB rfl) <| jA (js (v := .bool false) (cB rfl) rfl) <| jA (jC (v := .bool false) rfl) <| jO (b := false) rfl rfl rfl (cB rfl) <| jO (b := false) rfl rfl rfl (cB rfl) <| jO (b := false) rfl rfl rfl (cB rfl) <| jO (b := false) rfl rfl rfl (cB rfl) <| jO (b := false) rfl rfl rfl (cB rfl) ?_
      refine jA (js (v := .bool false) (cB rfl) rfl) <| jA (jG (v := .bool false) rfl) <| jE <| jB <| jM <| jU (.inl rfl) rfl (jN (v := .bool false) rfl) (List.nil_sublist _) ?_
      refine ⟨cB (dF (fun h_ => ?_)).symm, rfl⟩
      obtain ⟨g0_, g1_, g2_, g3_, g4_, g5_, g6_, g7_, g8_, g9_⟩ := sameTD.1 h_
      first | contradiction | simp_all
    refine jO (b := false) rfl rfl rfl (cB (dF h_14)) <| jO (b := false) rfl rfl rfl (cB (dF h_14)) <| jO (b := false) rfl rfl rfl (cB (dF h_14)) <| jO (b := false) rfl rfl rfl (cB (dF h_14)) <| jO (b := false) rfl rfl rfl (cB (dF h_14)) <| jA (js (v := .bool false) (cB (dF h_14)) rfl) <| jA (jC (v := .bool false) rfl) <| jO (b := false) rfl rfl rfl (cB rfl) <| jO (b := false) rfl rfl rfl (cB rfl) <| jO (b := false) rfl rfl rfl (cB rfl) ?_
    refine jO (b := false) rfl rfl rfl (cB rfl) <| jO (b := false) rfl rfl rfl (cB rfl) <| jA (js (v := .bool false) (cB rfl) rfl) <| jA (jC (v := .bool false) rfl) <| jO (b := false) rfl rfl rfl (cB rfl) <| jO (b := false) rfl rfl rfl (cB rfl) <| jO (b := false) rfl rfl rfl (cB rfl) <| jO (b := false) rfl rfl rfl (cB rfl) <| jO (b := false) rfl rfl rfl (cB rfl) <| jA (js (v := .bool false) (cB rfl) rfl) ?_
    refine jA (jC (v := .bool false) rfl) <| jO (b := false) rfl rfl rfl (cB rfl) <| jO (b := false) rfl rfl rfl (cB rfl) <| jO (b := false) rfl rfl rfl (cB rfl) <| jO (b := false) rfl rfl rfl (cB rfl) <| jO (b := false) rfl rfl rfl (cB rfl) <| jA (js (v := .bool false) (cB rfl) rfl) <| jA (jC (v := .bool false) rfl) <| jO (b := false) rfl rfl rfl (cB rfl) <| jO (b := false) rfl rfl rfl (cB rfl) ?_
    refine jO (b := false) rfl rfl rfl (cB rfl) <| jO (b := false) rfl rfl rfl (cB rfl) <| jO (b := false) rfl rfl rfl (cB rfl) <| jA (js (v := .bool false) (cB rfl) rfl) <| jA (jC (v := .bool false) rfl) <| jO (b := false) rfl rfl rfl (cB rfl) <| jO (b := false) rfl rfl rfl (cB rfl) <| jO (b := false) rfl rfl rfl (cB rfl) <| jO (b := false) rfl rfl rfl (cB rfl) <| jO (b := false) rfl rfl rfl (cB rfl) ?_
    refine jA (js (v := .bool false) (cB rfl) rfl) <| jA (jC (v := .bool false) rfl) <| jO (b := false) rfl rfl rfl (cB rfl) <| jO (b := false) rfl rfl rfl (cB rfl) <| jO (b := false) rfl rfl rfl (cB rfl) <| jO (b := false) rfl rfl rfl (cB rfl) <| jO (b := false) rfl rfl rfl (cB rfl) <| jA (js (v := .bool false) (cB rfl) rfl) <| jA (jG (v := .bool false) rfl) <| jE ?_
    refine jB <| jM <| jU (.inl rfl) rfl (jN (v := .bool false) rfl) (List.nil_sublist _) ?_
    refine ⟨cB (dF (fun h_ => ?_)).symm, rfl⟩
    obtain ⟨g0_, g1_, g2_, g3_, g4_, g5_, g6_, g7_, g8_, g9_⟩ := sameTD.1 h_
    first | contradiction | simp_all
  refine jO (b := false) rfl rfl rfl (cB (dF h_13)) <| jO (b := false) rfl rfl rfl (cB (dF h_13)) <| jO (b := false) rfl rfl rfl (cB (dF h_13)) <| jO (b := false) rfl rfl rfl (cB (dF h_13)) <| jO (b := false) rfl rfl rfl (cB (dF h_13)) <| jA (js (v := .bool false) (cB (dF h_13)) rfl) <| jA (jC (v := .bool false) rfl) <| jO (b := false) rfl rfl rfl (cB rfl) <| jO (b := false) rfl rfl rfl (cB rfl) <| jO (b := false) rfl rfl rfl (cB rfl) ?_
  refine jO (b := false) rfl rfl rfl (cB rfl) <| jO (b := false) rfl rfl rfl (cB rfl) <| jA (js (v := .bool false) (cB rfl) rfl) <| jA (jC (v := .bool false) rfl) <| jO (b := false) rfl rfl rfl (cB rfl) <| jO (b := false) rfl rfl rfl (cB rfl) <| jO (b := false) rfl rfl rfl (cB rfl) <| jO (b := false) rfl rfl rfl (cB rfl) <| jO (b := false) rfl rfl rfl (cB rfl) <| jA (js (v := .bool false) (cB rfl) rfl) ?_
  refine jA (jC (v := .bool false) rfl) <| jO (b := false) rfl rfl rfl (cB rfl) <| jO (b := false) rfl rfl rfl (cB rfl) <| jO (b := false) rfl rfl rfl (cB rfl) <| jO (b := false) rfl rfl rfl (cB rfl) <| jO (b := false) rfl rfl rfl (cB rfl) <| jA (js (v := .bool false) (cB rfl) rfl) <| jA (jC (v := .bool false) rfl) <| jO (b := false) rfl rfl rfl (cB rfl) <| jO (b := false) rfl rfl rfl (cB rfl) ?_
  refine jO (b := false) rfl rfl rfl (cB rfl) <| jO (b := false) rfl rfl rfl (cB rfl) <| jO (b := false) rfl rfl rfl (cB rfl) <| jA (js (v := .bool false) (cB rfl) rfl) <| jA (jC (v := .bool false) rfl) <| jO (b := false) rfl rfl rfl (cB rfl) <| jO (b := false) rfl rfl rfl (cB rfl) <| jO (b := false) rfl rfl rfl (cB rfl) <| jO (b := false) rfl rfl rfl (cB rfl) <| jO (b := false) rfl rfl rfl (cB rfl) ?_
  refine jA (js (v := .bool false) (cB rfl) rfl) <| jA (jC (v := .bool false) rfl) <| jO (b := false) rfl rfl rfl (cB rfl) <| jO (b := false) rfl rfl rfl (cB rfl) <| jO (b := false) rfl rfl rfl (cB rfl) <| jO (b := false) rfl rfl rfl (cB rfl) <| jO (b := false) rfl rfl rfl (cB rfl) <| jA (js (v := .bool false) (cB rfl) rfl) <| jA (jC (v := .bool false) rfl) <| jO (b := false) rfl rfl rfl (cB rfl) ?_
  refine jO (b := false) rfl rfl rfl (cB rfl) <| jO (b := false) rfl rfl rfl (cB rfl) <| jO (b := false) rfl rfl rfl (cB rfl) <| jO (b := false) rfl rfl rfl (cB rfl) <| jA (js (v := .bool false) (cB rfl) rfl) <| jA (jG (v := .bool false) rfl) <| jE <| jB <| jM <| jU (.inl rfl) rfl (jN (v := .bool false) rfl) (List.nil_sublist _) ?_
  refine ⟨cB (dF (fun h_ => ?_)).symm, rfl⟩
  obtain ⟨g0_, g1_, g2_, g3_, g4_, g5_, g6_, g7_, g8_, g9_⟩ := sameTD.1 h_
  first | contradiction | simp_all

end Go.Proofs.YtghfijncihbojaaGreatDoor

set_option linter.unusedSimpArgs false
set_option linter.unusedVariables false
set_option linter.unnecessarySimpa false
namespace Go.Proofs.YtghfijncihbojaaGreatDoor
open Go Go.RowKit

theorem getKey_mid_ne {key k2 val : Str} (h : ¬ key = k2) : ∀ (a b : List Cell), getKey (a ++ (key, val) :: b) k2 = getKey (a ++ b) k2
  | [], b => by rw [List.nil_append, List.nil_append, getKey, if_neg h]
  | c :: a, b => by
    rw [List.cons_append, List.cons_append, getKey, getKey, getKey_mid_ne h a b]
theorem getKey_filter_ne {key k2 : Str} (h : ¬ key = k2) : ∀ s : List Cell, getKey (s.filter (fun c => !decide (c.1 = key))) k2 = getKey s k2
  | [] => rfl
  | c :: s => by
    by_cases hc : c.1 = key
    · rw [List.filter_cons_of_neg (by simp [hc]), getKey_filter_ne h s, getKey, if_neg (by rw [hc]; exact h)]
    · rw [List.filter_cons_of_pos (by simp [hc]), getKey, getKey, getKey_filter_ne h s]
theorem getKey_put_ne {s : List Cell} {key k2 val : Str} (h : ¬ key = k2) : getKey (putKey s key val) k2 = getKey s k2 := by
  unfold putKey
  split
  · rfl
  · simp only
    split
    · exact getKey_filter_ne h s
    · unfold insertAt
      rw [getKey_mid_ne h, List.take_append_drop, getKey_filter_ne h s]
/- names -/
/- processes -/
/- signals -/
/- files -/
/- pipes -/
end Go.Proofs.YtghfijncihbojaaGreatDoor

set_option linter.unusedSimpArgs false
set_option linter.unusedVariables false
set_option linter.unnecessarySimpa false
namespace Go.Proofs.YtghfijncihbojaaGreatDoor
open Go Go.RowKit
theorem grow3 {i : Nat} (h : i ≤ 11) : grow 3 i ≤ 2800000 := Nat.le_trans (grow_le 3 h) (by decide)
theorem growT3 {i : Nat} (h : i ≤ 11) : growT 3 0 i ≤ 20000000 := Nat.le_trans (growT_le 3 0 h) (by decide)
/-- Process 1 runs. -/
def runs (s : List Cell) : Prop := numOf (getKey s (keyNum ([114, 47] : Str) 1 ([47, 115] : Str))) = 1
structure isStore (c : CL) : Prop where
  k : c.kind = 20
  a : 0 ≤ c.a ∧ c.a ≤ 3
  b : c.b = 0
  n : c.name = []
  t : c.to_ = []
  x : c.text = [97, 98]
theorem isStore.ok {c : CL} (h : isStore c) : c.ok 1048576 := by
  obtain ⟨h1, h2, h3, h4, h5, h6⟩ := h
  refine ⟨by omega, by omega, by omega, by rw [h4]; exact Nat.zero_le _, by rw [h5]; exact Nat.zero_le _, by rw [h6]; decide⟩
theorem store_call {m : MS} (h : runs m.s) {c : CL} (hc : isStore c) : (m.doCall 1 c).2 = ⟨0, 0, []⟩ ∧ runs (m.doCall 1 c).1.s := by
  obtain ⟨h1, h2, h3, h4, h5, h6⟩ := hc
  have hst : m.state 1 = ((m.look (keyNum ([114, 47] : Str) 1 ([47, 115] : Str))).1, 1) := by
    show (_, numOf (getKey m.s _)) = _
    rw [h]
  have hok : callOk c = true := by
    simp only [callOk, h1, h4, h5, h6]
    decide
  have hk : ∀ q : MS, q.doKind 1 c = (q.lay (keyNum (keyNum ([109, 47] : Str) 1 ([47] : Str)) c.a []) (([45] : Str) ++ hexS [97, 98]), ⟨0, 0, []⟩) := by
    intro q
    simp only [MS.doKind, h1, MS.storePage, h6, if_pos h2]
    rfl
  have hd : m.doCall 1 c = (((m.look (keyNum ([114, 47] : Str) 1 ([47, 115] : Str))).1).lay (keyNum (keyNum ([109, 47] : Str) 1 ([47] : Str)) c.a []) (([45] : Str) ++ hexS [97, 98]), ⟨0, 0, []⟩) := by
    simp only [MS.doCall, hst, hok, hk]
    rfl
  rw [hd]
  refine ⟨rfl, ?_⟩
  show numOf (getKey (putKey m.s _ _) _) = 1
  rw [getKey_put_ne (by intro he; have h_ := congrArg List.head? he; simp [keyNum] at h_)]
  exact h
theorem run_stores : ∀ (l : List SP) (m : MS) (o : List AN), runs m.s → (∀ p ∈ l, p.proc = 1 ∧ isStore p.call) → runs (m.runA l o).1.s
  | [], m, o, h, _ => h
  | p :: l, m, o, h, hl => by
    have h0 := hl p (List.mem_cons_self ..)
    rw [MS.runA]
    refine run_stores l _ _ ?_ fun q hq => hl q (List.mem_cons_of_mem _ hq)
    rw [h0.1]
    exact (store_call h h0.2).2
/-- A transaction of i page calls. -/
structure stInv (i : Nat) (t : TD) : Prop where
  s : t.state = 1
  p : t.proc = 1
  n : t.calls.length = i
  cs : ∀ c ∈ t.calls, isStore c
  r : t.rd.length ≤ i * 20000000
  w : t.wr.length ≤ i * 20000000
  a : t.ans.length = i
  m : t.marks.length = 0
theorem stInv.lim {i : Nat} {t : TD} (h : stInv i t) (hi : i ≤ 12) : t.lim 500000000 := ⟨by have := h.n; omega, by have := h.a; omega, by have := h.r; omega, by have := h.w; omega, by have := h.m; omega⟩
theorem stInv.okT {i : Nat} {t : TD} (h : stInv i t) (hi : i ≤ 12) : okT t := ⟨fun c hc => (h.cs c hc).ok, by have := h.n; omega, by have := h.p; omega⟩
theorem stInv.new : stInv 0 (TD.new 1 1 1) := ⟨rfl, rfl, rfl, (fun _ h => by cases h), Nat.zero_le _, Nat.zero_le _, rfl, rfl⟩
theorem stInv.step {i : Nat} {t z : TD} {s : List Cell} {c : CL} {a : AN} (h : stInv i t) (hs : runs s) (hi : i < 12) (hc : isStore c) (e : TD.askV (viewA s t) t c = (z, a)) (hb : z.rd.length ≤ t.rd.length + 20000000 ∧ z.wr.length ≤ t.wr.length + 20000000) : stInv (i + 1) z ∧ a = ⟨0, 0, []⟩ := by
  have hn := h.n
  have hr := h.r
  have hw := h.w
  rw [askV_on h.s (by omega), h.p] at e
  have hv : runs (viewA s t) := run_stores _ _ _ hs fun p hp => by
    obtain ⟨q, hq, rfl⟩ := List.mem_map.1 hp
    exact ⟨h.p, h.cs q hq⟩
  have hd := (store_call (m := ⟨viewA s t, [], []⟩) hv hc).1
  rw [hd] at e
  simp only [Prod.mk.injEq] at e
  obtain ⟨rfl, rfl⟩ := e
  refine ⟨⟨h.s, rfl, ?_, ?_, by dsimp only at hb ⊢; omega, by dsimp only at hb ⊢; omega, ?_, h.m⟩, rfl⟩
  · simp only [List.length_append, List.length_cons, List.length_nil]; omega
  · intro q hq
    rcases List.mem_append.1 hq with hq | hq
    · exact h.cs q hq
    · rw [List.mem_singleton] at hq; rw [hq]; exact hc
  · have := h.a; simp only [List.length_append, List.length_cons, List.length_nil]; omega
/-- What is told of a transaction that marks and asks. -/
structure mkInv (i : Nat) (t : TD) : Prop where
  s : t.state = 1
  p : t.proc = 1
  n : t.calls.length = i
  cs : ∀ c ∈ t.calls, c.ok 1048576
  r : t.rd.length ≤ i * 20000000
  w : t.wr.length ≤ i * 20000000
  a : t.ans.length = i
  m : t.marks = (List.range i).map fun k => ((k : Nat) : Int)
theorem mkInv.new : mkInv 0 (TD.new 1 1 1) := ⟨rfl, rfl, rfl, (fun _ h => by cases h), Nat.zero_le _, Nat.zero_le _, rfl, rfl⟩
theorem mkInv.ml {i : Nat} {t : TD} (h : mkInv i t) : t.marks.length = i := by rw [h.m, List.length_map, List.length_range]
theorem mkInv.lim {i : Nat} {t : TD} (h : mkInv i t) (hi : i ≤ 12) : t.lim 500000000 := ⟨by have := h.n; omega, by have := h.a; omega, by have := h.r; omega, by have := h.w; omega, by have := h.ml; omega⟩
theorem mark_eq {i : Nat} {t : TD} (h : mkInv i t) (hi : i < 4) : t.mark = ({ t with marks := t.marks ++ [((i : Nat) : Int)] }, ((i + 1 : Nat) : Int)) := by
  have hm := h.ml
  have hn := h.n
  rw [TD.mark, if_pos ⟨h.s, by omega⟩, hm, hn]
theorem mkInv.step {i : Nat} {t z y : TD} {v : List Cell} {c : CL} {a : AN} (h : mkInv i t) (hi : i < 4) (e0 : z = t.mark.1) (hc : c.ok 1048576) (e : TD.askV v z c = (y, a)) (hb : y.rd.length ≤ z.rd.length + 20000000 ∧ y.wr.length ≤ z.wr.length + 20000000) : mkInv (i + 1) y := by
  have hn := h.n
  have hr := h.r
  have hw := h.w
  rw [mark_eq h hi] at e0
  subst e0
  rw [askV_on (t := { t with marks := t.marks ++ [((i : Nat) : Int)] }) h.s (by show ¬ 12 ≤ t.calls.length; omega)] at e
  simp only [Prod.mk.injEq] at e
  obtain ⟨rfl, rfl⟩ := e
  refine ⟨h.s, h.p, ?_, ?_, by dsimp only at hb ⊢; omega, by dsimp only at hb ⊢; omega, ?_, ?_⟩
  · simp only [List.length_append, List.length_cons, List.length_nil]; omega
  · intro q hq
    rcases List.mem_append.1 hq with hq | hq
    · exact h.cs q hq
    · rw [List.mem_singleton] at hq; rw [hq]; exact hc
  · have := h.a; simp only [List.length_append, List.length_cons, List.length_nil]; omega
  · show t.marks ++ _ = _
    rw [h.m, List.range_succ, List.map_append]
    rfl
end Go.Proofs.YtghfijncihbojaaGreatDoor
