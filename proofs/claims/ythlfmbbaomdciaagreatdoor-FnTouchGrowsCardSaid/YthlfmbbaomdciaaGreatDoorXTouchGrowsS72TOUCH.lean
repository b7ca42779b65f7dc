/-
Texts of the walk, joined: what each one proves stands at its theorems.
-/
import Derived.Test.YthlfmbbaomdciaaGreatDoorB7DatTy
set_option linter.unusedSimpArgs false
set_option linter.unusedVariables false
set_option linter.unnecessarySimpa false
namespace Go.Proofs.YthlfmbbaomdciaaGreatDoor
open Go Go.RowKit
section
variable {α : Type} {enc : α → List Value} {k : Nat}
theorem flat_hi (hk : ∀ x, (enc x).length = k) {w : World} {a : Option Addr} {c : Nat} {s : List α} (h : Sees w (.slice a s.length c) k s.length (s.flatMap enc)) (hi : Nat) (h2 : hi ≤ s.length) : Sees w (.slice a hi c) k hi ((s.take hi).flatMap enc) := by
 have := h.hi hi h2
 rw [flat_takeN hk] at this
 exact this
end
theorem hiP {w : World} {a : Option Addr} {c : Nat} {s : List SP} (h : Sees w (.slice a s.length c) 7 s.length (s.flatMap encP)) (hi : Nat) (h2 : hi ≤ s.length) : Sees w (.slice a hi c) 7 hi ((s.take hi).flatMap encP) := flat_hi encP_len h hi h2
theorem touch_grows {s : List Cell} {l : List SP} {k : Nat} {m1 m2 : MS} {o1 o2 : List AN} (e1 : (⟨s, [], []⟩ : MS).runA (l.take k) [] = (m1, o1)) (e2 : (⟨s, [], []⟩ : MS).runA l [] = (m2, o2)) :
   m1.r.foldl addSpan m2.r = m2.r ∧ m1.w.foldl addSpan m2.w = m2.w := by
 rw [runA_tr] at e1 e2
 simp only [Prod.mk.injEq] at e1 e2
 obtain ⟨rfl, _⟩ := e1
 obtain ⟨rfl, _⟩ := e2
 have h : stepsTr s l = stepsTr s (l.take k ++ l.drop k) := by rw [List.take_append_drop]
 rw [stepsTr_app] at h
 rw [h]
 dsimp only
 refine ⟨addAll_has (srt.nil.addAll) fun x hx => ?_, addAll_has (srt.nil.addAll) fun x hx => ?_⟩ <;>
 · rw [mem_addAll] at *
   rcases hx with hx | hx
   · exact .inl (List.mem_append_left _ hx)
   · exact .inr hx
end Go.Proofs.YthlfmbbaomdciaaGreatDoor
set_option maxHeartbeats 4000000
set_option maxRecDepth 4000
namespace Go.Proofs.YthlfmbbaomdciaaGreatDoor
open Go Go.RowKit
attribute [local irreducible] JL JC JQ JO LO PO JA JX Ct
theorem D_DrawSerialTouch (pa : Option Addr) (pc : Nat) (p : Str) (hp : p.length ≤ 1048577)  :
   Ct Tryz.prog 22 [.slice pa p.length pc] [] (fun w => Sees w (.slice pa p.length pc) 1 p.length (p.map encB)) (fun v A' => ∃ r0a r0c r0 r1a r1c r1, (okC' 10935 1048576 r0 ∧ stOk r0) ∧ (okSteps r1 ∧ r1.length ≤ 6) ∧ v = .tuple #[.slice r0a r0.length r0c, .slice r1a r1.length r1c] ∧ A' = rC r0a r0c r0 :: [Res.row (.slice r1a r1.length r1c) 45 7 r1.length (r1.flatMap encP)]) := by
 refine Ct.intro Tryz.func22 rfl Tryz.ntmps22 (lb rfl) fun w0 hpre => ?_
 have hs_pa : Sees w0 _ _ _ _ := hpre
 refine go ?_
 refine jA [] (D_l15Case pa pc p (by omega)) (hpre := fun w hw => hw.seeOut_ hs_pa nM) ?_
 rintro _ _ ⟨l_1a, l_1c, l_1, l_3a, l_3c, l_3, f_2, f_4, rfl, rfl⟩
 have hO1_l_1 := f_2.1.1
 refine go ?_
 refine ji (.inl rfl) rfl (jC (v := .slice l_1a l_1.length l_1c) rfl) (jC (v := .slice l_3a l_3.length l_3c) rfl) (List.Sublist.refl _) ?_
 exact ⟨l_1a, l_1c, l_1, l_3a, l_3c, l_3, ⟨f_2.1, f_2.2⟩, f_4, rfl, rfl⟩
set_option maxRecDepth 4000 in
theorem I_joinT (p : Nat) (a6 : Option Addr) (c6 : Nat) (rr : List Str) (a7 : Option Addr) (c7 : Nat) (ww : List Str) (b1 : Option Addr) (d1 : Nat) (r' : List Str) (b2 : Option Addr) (d2 : Nat) (w' : List Str) (h1 : rr.length ≤ 1000000000) (h2 : ww.length ≤ 1000000000) (h3 : r'.length ≤ 1000000000) (h4 : w'.length ≤ 1000000000) :
   Ct Tryz.prog 98 [.pointer (some ⟨p, 0, none⟩), .agg #[.slice b1 r'.length d1, .slice b2 w'.length d2]] [bk p 32 [.slice a6 rr.length c6, .slice a7 ww.length c7], rS a6 c6 rr, rS a7 c7 ww] (fun w => (Sees w (.slice b1 r'.length d1) 1 r'.length (r'.map str) ∧ ∀ i_, (Value.slice b1 r'.length d1).ownBlock = some i_ → i_ ∉ idsOf [bk p 32 [.slice a6 rr.length c6, .slice a7 ww.length c7], rS a6 c6 rr, rS a7 c7 ww]) ∧ (Sees w (.slice b2 w'.length d2) 1 w'.length (w'.map str) ∧ ∀ i_, (Value.slice b2 w'.length d2).ownBlock = some i_ → i_ ∉ idsOf [bk p 32 [.slice a6 rr.length c6, .slice a7 ww.length c7], rS a6 c6 rr, rS a7 c7 ww])) (fun v A' => ∃ x1 y1 x2 y2, v = .tuple #[] ∧ A' = [bk p 32 [.slice x1 ((r'.foldl addSpan rr).length) y1, .slice x2 ((w'.foldl addSpan ww).length) y2], rS x1 y1 (r'.foldl addSpan rr), rS x2 y2 (w'.foldl addSpan ww)]) := by
 refine Ct.intro Tryz.func98 rfl Tryz.ntmps98 (lb rfl) fun w0 hpre => ?_
 have hs_b1 : Sees w0 _ _ _ _ := hpre.1.1
 have hs_b2 : Sees w0 _ _ _ _ := hpre.2.1
 refine go ?_
 refine jM [.slice b1 r'.length d1, .slice b2 w'.length d2] fun b_1 => ?_
 refine jb <| jT <| jc <| jc <| jy ?_
 refine gQ ?_
 refine jb <| jT <| JC.block <| JC.ghost (L' := [bk p 32 [.slice a6 rr.length c6, .slice a7 ww.length c7], rS a6 c6 rr, bk b_1 32 [.slice b1 r'.length d1, .slice b2 w'.length d2], rS a7 c7 ww]) (fun w hw => hw.perm (pick_perm [1, 1] (A := [bk p 32 [.slice a6 rr.length c6, .slice a7 ww.length c7], rS a6 c6 rr]) (F := [bk b_1 32 [.slice b1 r'.length d1, .slice b2 w'.length d2], rS a7 c7 ww]) rfl).symm) <| jL (fun k_ e_ L_ => ∃ j_ : Nat, ∃ D : List Str, ∃ xD : Option Addr, ∃ yD : Nat, (j_ ≤ r'.length) ∧ (D = (r'.take j_).foldl addSpan rr) ∧ (D.length ≤ rr.length + j_) ∧ EL e_ [(0, pv p), (3, .pointer (some ⟨b_1, 0, none⟩)), (9, .slice b1 r'.length d1), (10, nv r'.length), (11, nv j_)] ∧ L_ = [bk p 32 [.slice xD D.length yD, .slice a7 ww.length c7], rS xD yD D, bk b_1 32 [.slice b1 r'.length d1, .slice b2 w'.length d2], rS a7 c7 ww] ∧ k_ = r'.length - j_) _ ⟨0, rr, a6, c6, by omega, rfl, by omega, EL.go, rfl, rfl⟩ ?_
 rintro _ _ _ ⟨j_, D, xD, yD, hj, hDD, hlD, ⟨_, rfl⟩, rfl, rfl⟩
 refine go ?_
 by_cases h_2 : ((j_ : Nat) : Int) < ((r'.length : Nat) : Int)
 · have hlt : j_ < r'.length := by omega
   refine go ?_
   obtain ⟨hr_3, hr_3b, -⟩ := sees_some hs_b1 (by omega)
   refine go ?_
   refine jU (jY (v := str (r'.getD j_ [])) hs_b1 (hpre.1.2) rfl kJ (atS (by omega))) ?_
   refine go ?_
   refine jA [1] (C_addSpan xD yD D (r'.getD j_ []) (by omega)) ?_
   rintro _ _ ⟨a_4, c_5, rfl, rfl⟩
   refine go ?_
   refine jD 1 [.slice a_4 (addSpan D (r'.getD j_ [])).length c_5, .slice a7 ww.length c7] ?_
   refine go ?_
   exact jP [1, 0, 0, 0] ⟨j_ + 1, (addSpan D (r'.getD j_ [])), a_4, c_5, by omega, (by rw [take_at (getD_some (d := []) hlt), List.foldl_append, ← hDD]; rfl), (by have h_ := addSpan_len D (r'.getD j_ []); omega), EL.go, rfl, rfl⟩
 rw [List.take_of_length_le (by omega)] at hDD
 refine JC.condF (cB (dF h_2)) <| JC.exit <| JQ.thenExit <| JQ.thenExit <| JQ.blockE <| jT <| jc <| jy ?_
 refine gQ ?_
 refine jb <| jT <| JC.block <| JC.ghost (L' := [bk p 32 [.slice xD D.length yD, .slice a7 ww.length c7], rS a7 c7 ww, rS xD yD D, bk b_1 32 [.slice b1 r'.length d1, .slice b2 w'.length d2]]) (fun w hw => hw.perm (pick_perm [0, 2] (A := [bk p 32 [.slice xD D.length yD, .slice a7 ww.length c7], rS a7 c7 ww]) (F := [rS xD yD D, bk b_1 32 [.slice b1 r'.length d1, .slice b2 w'.length d2]]) rfl).symm) <| jL (fun k_ e_ L_ => ∃ j_ : Nat, ∃ E : List Str, ∃ xE : Option Addr, ∃ yE : Nat, (j_ ≤ w'.length) ∧ (E = (w'.take j_).foldl addSpan ww) ∧ (E.length ≤ ww.length + j_) ∧ EL e_ [(0, pv p), (26, .slice b2 w'.length d2), (27, nv w'.length), (28, nv j_)] ∧ L_ = [bk p 32 [.slice xD D.length yD, .slice xE E.length yE], rS xE yE E, rS xD yD D, bk b_1 32 [.slice b1 r'.length d1, .slice b2 w'.length d2]] ∧ k_ = w'.length - j_) _ ⟨0, ww, a7, c7, by omega, rfl, by omega, EL.go, rfl, rfl⟩ ?_
 rintro _ _ _ ⟨j_, E, xE, yE, hj, hDE, hlE, ⟨_, rfl⟩, rfl, rfl⟩
 refine go ?_
 by_cases h_6 : ((j_ : Nat) : Int) < ((w'.length : Nat) : Int)
 · have hlt : j_ < w'.length := by omega
   refine go ?_
   obtain ⟨hr_7, hr_7b, -⟩ := sees_some hs_b2 (by omega)
   refine go ?_
   refine jU (jY (v := str (w'.getD j_ [])) hs_b2 (hpre.2.2) rfl kJ (atS (by omega))) ?_
   refine go ?_
   refine jA [1] (C_addSpan xE yE E (w'.getD j_ []) (by omega)) ?_
   rintro _ _ ⟨a_8, c_9, rfl, rfl⟩
   refine go ?_
   refine jD 1 [.slice xD D.length yD, .slice a_8 (addSpan E (w'.getD j_ [])).length c_9] ?_
   refine go ?_
   exact jP [1, 0, 0, 0] ⟨j_ + 1, (addSpan E (w'.getD j_ [])), a_8, c_9, by omega, (by rw [take_at (getD_some (d := []) hlt), List.foldl_append, ← hDE]; rfl), (by have h_ := addSpan_len E (w'.getD j_ []); omega), EL.go, rfl, rfl⟩
 rw [List.take_of_length_le (by omega)] at hDE
 refine go ?_
 refine ju (pick_perm [0, 1, 0] (A := [bk p 32 [.slice xD D.length yD, .slice xE E.length yE], rS xD yD D, rS xE yE E]) (F := [bk b_1 32 [.slice b1 r'.length d1, .slice b2 w'.length d2]]) rfl).symm ?_
 refine Done.none (.inr rfl) rfl (tS 3 _) ?_
 subst hDD
 subst hDE
 exact ⟨_, _, _, _, rfl, rfl⟩

set_option maxRecDepth 4000 in
theorem I_joinTouch (a6 : Option Addr) (c6 : Nat) (rr : List Str) (a7 : Option Addr) (c7 : Nat) (ww : List Str) (b1 : Option Addr) (d1 : Nat) (r' : List Str) (b2 : Option Addr) (d2 : Nat) (w' : List Str) (h1 : rr.length ≤ 1000000000) (h2 : ww.length ≤ 1000000000) (h3 : r'.length ≤ 1000000000) (h4 : w'.length ≤ 1000000000) :
   Ct Tryz.prog 27 [.agg #[.slice a6 rr.length c6, .slice a7 ww.length c7], .agg #[.slice b1 r'.length d1, .slice b2 w'.length d2]] [] (fun w => Sees w (.slice a6 rr.length c6) 1 rr.length (rr.map str) ∧ Sees w (.slice a7 ww.length c7) 1 ww.length (ww.map str) ∧ Sees w (.slice b1 r'.length d1) 1 r'.length (r'.map str) ∧ Sees w (.slice b2 w'.length d2) 1 w'.length (w'.map str)) (fun v A' => ∃ x1 y1 x2 y2, v = .agg #[.slice x1 ((r'.foldl addSpan rr).length) y1, .slice x2 ((w'.foldl addSpan ww).length) y2] ∧ A' = [rS x1 y1 (r'.foldl addSpan rr), rS x2 y2 (w'.foldl addSpan ww)]) := by
 refine Ct.intro Tryz.func27 rfl Tryz.ntmps27 (lb rfl) fun w0 hpre => ?_
 have hs_a6 : Sees w0 _ _ _ _ := hpre.1
 have hs_a7 : Sees w0 _ _ _ _ := hpre.2.1
 have hs_b1 : Sees w0 _ _ _ _ := hpre.2.2.1
 have hs_b2 : Sees w0 _ _ _ _ := hpre.2.2.2
 refine go ?_
 refine jM [.slice a6 rr.length c6, .slice a7 ww.length c7] fun b_1 => ?_
 refine jM [.slice b1 r'.length d1, .slice b2 w'.length d2] fun b_2 => ?_
 refine jG [.slice none 0 0, .slice none 0 0] fun b_3 => ?_
 refine go ?_
 refine jA [] (Z_cloneTouch a6 a7 c6 c7 rr ww (by omega) (by omega)) (hpre := fun w hw => ⟨hw.seeOut_ hs_a6 nM, hw.seeOut_ hs_a7 nM⟩) ?_
 rintro _ _ ⟨a_4, c_5, a_6, c_7, rfl, rfl⟩
 refine jG [.slice none 0 0, .slice none 0 0] fun b_8 => ?_
 refine jD 0 [.slice a_4 rr.length c_5, .slice a_6 ww.length c_7] ?_
 refine go ?_
 refine jA [0, 0, 0] (I_joinT b_8 a_4 c_5 rr a_6 c_7 ww b1 d1 r' b2 d2 w' (by omega) (by omega) (by omega) (by omega)) (hpre := fun w hw => ⟨⟨hw.seeOut_ hs_b1 nM, hw.apart hs_b1 nM (by simp)⟩, ⟨hw.seeOut_ hs_b2 nM, hw.apart hs_b2 nM (by simp)⟩⟩) ?_
 rintro _ _ ⟨a_9, c_10, a_11, c_12, rfl, rfl⟩
 refine go ?_
 refine jD 3 [.slice a_9 (r'.foldl addSpan rr).length c_10, .slice a_11 (w'.foldl addSpan ww).length c_12] ?_
 refine go ?_
 exact jJ [1, 1] ⟨_, _, _, _, rfl, rfl⟩

theorem I_serialTouch (sa : Option Addr) (sc : Nat) (s : List Cell) (stepsa : Option Addr) (stepsc : Nat) (steps : List SP) (hs : s.length ≤ 20000000) (hsteps : steps.length ≤ 20000000) {n : Nat} (hO : okC' n 1048576 s) (hn : n ≤ 40000000) (hP : okSteps steps) (G : Nat → Nat) (hG : runB s steps G) (hGS : ∀ j, j ≤ steps.length → G j ≤ 28000000) (hGT : sumT G 0 steps.length ≤ 1000000000) :
   Ct Tryz.prog 24 [.slice sa s.length sc, .slice stepsa steps.length stepsc] ([]) (fun w => Sees w (.slice sa s.length sc) 2 s.length (s.flatMap encC) ∧ Sees w (.slice stepsa steps.length stepsc) 7 steps.length (steps.flatMap encP) ∧ HexOk w) (fun v A' => ∃ (x' : MA) (m' : MS) (o : List AN), (⟨s, [], []⟩ : MS).runA steps [] = (m', o) ∧ m'.ok (G steps.length) (sumT G 0 steps.length) ∧ v = .agg #[.slice x'.a1 m'.r.length x'.c1, .slice x'.a2 m'.w.length x'.c2] ∧ A' = [rS x'.a1 x'.c1 m'.r, rS x'.a2 x'.c2 m'.w]) := by
 refine Ct.introL Tryz.func24 rfl Tryz.ntmps24 (lb rfl) fun w0 hpre hlow => ?_
 have hs_sa : Sees w0 _ _ _ _ := hpre.1
 have hs_stepsa : Sees w0 _ _ _ _ := hpre.2.1
 refine go ?_
 refine jG [.slice none 0 0, .slice none 0 0] fun b_1 => ?_
 refine go ?_
 refine jA [] (I_machOfB sa sc s (by first | omega | simp) hO) (hpre := fun w hw => hw.seeOut_ hs_sa nM) ?_
 rintro _ _ ⟨x_2, m_3, e_5, k_4, rfl, rfl⟩
 refine jG zC fun b_6 => ?_
 refine jD 0 (mc x_2 m_3) ?_
 refine go ?_
 refine jA [0, 0, 0, 0] (N_run b_6 x_2 m_3 k_4 (by omega) (by omega) stepsa stepsc steps (by omega) hP G (by rw [← e_5]; exact hG) hGS hGT) (hpre := fun w hw => ⟨⟨hw.seeOut_ hs_stepsa nM, hw.apart hs_stepsa nM (by simp)⟩, hw.hex hlow hpre.2.2⟩) ?_
 rintro _ _ ⟨x_7, m_8, a_9, c_10, o_11, e_12, k_13, hl_14, rfl, rfl⟩
 refine go ?_
 refine jD 5 [.slice x_7.a1 m_8.r.length x_7.c1, .slice x_7.a2 m_8.w.length x_7.c2] ?_
 refine go ?_
 refine ju (pick_perm [2, 2] (A := [rS x_7.a1 x_7.c1 m_8.r, rS x_7.a2 x_7.c2 m_8.w]) (F := [mb b_6 x_7 m_8, rC x_7.a0 x_7.c0 m_8.s, Res.row (.slice a_9 o_11.length c_10) 39 3 o_11.length (o_11.flatMap encA), bk b_1 32 [.slice x_7.a1 m_8.r.length x_7.c1, .slice x_7.a2 m_8.w.length x_7.c2]]) rfl).symm ?_
 refine jE (.inl rfl) rfl (js (jl 5 (vs := [.slice x_7.a1 m_8.r.length x_7.c1, .slice x_7.a2 m_8.w.length x_7.c2]) rfl rfl kt ku rfl rfl) ⟨_, rfl⟩) (tS 2 _) ?_
 subst e_5
 exact ⟨x_7, m_8, o_11, e_12, k_13, rfl, rfl⟩
end Go.Proofs.YthlfmbbaomdciaaGreatDoor
