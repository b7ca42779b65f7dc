/-
Texts of the walk, joined: what each one proves stands at its theorems.
-/
import Derived.Test.YthlfmbbaomdciaaGreatDoorB2DatBa
set_option linter.unusedSimpArgs false
set_option linter.unusedVariables false
set_option linter.unnecessarySimpa false
set_option maxHeartbeats 4000000
set_option maxRecDepth 4000
namespace Go.Proofs.YthlfmbbaomdciaaGreatDoor
open Go Go.RowKit
/-- What is told of a drawn transaction: at most i calls, j marks. -/
structure tInv (i j : Nat) (t : TD) : Prop where
 cs : ∀ c ∈ t.calls, c.ok 1048576
 n : t.calls.length ≤ i
 pr : 0 ≤ t.proc ∧ t.proc ≤ 9
 a : t.ans.length ≤ i
 r : t.rd.length ≤ i * 20000000
 w : t.wr.length ≤ i * 20000000
 m : t.marks.length ≤ j
 kr : okW t.rd
 kw : okW t.wr
 g : 0 ≤ t.age ∧ t.age ≤ 9
theorem okW.nil : okW [] := fun k hk => by cases hk
theorem okW.one {l : List Str} {x : Str} (h : okW l) (hx : x.length ≤ 3000000) : okW (addSpan l x) := fun k hk => by
 rcases mem_addSpan.1 hk with rfl | hk
 · exact hx
 · exact h k hk
theorem okW_touch {v : List Cell} {p : Int} {c : CL} (hv : Pr.okKeys v) (hc : c.ok 1048576) (hp : 0 ≤ p ∧ p ≤ 9) : okW ((⟨v, [], []⟩ : MS).doCall p c).1.r ∧ okW ((⟨v, [], []⟩ : MS).doCall p c).1.w := by
 rw [doCall_tr]
 exact ⟨okW.nil.add (callTr_r ⟨by omega, by omega⟩ hc hv), okW.nil.add (callTr_w ⟨by omega, by omega⟩ hc hv)⟩
theorem keys_viewL {n : Nat} {s : List Cell} (h : okC' n 1048576 s) (t : TD) : Pr.okKeys (viewL s t) := by rw [viewL_tr]; exact okKeys_steps _ h.keys
theorem tInv.new {a b c : Int} (h : 0 ≤ c ∧ c ≤ 9) (hb : 0 ≤ b ∧ b ≤ 9 := by decide) : tInv 0 0 (TD.new a b c) := ⟨(fun _ h => by cases h), Nat.zero_le _, h, Nat.zero_le _, Nat.zero_le _, Nat.zero_le _, Nat.zero_le _, okW.nil, okW.nil, hb⟩
theorem tInv.mono {i j i' j' : Nat} {t : TD} (h : tInv i j t) (hi : i ≤ i') (hj : j ≤ j') : tInv i' j' t := ⟨h.cs, Nat.le_trans h.n hi, h.pr, Nat.le_trans h.a hi, Nat.le_trans h.r (Nat.mul_le_mul_right _ hi), Nat.le_trans h.w (Nat.mul_le_mul_right _ hi), Nat.le_trans h.m hj, h.kr, h.kw, h.g⟩
theorem tInv.lim {i j : Nat} {t : TD} (h : tInv i j t) (hi : i ≤ 20) (hj : j ≤ 100) : t.lim 500000000 := ⟨by have := h.n; omega, by have := h.a; omega, by have := h.r; omega, by have := h.w; omega, by have := h.m; omega⟩
theorem tInv.okT {i j : Nat} {t : TD} (h : tInv i j t) (hi : i ≤ 20) : okT t := ⟨h.cs, by have := h.n; omega, by have := h.pr; omega⟩
theorem tInv.ask {i j : Nat} {t z : TD} {v : List Cell} {c : CL} {a : AN} (h : tInv i j t) (hc : c.ok 1048576) (hv : Pr.okKeys v) (e : TD.askV v t c = (z, a)) (hb : z.rd.length ≤ t.rd.length + 20000000 ∧ z.wr.length ≤ t.wr.length + 20000000) : tInv (i + 1) j z := by
 have hn := h.n
 have ha := h.a
 have hr := h.r
 have hw := h.w
 by_cases hs : t.state = 1
 · by_cases h12 : 12 ≤ t.calls.length
   · rw [askV_full hs h12] at e
     cases e
     exact h.mono (by omega) (Nat.le_refl _)
   · rw [askV_on hs h12] at e
     simp only [Prod.mk.injEq] at e
     obtain ⟨rfl, rfl⟩ := e
     have ht := okW_touch hv hc h.pr
     refine ⟨fun q hq => ?_, ?_, h.pr, ?_, by dsimp only at hb ⊢; omega, by dsimp only at hb ⊢; omega, h.m, h.kr.add ht.1, h.kw.add ht.2, h.g⟩
     · rcases List.mem_append.1 hq with hq | hq
       · exact h.cs q hq
       · rw [List.mem_singleton] at hq; rw [hq]; exact hc
     · simp only [List.length_append, List.length_cons, List.length_nil]; omega
     · simp only [List.length_append, List.length_cons, List.length_nil]; omega
 · rw [askV_off hs] at e
   cases e
   exact h.mono (by omega) (Nat.le_refl _)
theorem tInv.mark {i j : Nat} {t z : TD} (h : tInv i j t) (e : z = t.mark.1) : tInv i (j + 1) z := by
 unfold TD.mark at e
 have hm := h.m
 split at e
 · subst e
   exact ⟨h.cs, h.n, h.pr, h.a, h.r, h.w, by simp only [List.length_append, List.length_cons, List.length_nil]; omega, h.kr, h.kw, h.g⟩
 · subst e
   exact h.mono (Nat.le_refl _) (by omega)
theorem grow6 {i : Nat} (h : i ≤ 4) : gro 10935 i ≤ 2800000 := Nat.le_trans (gro_le 10935 h) (by decide)
theorem growT6 {i : Nat} (h : i ≤ 4) : groT 10935 0 i ≤ 20000000 := Nat.le_trans (groT_le 10935 0 h) (by decide)
attribute [local irreducible] JL JC JQ JO LO PO JA JX Ct

theorem D_span03 (qb : Nat) (qa : Option Addr) (qc : Nat) (ql : Str) (qp : Nat) (qs : Int) (hql : ql.length ≤ 1048577) (hqp : qp ≤ ql.length)  :
   Ct Tryz.prog 336 [.pointer (some ⟨qb, 0, none⟩)] [cb qb qa qc ql qp qs] (fun w => seesC w qa qc ql [cb qb qa qc ql qp qs]) (fun v A' => ∃ qp' qs' r0, qp' ≤ ql.length ∧ (r0.length ≤ 64) ∧ v = str r0 ∧ A' = [cb qb qa qc ql qp' qs']) := by
 refine Ct.intro Tryz.func336 rfl Tryz.ntmps336 (lb rfl) fun w0 hpre => ?_
 have hs_qa : Sees w0 _ _ _ _ := hpre.1
 refine go ?_
 refine jF rfl (jR (ps := [(0, str [97]), (1, str [98]), (2, str [110, 47, 120]), (3, str [110, 47, 121]), (4, str [110, 47, 121, 121]), (5, str [110, 47, 42]), (6, str [110, 47, 121, 42]), (7, str [105, 47, 49, 47, 42]), (8, str [105, 47, 49, 47, 115]), (9, str [105, 47, 42]), (10, str [42]), (11, str [105, 47, 49, 50, 47, 115])]) (cur := #[str [97], str [98], str [110, 47, 120], str [110, 47, 121], str [110, 47, 121, 121], str [110, 47, 42], str [110, 47, 121, 42], str [105, 47, 49, 47, 42], str [105, 47, 49, 47, 115], str [105, 47, 42], str [42], str [105, 47, 49, 50, 47, 115]]) kI kM kV rfl (by kernel_rfl) (by decide) (by decide)) ?_
 rintro _ _ ⟨a_1, rfl, rfl⟩
 refine jA [1, 0] (D_pick qb qa qc ql qp qs a_1 12 ([[97], [98], [110, 47, 120], [110, 47, 121], [110, 47, 121, 121], [110, 47, 42], [110, 47, 121, 42], [105, 47, 49, 47, 42], [105, 47, 49, 47, 115], [105, 47, 42], [42], [105, 47, 49, 50, 47, 115]] : List Str) (by omega) (by omega) (by simp) (by simp)) (hpre := fun w hw => ⟨hw.seeOut_ hs_qa (hpre.2), hw.apart hs_qa (hpre.2) (by simp)⟩) ?_
 rintro _ _ ⟨qp_2, qs_3, u_5, fq_4, f_6, rfl, rfl⟩
 have hlu_5 : u_5.length ≤ 64 := by have hx_ := f_6; simp only [List.mem_cons, List.not_mem_nil, or_false] at hx_; rcases hx_ with hx_ | hx_ | hx_ | hx_ | hx_ | hx_ | hx_ | hx_ | hx_ | hx_ | hx_ | hx_ <;> first | (rw [hx_]; decide) | (rw [hx_]; omega)
 refine go ?_
 refine jE (.inl rfl) rfl (jC (v := str u_5) rfl) (List.Sublist.refl _) ?_
 exact ⟨qp_2, qs_3, u_5, (by omega), (by first | omega | (simp only [LE]; omega)), rfl, rfl⟩

theorem D_list03 (qb : Nat) (qa : Option Addr) (qc : Nat) (ql : Str) (qp : Nat) (qs : Int) (hql : ql.length ≤ 1048577) (hqp : qp ≤ ql.length)  :
   Ct Tryz.prog 261 [.pointer (some ⟨qb, 0, none⟩)] [cb qb qa qc ql qp qs] (fun w => seesC w qa qc ql [cb qb qa qc ql qp qs]) (fun v A' => ∃ qp' qs' r0a r0c r0, qp' ≤ ql.length ∧ (r0.length ≤ 4 ∧ okW r0) ∧ v = .slice r0a r0.length r0c ∧ A' = cb qb qa qc ql qp' qs' :: [rS r0a r0c r0]) := by
 refine Ct.intro Tryz.func261 rfl Tryz.ntmps261 (lb rfl) fun w0 hpre => ?_
 have hs_qa : Sees w0 _ _ _ _ := hpre.1
 refine go ?_
 refine jF rfl (jR (ps := []) (cur := #[]) kI kM kV rfl (by kernel_rfl) (by decide) (by decide)) ?_
 rintro _ _ ⟨a_1, rfl, rfl⟩
 refine go ?_
 refine jL (fun k_ e_ L_ => ∃ i_ : Nat, ∃ p_q : Nat, ∃ s_q : Int, ∃ o_a : Option Addr, ∃ o_c : Nat, ∃ o_ : List Str, (p_q ≤ ql.length) ∧ (i_ ≤ 4) ∧ (o_.length ≤ i_) ∧ (okW o_) ∧ EL e_ [(0, .pointer (some ⟨qb, 0, none⟩)), (2, .slice none 0 0), (3, .slice o_a o_.length o_c), (4, nv i_)] ∧ L_ = [rS o_a o_c o_, cb qb qa qc ql p_q s_q] ∧ k_ = 5 - i_) _ ⟨0, qp, qs, a_1, 0, ([] : List Str), (by omega), (by omega), (Nat.zero_le _), okW.nil, EL.go, rfl, rfl⟩ ?_
 rintro _ _ _ ⟨i_, p_q, s_q, o_a, o_c, o_, hpq_, hi, ho, how, ⟨_, rfl⟩, rfl, rfl⟩
 refine go ?_
 refine jA [1] (D_below qb qa qc ql p_q s_q (by omega) (by omega) 4 (by omega)) (hpre := fun w hw => ⟨hw.seeOut_ hs_qa (hpre.2), hw.apart hs_qa (hpre.2) (by simp)⟩) ?_
 rintro _ _ ⟨qp_2, qs_3, n_5, fq_4, f_6, rfl, rfl⟩
 refine go ?_
 by_cases h_8 : ((i_ : Nat) : Int) < ((n_5 : Nat) : Int)
 · refine go ?_
   refine jA [0] (D_span03 qb qa qc ql qp_2 qs_3 (by omega) (by omega)) (hpre := fun w hw => ⟨hw.seeOut_ hs_qa (hpre.2), hw.apart hs_qa (hpre.2) (by simp)⟩) ?_
   rintro _ _ ⟨qp_9, qs_10, u_12, fq_11, f_13, rfl, rfl⟩
   refine jA [] (C_sAddSpan o_a o_c o_ u_12 (by omega)) (hpre := fun w hw => hw.see (i := 1) rfl) ?_
   rintro _ _ ⟨a_15, c_16, rfl, rfl⟩
   refine go ?_
   exact jP [0, 0] ⟨(i_ + 1), qp_9, qs_10, a_15, c_16, (addSpan o_ u_12), (by omega), (by omega), (by have h_ := addSpan_len o_ u_12; omega), (okW.one how (by omega)), EL.go, rfl, rfl⟩
 refine go ?_
 refine jE (.inl rfl) rfl (jC (v := .slice o_a o_.length o_c) rfl) (List.Sublist.refl _) ?_
 exact ⟨qp_2, qs_3, o_a, o_c, o_, (by omega), ⟨by omega, how⟩, rfl, rfl⟩

theorem D_touch03 (qb : Nat) (qa : Option Addr) (qc : Nat) (ql : Str) (qp : Nat) (qs : Int) (hql : ql.length ≤ 1048577) (hqp : qp ≤ ql.length)  :
   Ct Tryz.prog 140 [.pointer (some ⟨qb, 0, none⟩)] [cb qb qa qc ql qp qs] (fun w => seesC w qa qc ql [cb qb qa qc ql qp qs]) (fun v A' => ∃ qp' qs' r0ra r0rc r0r r0wa r0wc r0w, qp' ≤ ql.length ∧ (r0r.length ≤ 4 ∧ r0w.length ≤ 4 ∧ okW r0r ∧ okW r0w) ∧ v = .agg #[.slice r0ra r0r.length r0rc, .slice r0wa r0w.length r0wc] ∧ A' = cb qb qa qc ql qp' qs' :: rS r0ra r0rc r0r :: [rS r0wa r0wc r0w]) := by
 refine Ct.intro Tryz.func140 rfl Tryz.ntmps140 (lb rfl) fun w0 hpre => ?_
 have hs_qa : Sees w0 _ _ _ _ := hpre.1
 refine go ?_
 refine jG [.slice none 0 0, .slice none 0 0] fun b_1 => ?_
 refine go ?_
 refine jA [1] (D_list03 qb qa qc ql qp qs (by omega) (by omega)) (hpre := fun w hw => ⟨hw.seeOut_ hs_qa (hpre.2), hw.apart hs_qa (hpre.2) (by simp)⟩) ?_
 rintro _ _ ⟨qp_2, qs_3, l_5a, l_5c, l_5, fq_4, f_6, rfl, rfl⟩
 refine jK (je (ps := [(0, .slice l_5a l_5.length l_5c)]) (cs := [.slice l_5a l_5.length l_5c, .slice none 0 0]) rfl (by kernel_rfl)) ?_
 refine jG [.slice none 0 0, .slice none 0 0] fun b_8 => ?_
 refine jD 0 [.slice l_5a l_5.length l_5c, .slice none 0 0] ?_
 refine go ?_
 refine JC.nilRow 9 1 ?_
 refine go ?_
 refine jL (fun k_ e_ L_ => ∃ i_ : Nat, ∃ p_q : Nat, ∃ s_q : Int, ∃ w_a : Option Addr, ∃ w_c : Nat, ∃ w_ : List Str, (p_q ≤ ql.length) ∧ (i_ ≤ 3) ∧ (w_.length ≤ i_) ∧ (okW w_) ∧ EL e_ [(0, .pointer (some ⟨qb, 0, none⟩)), (2, .pointer (some ⟨b_1, 0, none⟩)), (3, .pointer (some ⟨b_8, 0, none⟩)), (4, nv i_)] ∧ L_ = [rS w_a w_c w_, bk b_8 32 [.slice l_5a l_5.length l_5c, .slice w_a w_.length w_c], cb qb qa qc ql p_q s_q, rS l_5a l_5c l_5, bk b_1 32 [.slice none 0 0, .slice none 0 0]] ∧ k_ = 4 - i_) _ ⟨0, qp_2, qs_3, none, 0, ([] : List Str), (by omega), (by omega), (Nat.zero_le _), okW.nil, EL.go, rfl, rfl⟩ ?_
 rintro _ _ _ ⟨i_, p_q, s_q, w_a, w_c, w_, hpq_, hi, hw_, how, ⟨_, rfl⟩, rfl, rfl⟩
 refine go ?_
 refine jA [2] (D_below qb qa qc ql p_q s_q (by omega) (by omega) 3 (by omega)) (hpre := fun w hw => ⟨hw.seeOut_ hs_qa (hpre.2), hw.apart hs_qa (hpre.2) (by simp)⟩) ?_
 rintro _ _ ⟨qp_9, qs_10, n_12, fq_11, f_13, rfl, rfl⟩
 refine go ?_
 by_cases h_15 : ((i_ : Nat) : Int) < ((n_12 : Nat) : Int)
 · refine go ?_
   refine jH [2] 4 ?_
   refine go ?_
   refine jB (i := 3) ?_
   refine jI [0] (D_key qb qa qc ql qp_9 qs_10 (by omega) (by omega)) (hpre := fun w hw => ⟨hw.seeOut_ hs_qa (hpre.2), hw.apart hs_qa (hpre.2) (by simp)⟩) ?_
   rintro _ _ ⟨qp_22, qs_23, u_25, fq_24, f_26, rfl, rfl⟩
   refine jB (i := 4) ?_
   refine kE [] (C_sAddSpan w_a w_c w_ u_25 (by omega)) (hpre := fun w hw => hw.see (i := 1) rfl) ?_
   rintro _ _ ⟨a_30, c_31, rfl, rfl⟩
   refine go ?_
   refine jB (i := 6) ?_
   refine jS 3 [.slice l_5a l_5.length l_5c, .slice a_30 (addSpan w_ u_25).length c_31] ?_
   refine go ?_
   exact jP [0, 2, 0, 1, 1] ⟨(i_ + 1), qp_22, qs_23, a_30, c_31, (addSpan w_ u_25), (by omega), (by omega), (by have h_ := addSpan_len w_ u_25; omega), (okW.one how (by omega)), EL.go, rfl, rfl⟩
 refine go ?_
 refine jD 4 [.slice l_5a l_5.length l_5c, .slice w_a w_.length w_c] ?_
 refine go ?_
 exact jJ [0, 2, 0] ⟨qp_9, qs_10, l_5a, l_5c, l_5, w_a, w_c, w_, (by omega), ⟨by omega, by omega, f_6.2, how⟩, rfl, rfl⟩

set_option maxRecDepth 4000 in
theorem D_tx17 (qb : Nat) (qa : Option Addr) (qc : Nat) (ql : Str) (qp : Nat) (qs : Int) (hql : ql.length ≤ 1048576) (hqp : qp ≤ ql.length) (sa : Option Addr) (sc : Nat) (s : List Cell) (hO : okC' 10935 1048576 s) (ident : Int) (hid : 0 ≤ ident ∧ ident ≤ 9) :
   Ct Tryz.prog 334 [.pointer (some ⟨qb, 0, none⟩), .slice sa s.length sc, .int .i64 ident] [cb qb qa qc ql qp qs] (fun w => seesC w qa qc ql [cb qb qa qc ql qp qs] ∧ (Sees w (.slice sa s.length sc) 2 s.length (s.flatMap encC) ∧ ∀ b, (Value.slice sa s.length sc).ownBlock = some b → b ≠ qb)) (fun v A' => ∃ qp' qs' z, qp' ≤ ql.length ∧ tInv 4 4 z.t ∧ v = .agg #[.int .i64 z.t.id, .int .i64 z.t.age, .int .i64 z.t.proc, .int .i64 z.t.began, .slice z.x.a0 z.t.calls.length z.x.c0, .slice z.x.a1 z.t.ans.length z.x.c1, .slice z.x.a2 z.t.rd.length z.x.c2, .slice z.x.a3 z.t.wr.length z.x.c3, .slice z.x.a4 z.t.marks.length z.x.c4, .int .i64 z.t.state] ∧ A' = [cb qb qa qc ql qp' qs', .rows (rdsX z)]) := by
 refine Ct.intro Tryz.func334 rfl Tryz.ntmps334 (lb rfl) fun w0 hpre => ?_
 have hs_qa : Sees w0 _ _ _ _ := hpre.1.1
 have hs_sa : Sees w0 _ _ _ _ := hpre.2.1
 have hO1 := hO.1
 refine go ?_
 refine jG xzc fun b_1 => ?_
 refine go ?_
 refine jA [1] (D_below qb qa qc ql qp qs (by omega) (by omega) 2 (by omega)) (hpre := fun w hw => ⟨hw.seeOut_ hs_qa (hpre.1.2), hw.apart hs_qa (hpre.1.2) (by simp)⟩) ?_
 rintro _ _ ⟨qp_2, qs_3, n_5, fq_4, f_6, rfl, rfl⟩
 refine go ?_
 refine jA [] (Y_sTxNew ident ident ((1 + n_5 : Nat) : Int)) ?_
 rintro _ _ ⟨z_8, hz_9, rfl, rfl⟩
 refine jG xzc fun b_10 => ?_
 refine jD 0 (xc z_8) ?_
 refine go ?_
 refine jL (fun k_ e_ L_ => ∃ i_ : Nat, ∃ p_q : Nat, ∃ s_q : Int, ∃ z : TX, (i_ ≤ 4) ∧ (p_q ≤ ql.length) ∧ (tInv i_ i_ z.t) ∧ EL e_ [(0, .pointer (some ⟨qb, 0, none⟩)), (1, .slice sa s.length sc), (6, .pointer (some ⟨b_1, 0, none⟩)), (7, .pointer (some ⟨b_10, 0, none⟩)), (8, nv i_)] ∧ L_ = [bk b_10 35 (xc z), Res.rows (rdsX z), cb qb qa qc ql p_q s_q, bk b_1 35 xzc] ∧ k_ = 5 - i_) _ ⟨0, qp_2, qs_3, z_8, by omega, (by omega), (by rw [hz_9]; exact tInv.new (by omega) (by omega)), EL.go, rfl, rfl⟩ ?_
 rintro _ _ _ ⟨i_, p_q, s_q, z, hi, hpq_, hI, ⟨_, rfl⟩, rfl, rfl⟩
 have hIn := hI.n
 refine go ?_
 refine jA [2] (D_below qb qa qc ql p_q s_q (by omega) (by omega) 5 (by omega)) (hpre := fun w hw => ⟨hw.seeOut_ hs_qa (hpre.1.2), hw.apart hs_qa (hpre.1.2) (by simp)⟩) ?_
 rintro _ _ ⟨qp_11, qs_12, n_14, fq_13, f_15, rfl, rfl⟩
 refine go ?_
 by_cases h_17 : ((i_ : Nat) : Int) < ((n_14 : Nat) : Int)
 · refine go ?_
   refine jH [1] 8 ?_
   refine go ?_
   refine jB (i := 3) ?_
   refine ja rfl rfl (jO [0] Tryz.call202 rfl (D_call13 qb qa qc ql qp_11 qs_12 (by omega) (by omega)) rfl (fun w hw => ⟨hw.seeOut_ hs_qa (hpre.1.2), hw.apart hs_qa (hpre.1.2) (by simp)⟩)) ?_
   rintro _ _ ⟨_, ⟨qp_24, qs_25, C_27, fq_26, f_28, rfl, rfl⟩, rfl⟩
   obtain ⟨f_281, f_282, f_283, f_284, f_285, f_286⟩ := id f_28
   refine ⟨all_go, ?_⟩
   refine jB (i := 4) ?_
   refine jI [] (Y_sTxAsk z (hI.lim (by omega) (by omega)) sa sc s 10935 hO (by omega) (hI.okT (by omega)) (askG (fun h_ => grow6 (by omega))) (askT (fun h_ => growT6 (by omega))) 20000000 (askB (fun h_ => grow6 (by omega))) C_27 f_28) (hpre := fun w hw => ⟨hw.seeOut_ hs_sa (notin_bk hpre.2.2), hw.seeRows 2 rfl⟩) ?_
   rintro _ _ ⟨z_35, A_36, e_37, ha_38, hb_39, rfl, rfl⟩
   refine go ?_
   refine jB (i := 8) ?_
   refine jS 2 (xc z_35) ?_
   refine go ?_
   have hJ := hI.ask f_28 (keys_viewL hO _) e_37 hb_39
   refine go ?_
   refine jA [1] (D_once qb qa qc ql qp_24 qs_25 (by omega) (by omega) 5 (by omega)) (hpre := fun w hw => ⟨hw.seeOut_ hs_qa (hpre.1.2), hw.apart hs_qa (hpre.1.2) (by simp)⟩) ?_
   rintro _ _ ⟨qp_40, qs_41, b_43, fq_42, rfl, rfl⟩
   refine go ?_
   rcases Bool.eq_false_or_eq_true (b_43) with h_45 | h_45
   · refine go ?_
     refine jA [] (Y_specTxMark z_35 ((hJ.lim (by omega) (by omega)).mono (show 500000000 ≤ 1000000000 by decide)) ) (hpre := fun w hw => hw.seeRows 1 rfl) ?_
     rintro _ _ ⟨z_46, hz_47, rfl, rfl⟩
     refine go ?_
     refine jD 3 (xc z_46) ?_
     refine go ?_
     exact jP [3, 0, 0, 2] ⟨i_ + 1, qp_40, qs_41, z_46, by omega, (by omega), (hJ.mark hz_47), EL.go, rfl, rfl⟩
   refine go ?_
   exact jP [2, 1, 0, 1] ⟨i_ + 1, qp_40, qs_41, z_35, by omega, (by omega), (hJ.mono (Nat.le_refl _) (by omega)), EL.go, rfl, rfl⟩
 refine go ?_
 refine jD 3 (xc z) ?_
 refine go ?_
 exact jJ [0, 1] ⟨qp_11, qs_12, z, by omega, hI.mono (by omega) (by omega), rfl, rfl⟩

set_option maxRecDepth 4000 in
theorem D_any17 (qb : Nat) (qa : Option Addr) (qc : Nat) (ql : Str) (qp : Nat) (qs : Int) (hql : ql.length ≤ 1048576) (hqp : qp ≤ ql.length) (sa : Option Addr) (sc : Nat) (s : List Cell) (hO : okC' 10935 1048576 s) :
   Ct Tryz.prog 256 [.pointer (some ⟨qb, 0, none⟩), .slice sa s.length sc] [cb qb qa qc ql qp qs] (fun w => seesC w qa qc ql [cb qb qa qc ql qp qs] ∧ (Sees w (.slice sa s.length sc) 2 s.length (s.flatMap encC) ∧ ∀ b, (Value.slice sa s.length sc).ownBlock = some b → b ≠ qb)) (fun v A' => ∃ qp' qs' z, qp' ≤ ql.length ∧ tInv 12 5 z.t ∧ v = .agg #[.int .i64 z.t.id, .int .i64 z.t.age, .int .i64 z.t.proc, .int .i64 z.t.began, .slice z.x.a0 z.t.calls.length z.x.c0, .slice z.x.a1 z.t.ans.length z.x.c1, .slice z.x.a2 z.t.rd.length z.x.c2, .slice z.x.a3 z.t.wr.length z.x.c3, .slice z.x.a4 z.t.marks.length z.x.c4, .int .i64 z.t.state] ∧ A' = [cb qb qa qc ql qp' qs', .rows (rdsX z)]) := by
 refine Ct.intro Tryz.func256 rfl Tryz.ntmps256 (lb rfl) fun w0 hpre => ?_
 have hs_qa : Sees w0 _ _ _ _ := hpre.1.1
 have hs_sa : Sees w0 _ _ _ _ := hpre.2.1
 have hO1 := hO.1
 refine go ?_
 refine jG xzc fun b_1 => ?_
 refine go ?_
 refine jA [1] (D_below qb qa qc ql qp qs (by omega) (by omega) 3 (by omega)) (hpre := fun w hw => ⟨hw.seeOut_ hs_qa (hpre.1.2), hw.apart hs_qa (hpre.1.2) (by simp)⟩) ?_
 rintro _ _ ⟨qp_2, qs_3, n_5, fq_4, f_6, rfl, rfl⟩
 refine go ?_
 refine jA [0] (D_tx17 qb qa qc ql qp_2 qs_3 (by omega) (by omega) sa sc s hO ((1 + n_5 : Nat) : Int) (by omega)) (hpre := fun w hw => ⟨⟨hw.seeOut_ hs_qa (hpre.1.2), hw.apart hs_qa (hpre.1.2) (by simp)⟩, hw.seeOut_ hs_sa (notin_bk hpre.2.2), hpre.2.2⟩) ?_
 rintro _ _ ⟨qp_8, qs_9, z_11, fq_10, hd_12, rfl, rfl⟩
 refine jG xzc fun b_13 => ?_
 refine jD 0 (xc z_11) ?_
 refine jb <| jT <| jc <| jc <| JC.ghost (L' := [Res.row (.slice z_11.x.a0 z_11.t.calls.length z_11.x.c0) 43 6 z_11.t.calls.length (z_11.t.calls.flatMap encK), Res.row (.slice z_11.x.a1 z_11.t.ans.length z_11.x.c1) 39 3 z_11.t.ans.length (z_11.t.ans.flatMap encA), rS z_11.x.a2 z_11.x.c2 z_11.t.rd, rS z_11.x.a3 z_11.x.c3 z_11.t.wr, rI z_11.x.a4 z_11.x.c4 z_11.t.marks, bk b_13 35 (xc z_11), cb qb qa qc ql qp_8 qs_9, bk b_1 35 xzc]) (fun w hw => hw.openR 2 rfl) ?_
 have hA := hd_12
 obtain ⟨hAc, hAn, hAp, hAa, hAr, hAw, hAm, hAkr, hAkw, hAg⟩ := id hA
 refine go ?_
 refine jA [6] (D_below qb qa qc ql qp_8 qs_9 (by omega) (by omega) 12 (by omega)) (hpre := fun w hw => ⟨hw.seeOut_ hs_qa (hpre.1.2), hw.apart hs_qa (hpre.1.2) (by simp)⟩) ?_
 rintro _ _ ⟨qp_14, qs_15, n_17, fq_16, f_18, rfl, rfl⟩
 refine go ?_
 by_cases h_20 : ((n_17 : Nat) : Int) = 0
 · refine go ?_
   refine jA [0] (D_below qb qa qc ql qp_14 qs_15 (by omega) (by omega) 5 (by omega)) (hpre := fun w hw => ⟨hw.seeOut_ hs_qa (hpre.1.2), hw.apart hs_qa (hpre.1.2) (by simp)⟩) ?_
   rintro _ _ ⟨qp_21, qs_22, n_24, fq_23, f_25, rfl, rfl⟩
   refine go ?_
   refine jD 6 [iv z_11.t.id, iv z_11.t.age, iv z_11.t.proc, iv z_11.t.began, .slice z_11.x.a0 z_11.t.calls.length z_11.x.c0, .slice z_11.x.a1 z_11.t.ans.length z_11.x.c1, .slice z_11.x.a2 z_11.t.rd.length z_11.x.c2, .slice z_11.x.a3 z_11.t.wr.length z_11.x.c3, .slice z_11.x.a4 z_11.t.marks.length z_11.x.c4, nv n_24] ?_
   refine go ?_
   refine jD 7 [iv z_11.t.id, iv z_11.t.age, iv z_11.t.proc, iv z_11.t.began, .slice z_11.x.a0 z_11.t.calls.length z_11.x.c0, .slice z_11.x.a1 z_11.t.ans.length z_11.x.c1, .slice z_11.x.a2 z_11.t.rd.length z_11.x.c2, .slice z_11.x.a3 z_11.t.wr.length z_11.x.c3, .slice z_11.x.a4 z_11.t.marks.length z_11.x.c4, nv n_24] ?_
   refine jb <| jT <| jz <| cloJ (rdsX (⟨⟨z_11.x.a0, z_11.x.c0, z_11.x.a1, z_11.x.c1, z_11.x.a2, z_11.x.c2, z_11.x.a3, z_11.x.c3, z_11.x.a4, z_11.x.c4⟩, ⟨z_11.t.id, z_11.t.age, z_11.t.proc, z_11.t.began, z_11.t.calls, z_11.t.ans, z_11.t.rd, z_11.t.wr, z_11.t.marks, ((n_24 : Nat) : Int)⟩⟩ : TX)) [1, 1, 1, 1, 1] ?_
   exact jJ [1, 0] ⟨qp_21, qs_22, (⟨⟨z_11.x.a0, z_11.x.c0, z_11.x.a1, z_11.x.c1, z_11.x.a2, z_11.x.c2, z_11.x.a3, z_11.x.c3, z_11.x.a4, z_11.x.c4⟩, ⟨z_11.t.id, z_11.t.age, z_11.t.proc, z_11.t.began, z_11.t.calls, z_11.t.ans, z_11.t.rd, z_11.t.wr, z_11.t.marks, ((n_24 : Nat) : Int)⟩⟩ : TX), by omega, ⟨hAc, (by dsimp only; (try simp only [List.length_set, List.length_append, List.length_cons, List.length_nil]); omega), hAp, (by dsimp only; (try simp only [List.length_set, List.length_append, List.length_cons, List.length_nil]); omega), (by dsimp only; (try simp only [List.length_set, List.length_append, List.length_cons, List.length_nil]); omega), (by dsimp only; (try simp only [List.length_set, List.length_append, List.length_cons, List.length_nil]); omega), (by dsimp only; (try simp only [List.length_set, List.length_append, List.length_cons, List.length_nil]); omega), hAkr, hAkw, hAg⟩, rfl, rfl⟩
 refine go ?_
 by_cases h_27 : ((n_17 : Nat) : Int) = 1
 · refine go ?_
   refine jL (fun k_ e_ L_ => ∃ n_ : Nat, ∃ p_q : Nat, ∃ s_q : Int, ∃ o_a : Option Addr, ∃ o_c : Nat, ∃ o_ : List CL, (p_q ≤ ql.length) ∧ (n_ ≤ o_.length) ∧ (o_.length ≤ 12) ∧ (∀ c ∈ o_, c.ok 1048576) ∧ EL e_ [(0, .pointer (some ⟨qb, 0, none⟩)), (4, .pointer (some ⟨b_1, 0, none⟩)), (5, .pointer (some ⟨b_13, 0, none⟩))] ∧ L_ = [cb qb qa qc ql p_q s_q, Res.row (.slice o_a o_.length o_c) 43 6 o_.length (o_.flatMap encK), Res.row (.slice z_11.x.a1 z_11.t.ans.length z_11.x.c1) 39 3 z_11.t.ans.length (z_11.t.ans.flatMap encA), rS z_11.x.a2 z_11.x.c2 z_11.t.rd, rS z_11.x.a3 z_11.x.c3 z_11.t.wr, rI z_11.x.a4 z_11.x.c4 z_11.t.marks, bk b_13 35 [iv z_11.t.id, iv z_11.t.age, iv z_11.t.proc, iv z_11.t.began, .slice o_a o_.length o_c, .slice z_11.x.a1 z_11.t.ans.length z_11.x.c1, .slice z_11.x.a2 z_11.t.rd.length z_11.x.c2, .slice z_11.x.a3 z_11.t.wr.length z_11.x.c3, .slice z_11.x.a4 z_11.t.marks.length z_11.x.c4, iv z_11.t.state], bk b_1 35 xzc] ∧ k_ = 13 - n_) _ ⟨0, qp_14, qs_15, z_11.x.a0, z_11.x.c0, z_11.t.calls, (by omega), (Nat.zero_le _), (by omega), hAc, EL.go, rfl, rfl⟩ ?_
   rintro _ _ _ ⟨n_, p_q, s_q, o_a, o_c, o_, hpq_, hog, hol, hoc, ⟨_, rfl⟩, rfl, rfl⟩
   refine go ?_
   refine jH [6] 1000 ?_
   refine go ?_
   refine jB (i := 4) ?_
   refine jI [0] (D_below qb qa qc ql p_q s_q (by omega) (by omega) 2 (by omega)) (hpre := fun w hw => ⟨hw.seeOut_ hs_qa (hpre.1.2), hw.apart hs_qa (hpre.1.2) (by simp)⟩) ?_
   rintro _ _ ⟨qp_34, qs_35, n_37, fq_36, f_38, rfl, rfl⟩
   refine go ?_
   by_cases h_40 : ((o_.length : Nat) : Int) < ((11 + n_37 : Nat) : Int)
   · refine go ?_
     refine jK (je (ps := [(0, iv 5)]) (cs := [iv 5, str [], str [], iv 0, iv 0, str []]) rfl (by kernel_rfl)) ?_
     refine jF rfl (jR (ps := [(0, .agg #[iv 5, str [], str [], iv 0, iv 0, str []])]) (cur := #[iv 5, str [], str [], iv 0, iv 0, str []]) kf kX Tryz.zeroValue43 rfl (by kernel_rfl) (by decide) (by decide)) ?_
     rintro _ _ ⟨a_41, rfl, rfl⟩
     refine jF rfl (jX 2 (q := 1) (news := ([(⟨5, [], [], 0, 0, []⟩ : CL)] : List CL).flatMap encK) (n' := (o_ ++ ([(⟨5, [], [], 0, 0, []⟩ : CL)] : List CL)).length) (cs' := (o_ ++ ([(⟨5, [], [], 0, 0, []⟩ : CL)] : List CL)).flatMap encK) rfl kf kf Tryz.typeInfo43 rfl (by' := 72) rfl rfl rfl rfl rfl (fun w hw => Src.sees (hw.see (i := 0) rfl) (oneK _)) (by (try simp only [LE]); omega) (by (try simp only [LE]); omega) (by simp only [List.length_append, List.length_take, List.length_drop, List.length_cons, List.length_nil] <;> first | rfl | omega) (by simp only [List.flatMap_append])) ?_
     rintro _ _ ⟨a_42, c_43, rfl, rfl⟩
     refine go ?_
     refine jD 7 [iv z_11.t.id, iv z_11.t.age, iv z_11.t.proc, iv z_11.t.began, .slice a_42 (o_ ++ ([(⟨5, [], [], 0, 0, []⟩ : CL)] : List CL)).length c_43, .slice z_11.x.a1 z_11.t.ans.length z_11.x.c1, .slice z_11.x.a2 z_11.t.rd.length z_11.x.c2, .slice z_11.x.a3 z_11.t.wr.length z_11.x.c3, .slice z_11.x.a4 z_11.t.marks.length z_11.x.c4, iv z_11.t.state] ?_
     refine go ?_
     exact jP [1, 1, 1, 1, 1, 1, 1, 1] ⟨(n_ + 1), qp_34, qs_35, a_42, c_43, (o_ ++ ([(⟨5, [], [], 0, 0, []⟩ : CL)] : List CL)), (by omega), (by first | omega | (simp only [List.length_append, List.length_cons, List.length_nil, List.length_set]; omega)), (by first | omega | (simp only [List.length_append, List.length_cons, List.length_nil, List.length_set]; omega)), (fun c hc => by rcases List.mem_append.1 hc with hc | hc; exact hoc c hc; rw [List.mem_singleton] at hc; subst hc; exact ⟨by dsimp only; omega, by dsimp only; omega, by dsimp only; omega, Nat.zero_le _, Nat.zero_le _, Nat.zero_le _⟩), EL.go, rfl, rfl⟩
   refine go ?_
   refine jD 7 [iv z_11.t.id, iv z_11.t.age, iv z_11.t.proc, iv z_11.t.began, .slice o_a o_.length o_c, .slice z_11.x.a1 z_11.t.ans.length z_11.x.c1, .slice z_11.x.a2 z_11.t.rd.length z_11.x.c2, .slice z_11.x.a3 z_11.t.wr.length z_11.x.c3, .slice z_11.x.a4 z_11.t.marks.length z_11.x.c4, iv z_11.t.state] ?_
   refine jb <| jT <| jz <| cloJ (rdsX (⟨⟨o_a, o_c, z_11.x.a1, z_11.x.c1, z_11.x.a2, z_11.x.c2, z_11.x.a3, z_11.x.c3, z_11.x.a4, z_11.x.c4⟩, ⟨z_11.t.id, z_11.t.age, z_11.t.proc, z_11.t.began, o_, z_11.t.ans, z_11.t.rd, z_11.t.wr, z_11.t.marks, z_11.t.state⟩⟩ : TX)) [1, 1, 1, 1, 1] ?_
   exact jJ [1, 0] ⟨qp_34, qs_35, (⟨⟨o_a, o_c, z_11.x.a1, z_11.x.c1, z_11.x.a2, z_11.x.c2, z_11.x.a3, z_11.x.c3, z_11.x.a4, z_11.x.c4⟩, ⟨z_11.t.id, z_11.t.age, z_11.t.proc, z_11.t.began, o_, z_11.t.ans, z_11.t.rd, z_11.t.wr, z_11.t.marks, z_11.t.state⟩⟩ : TX), by omega, ⟨hoc, (by dsimp only; (try simp only [List.length_set, List.length_append, List.length_cons, List.length_nil]); omega), hAp, (by dsimp only; (try simp only [List.length_set, List.length_append, List.length_cons, List.length_nil]); omega), (by dsimp only; (try simp only [List.length_set, List.length_append, List.length_cons, List.length_nil]); omega), (by dsimp only; (try simp only [List.length_set, List.length_append, List.length_cons, List.length_nil]); omega), (by dsimp only; (try simp only [List.length_set, List.length_append, List.length_cons, List.length_nil]); omega), hAkr, hAkw, hAg⟩, rfl, rfl⟩
 refine go ?_
 by_cases h_44 : ((n_17 : Nat) : Int) = 2
 · refine go ?_
   refine jA [0] (D_touch03 qb qa qc ql qp_14 qs_15 (by omega) (by omega)) (hpre := fun w hw => ⟨hw.seeOut_ hs_qa (hpre.1.2), hw.apart hs_qa (hpre.1.2) (by simp)⟩) ?_
   rintro _ _ ⟨qp_45, qs_46, T_48ra, T_48rc, T_48r, T_48wa, T_48wc, T_48w, fq_47, f_49, rfl, rfl⟩
   refine go ?_
   refine jD 8 [iv z_11.t.id, iv z_11.t.age, iv z_11.t.proc, iv z_11.t.began, .slice z_11.x.a0 z_11.t.calls.length z_11.x.c0, .slice z_11.x.a1 z_11.t.ans.length z_11.x.c1, .slice T_48ra T_48r.length T_48rc, .slice T_48wa T_48w.length T_48wc, .slice z_11.x.a4 z_11.t.marks.length z_11.x.c4, iv z_11.t.state] ?_
   refine go ?_
   refine jD 9 [iv z_11.t.id, iv z_11.t.age, iv z_11.t.proc, iv z_11.t.began, .slice z_11.x.a0 z_11.t.calls.length z_11.x.c0, .slice z_11.x.a1 z_11.t.ans.length z_11.x.c1, .slice T_48ra T_48r.length T_48rc, .slice T_48wa T_48w.length T_48wc, .slice z_11.x.a4 z_11.t.marks.length z_11.x.c4, iv z_11.t.state] ?_
   refine jb <| jT <| jz <| cloJ (rdsX (⟨⟨z_11.x.a0, z_11.x.c0, z_11.x.a1, z_11.x.c1, T_48ra, T_48rc, T_48wa, T_48wc, z_11.x.a4, z_11.x.c4⟩, ⟨z_11.t.id, z_11.t.age, z_11.t.proc, z_11.t.began, z_11.t.calls, z_11.t.ans, T_48r, T_48w, z_11.t.marks, z_11.t.state⟩⟩ : TX)) [3, 3, 1, 1, 3] ?_
   exact jJ [1, 0] ⟨qp_45, qs_46, (⟨⟨z_11.x.a0, z_11.x.c0, z_11.x.a1, z_11.x.c1, T_48ra, T_48rc, T_48wa, T_48wc, z_11.x.a4, z_11.x.c4⟩, ⟨z_11.t.id, z_11.t.age, z_11.t.proc, z_11.t.began, z_11.t.calls, z_11.t.ans, T_48r, T_48w, z_11.t.marks, z_11.t.state⟩⟩ : TX), by omega, ⟨hAc, (by dsimp only; (try simp only [List.length_set, List.length_append, List.length_cons, List.length_nil]); omega), hAp, (by dsimp only; (try simp only [List.length_set, List.length_append, List.length_cons, List.length_nil]); omega), (by dsimp only; (try simp only [List.length_set, List.length_append, List.length_cons, List.length_nil]); omega), (by dsimp only; (try simp only [List.length_set, List.length_append, List.length_cons, List.length_nil]); omega), (by dsimp only; (try simp only [List.length_set, List.length_append, List.length_cons, List.length_nil]); omega), f_49.2.2.1, f_49.2.2.2, hAg⟩, rfl, rfl⟩
 refine go ?_
 by_cases h_51 : ((n_17 : Nat) : Int) = 3
 · refine go ?_
   refine jH [6] 6 ?_
   refine go ?_
   refine jB (i := 3) ?_
   refine jI [0] (D_below qb qa qc ql qp_14 qs_15 (by omega) (by omega) 20 (by omega)) (hpre := fun w hw => ⟨hw.seeOut_ hs_qa (hpre.1.2), hw.apart hs_qa (hpre.1.2) (by simp)⟩) ?_
   rintro _ _ ⟨qp_58, qs_59, n_61, fq_60, f_62, rfl, rfl⟩
   refine jd 4 rfl (jg (c := ((n_61 : Nat) : Int) - 5) rfl rfl (wr (by omega))) ?_
   refine jB (i := 5) ?_
   refine ja rfl rfl (jR (ps := [(0, iv (((n_61 : Nat) : Int) - 5))]) (cur := #[iv (((n_61 : Nat) : Int) - 5)]) kL kS kZ rfl (by kernel_rfl) (by decide) (by decide)) ?_
   rintro _ _ ⟨a_65, rfl, rfl⟩
   refine ⟨all_go, ?_⟩
   refine jB (i := 6) ?_
   refine JX.lt rfl (jX 6 (q := 1) (news := ([((n_61 : Nat) : Int) - 5] : List Int).map (Value.int .i64)) (n' := (z_11.t.marks ++ ([((n_61 : Nat) : Int) - 5] : List Int)).length) (cs' := (z_11.t.marks ++ ([((n_61 : Nat) : Int) - 5] : List Int)).map (Value.int .i64)) rfl kL kL kl rfl (by' := 8) rfl rfl rfl rfl rfl (fun w hw => Src.sees (hw.see (i := 0) rfl) (oneI _)) (by (try simp only [LE]); omega) (by (try simp only [LE]); omega) (by simp only [List.length_append, List.length_take, List.length_drop, List.length_cons, List.length_nil] <;> first | rfl | omega) (by simp only [List.map_append])) ?_
   rintro _ _ ⟨a_68, c_69, rfl, rfl⟩
   refine go ?_
   refine jB (i := 8) ?_
   refine jS 7 [iv z_11.t.id, iv z_11.t.age, iv z_11.t.proc, iv z_11.t.began, .slice z_11.x.a0 z_11.t.calls.length z_11.x.c0, .slice z_11.x.a1 z_11.t.ans.length z_11.x.c1, .slice z_11.x.a2 z_11.t.rd.length z_11.x.c2, .slice z_11.x.a3 z_11.t.wr.length z_11.x.c3, .slice a_68 ((z_11.t.marks ++ ([((n_61 : Nat) : Int) - 5] : List Int)).length) c_69, iv z_11.t.state] ?_
   refine go ?_
   refine jD 8 [iv z_11.t.id, iv z_11.t.age, iv z_11.t.proc, iv z_11.t.began, .slice z_11.x.a0 z_11.t.calls.length z_11.x.c0, .slice z_11.x.a1 z_11.t.ans.length z_11.x.c1, .slice z_11.x.a2 z_11.t.rd.length z_11.x.c2, .slice z_11.x.a3 z_11.t.wr.length z_11.x.c3, .slice a_68 ((z_11.t.marks ++ ([((n_61 : Nat) : Int) - 5] : List Int)).length) c_69, iv z_11.t.state] ?_
   refine jb <| jT <| jz <| cloJ (rdsX (⟨⟨z_11.x.a0, z_11.x.c0, z_11.x.a1, z_11.x.c1, z_11.x.a2, z_11.x.c2, z_11.x.a3, z_11.x.c3, a_68, c_69⟩, ⟨z_11.t.id, z_11.t.age, z_11.t.proc, z_11.t.began, z_11.t.calls, z_11.t.ans, z_11.t.rd, z_11.t.wr, (z_11.t.marks ++ ([((n_61 : Nat) : Int) - 5] : List Int)), z_11.t.state⟩⟩ : TX)) [2, 2, 2, 2, 2] ?_
   exact jJ [2, 0] ⟨qp_58, qs_59, (⟨⟨z_11.x.a0, z_11.x.c0, z_11.x.a1, z_11.x.c1, z_11.x.a2, z_11.x.c2, z_11.x.a3, z_11.x.c3, a_68, c_69⟩, ⟨z_11.t.id, z_11.t.age, z_11.t.proc, z_11.t.began, z_11.t.calls, z_11.t.ans, z_11.t.rd, z_11.t.wr, (z_11.t.marks ++ ([((n_61 : Nat) : Int) - 5] : List Int)), z_11.t.state⟩⟩ : TX), by omega, ⟨hAc, (by dsimp only; (try simp only [List.length_set, List.length_append, List.length_cons, List.length_nil]); omega), hAp, (by dsimp only; (try simp only [List.length_set, List.length_append, List.length_cons, List.length_nil]); omega), (by dsimp only; (try simp only [List.length_set, List.length_append, List.length_cons, List.length_nil]); omega), (by dsimp only; (try simp only [List.length_set, List.length_append, List.length_cons, List.length_nil]); omega), (by dsimp only; (try simp only [List.length_set, List.length_append, List.length_cons, List.length_nil]); omega), hAkr, hAkw, hAg⟩, rfl, rfl⟩
 refine go ?_
 by_cases h_70 : ((n_17 : Nat) : Int) = 4
 · refine go ?_
   by_cases h_71 : 0 < ((z_11.t.ans.length : Nat) : Int)
   · refine go ?_
     refine jo fun hst => ?_
     obtain ⟨hr_72, hr_72b, -⟩ := row_some 2 rfl (by omega) hst
     refine jK (PO.indexAddrV (i := 0) ke kY hr_72 hr_72b rfl rfl (by omega)) ?_
     refine go ?_
     refine jF rfl (jx 2 (vs := [iv 7]) (cs' := (z_11.t.ans.set 0 (⟨(z_11.t.ans.getD 0 a0_).code, 7, (z_11.t.ans.getD 0 a0_).text⟩ : AN)).flatMap encA) rfl rfl rfl rfl kS rfl rfl (by decide) (by rw [flat_length encA_len]; (try rw [List.length_set]); omega) (flat_set1 encA_len a0_ (f := 1) (y := (⟨(z_11.t.ans.getD 0 a0_).code, 7, (z_11.t.ans.getD 0 a0_).text⟩ : AN)) (by omega) (by decide) rfl)) ?_
     rintro _ _ rfl
     refine go ?_
     refine jD 7 (xc z_11) ?_
     refine jb <| jT <| jz ?_
     refine jw (L' := [cb qb qa qc ql qp_14 qs_15, Res.row (.slice z_11.x.a0 z_11.t.calls.length z_11.x.c0) 43 6 z_11.t.calls.length (z_11.t.calls.flatMap encK), Res.row (.slice z_11.x.a1 (z_11.t.ans.set 0 (⟨(z_11.t.ans.getD 0 a0_).code, 7, (z_11.t.ans.getD 0 a0_).text⟩ : AN)).length z_11.x.c1) 39 3 (z_11.t.ans.set 0 (⟨(z_11.t.ans.getD 0 a0_).code, 7, (z_11.t.ans.getD 0 a0_).text⟩ : AN)).length ((z_11.t.ans.set 0 (⟨(z_11.t.ans.getD 0 a0_).code, 7, (z_11.t.ans.getD 0 a0_).text⟩ : AN)).flatMap encA), rS z_11.x.a2 z_11.x.c2 z_11.t.rd, rS z_11.x.a3 z_11.x.c3 z_11.t.wr, rI z_11.x.a4 z_11.x.c4 z_11.t.marks, bk b_13 35 (xc z_11), bk b_1 35 (xc z_11)]) (fun w hw => hw.eqL (by simp only [List.length_set] <;> rfl)) ?_
     refine cloJ (rdsX (⟨⟨z_11.x.a0, z_11.x.c0, z_11.x.a1, z_11.x.c1, z_11.x.a2, z_11.x.c2, z_11.x.a3, z_11.x.c3, z_11.x.a4, z_11.x.c4⟩, ⟨z_11.t.id, z_11.t.age, z_11.t.proc, z_11.t.began, z_11.t.calls, z_11.t.ans.set 0 (⟨(z_11.t.ans.getD 0 a0_).code, 7, (z_11.t.ans.getD 0 a0_).text⟩ : AN), z_11.t.rd, z_11.t.wr, z_11.t.marks, z_11.t.state⟩⟩ : TX)) [1, 1, 1, 1, 1] ?_
     refine ju (pick_perm [1, 0] (A := [cb qb qa qc ql qp_14 qs_15, Res.rows (rdsX (⟨⟨z_11.x.a0, z_11.x.c0, z_11.x.a1, z_11.x.c1, z_11.x.a2, z_11.x.c2, z_11.x.a3, z_11.x.c3, z_11.x.a4, z_11.x.c4⟩, ⟨z_11.t.id, z_11.t.age, z_11.t.proc, z_11.t.began, z_11.t.calls, z_11.t.ans.set 0 (⟨(z_11.t.ans.getD 0 a0_).code, 7, (z_11.t.ans.getD 0 a0_).text⟩ : AN), z_11.t.rd, z_11.t.wr, z_11.t.marks, z_11.t.state⟩⟩ : TX))]) (F := [bk b_13 35 (xc z_11), bk b_1 35 (xc z_11)]) rfl).symm ?_
     refine jE (.inl rfl) rfl (js (jl 3 (vs := (xc z_11)) rfl rfl kT kQ rfl rfl) ⟨_, rfl⟩) (tS 2 _) ?_
     exact ⟨qp_14, qs_15, (⟨⟨z_11.x.a0, z_11.x.c0, z_11.x.a1, z_11.x.c1, z_11.x.a2, z_11.x.c2, z_11.x.a3, z_11.x.c3, z_11.x.a4, z_11.x.c4⟩, ⟨z_11.t.id, z_11.t.age, z_11.t.proc, z_11.t.began, z_11.t.calls, z_11.t.ans.set 0 (⟨(z_11.t.ans.getD 0 a0_).code, 7, (z_11.t.ans.getD 0 a0_).text⟩ : AN), z_11.t.rd, z_11.t.wr, z_11.t.marks, z_11.t.state⟩⟩ : TX), by omega, ⟨hAc, (by dsimp only; (try simp only [List.length_set, List.length_append, List.length_cons, List.length_nil]); omega), hAp, (by dsimp only; (try simp only [List.length_set, List.length_append, List.length_cons, List.length_nil]); omega), (by dsimp only; (try simp only [List.length_set, List.length_append, List.length_cons, List.length_nil]); omega), (by dsimp only; (try simp only [List.length_set, List.length_append, List.length_cons, List.length_nil]); omega), (by dsimp only; (try simp only [List.length_set, List.length_append, List.length_cons, List.length_nil]); omega), hAkr, hAkw, hAg⟩, (by simp only [List.length_set, List.length_append, List.length_cons, List.length_nil]), rfl⟩
   refine go ?_
   refine jD 7 (xc z_11) ?_
   refine jb <| jT <| jz <| cloJ (rdsX (⟨⟨z_11.x.a0, z_11.x.c0, z_11.x.a1, z_11.x.c1, z_11.x.a2, z_11.x.c2, z_11.x.a3, z_11.x.c3, z_11.x.a4, z_11.x.c4⟩, ⟨z_11.t.id, z_11.t.age, z_11.t.proc, z_11.t.began, z_11.t.calls, z_11.t.ans, z_11.t.rd, z_11.t.wr, z_11.t.marks, z_11.t.state⟩⟩ : TX)) [1, 1, 1, 1, 1] ?_
   exact jJ [1, 0] ⟨qp_14, qs_15, (⟨⟨z_11.x.a0, z_11.x.c0, z_11.x.a1, z_11.x.c1, z_11.x.a2, z_11.x.c2, z_11.x.a3, z_11.x.c3, z_11.x.a4, z_11.x.c4⟩, ⟨z_11.t.id, z_11.t.age, z_11.t.proc, z_11.t.began, z_11.t.calls, z_11.t.ans, z_11.t.rd, z_11.t.wr, z_11.t.marks, z_11.t.state⟩⟩ : TX), by omega, ⟨hAc, (by dsimp only; (try simp only [List.length_set, List.length_append, List.length_cons, List.length_nil]); omega), hAp, (by dsimp only; (try simp only [List.length_set, List.length_append, List.length_cons, List.length_nil]); omega), (by dsimp only; (try simp only [List.length_set, List.length_append, List.length_cons, List.length_nil]); omega), (by dsimp only; (try simp only [List.length_set, List.length_append, List.length_cons, List.length_nil]); omega), (by dsimp only; (try simp only [List.length_set, List.length_append, List.length_cons, List.length_nil]); omega), hAkr, hAkw, hAg⟩, rfl, rfl⟩
 refine go ?_
 refine jD 7 (xc z_11) ?_
 refine jb <| jT <| jz <| cloJ (rdsX (⟨⟨z_11.x.a0, z_11.x.c0, z_11.x.a1, z_11.x.c1, z_11.x.a2, z_11.x.c2, z_11.x.a3, z_11.x.c3, z_11.x.a4, z_11.x.c4⟩, ⟨z_11.t.id, z_11.t.age, z_11.t.proc, z_11.t.began, z_11.t.calls, z_11.t.ans, z_11.t.rd, z_11.t.wr, z_11.t.marks, z_11.t.state⟩⟩ : TX)) [1, 1, 1, 1, 1] ?_
 exact jJ [1, 0] ⟨qp_14, qs_15, (⟨⟨z_11.x.a0, z_11.x.c0, z_11.x.a1, z_11.x.c1, z_11.x.a2, z_11.x.c2, z_11.x.a3, z_11.x.c3, z_11.x.a4, z_11.x.c4⟩, ⟨z_11.t.id, z_11.t.age, z_11.t.proc, z_11.t.began, z_11.t.calls, z_11.t.ans, z_11.t.rd, z_11.t.wr, z_11.t.marks, z_11.t.state⟩⟩ : TX), by omega, ⟨hAc, (by dsimp only; (try simp only [List.length_set, List.length_append, List.length_cons, List.length_nil]); omega), hAp, (by dsimp only; (try simp only [List.length_set, List.length_append, List.length_cons, List.length_nil]); omega), (by dsimp only; (try simp only [List.length_set, List.length_append, List.length_cons, List.length_nil]); omega), (by dsimp only; (try simp only [List.length_set, List.length_append, List.length_cons, List.length_nil]); omega), (by dsimp only; (try simp only [List.length_set, List.length_append, List.length_cons, List.length_nil]); omega), hAkr, hAkw, hAg⟩, rfl, rfl⟩

theorem D_near16 (qb : Nat) (qa : Option Addr) (qc : Nat) (ql : Str) (qp : Nat) (qs : Int) (sa : Option Addr) (sc : Nat) (s : List Cell) (hs : s.length ≤ 1000000000) (hql : ql.length ≤ 1048577) (hqp : qp ≤ ql.length)  (hO : okC' 10935 1048576 s) (hG : stOk s) :
   Ct Tryz.prog 148 [.pointer (some ⟨qb, 0, none⟩), .slice sa s.length sc] [cb qb qa qc ql qp qs] (fun w => seesC w qa qc ql [cb qb qa qc ql qp qs] ∧ (Sees w (.slice sa s.length sc) 2 s.length (s.flatMap encC) ∧ ∀ b, (Value.slice sa s.length sc).ownBlock = some b → b ≠ qb)) (fun v A' => ∃ qp' qs' r0a r0c r0, qp' ≤ ql.length ∧ (okC' 10938 1048576 r0 ∧ stOk r0) ∧ v = .slice r0a r0.length r0c ∧ A' = cb qb qa qc ql qp' qs' :: [rC r0a r0c r0]) := by
 have hO1 := hO.1
 refine Ct.intro Tryz.func148 rfl Tryz.ntmps148 (lb rfl) fun w0 hpre => ?_
 have hs_qa : Sees w0 _ _ _ _ := hpre.1.1
 have hs_sa : Sees w0 _ _ _ _ := hpre.2.1
 refine go ?_
 refine jF rfl (jR (ps := []) (cur := #[]) kK kP kq rfl (by kernel_rfl) (by decide) (by decide)) ?_
 rintro _ _ ⟨a_1, rfl, rfl⟩
 refine go ?_
 refine jF rfl (jX 0 (q := s.length) (news := s.flatMap encC) (n' := s.length) (cs' := s.flatMap encC) rfl kK kK ko rfl (by' := 32) rfl rfl rfl rfl rfl (fun w hw => Src.sees (hw.seeOut_ hs_sa (notin_bk hpre.2.2)) (oneC _)) (by (try simp only [LE]); omega) (by (try simp only [LE]); omega) (by (try simp only [List.length_take, List.length_drop]); first | rfl | omega) rfl) ?_
 rintro _ _ ⟨a_2, c_3, rfl, rfl⟩
 refine go ?_
 refine jL (fun k_ e_ L_ => ∃ i_ : Nat, ∃ p_q : Nat, ∃ s_q : Int, ∃ o_a : Option Addr, ∃ o_c : Nat, ∃ o_ : List Cell, (p_q ≤ ql.length) ∧ (i_ ≤ 3) ∧ (okC' (10935 + i_) 1048576 o_) ∧ (stOk o_) ∧ EL e_ [(0, .pointer (some ⟨qb, 0, none⟩)), (1, .slice sa s.length sc), (4, .slice none 0 0), (5, .slice o_a o_.length o_c), (6, nv i_)] ∧ L_ = [rC o_a o_c o_, cb qb qa qc ql p_q s_q] ∧ k_ = 4 - i_) _ ⟨0, qp, qs, a_2, c_3, s, (by omega), (by omega), (hO.mono (by omega)), hG, EL.go, rfl, rfl⟩ ?_
 rintro _ _ _ ⟨i_, p_q, s_q, o_a, o_c, o_, hpq_, hi, hP, hGo, ⟨_, rfl⟩, rfl, rfl⟩
 have hP1 := hP.1
 refine go ?_
 refine jA [1] (D_below qb qa qc ql p_q s_q (by omega) (by omega) 3 (by omega)) (hpre := fun w hw => ⟨hw.seeOut_ hs_qa (hpre.1.2), hw.apart hs_qa (hpre.1.2) (by simp)⟩) ?_
 rintro _ _ ⟨qp_4, qs_5, n_7, fq_6, f_8, rfl, rfl⟩
 refine go ?_
 by_cases h_10 : ((i_ : Nat) : Int) < ((1 + n_7 : Nat) : Int)
 · refine go ?_
   by_cases h_11 : 0 < ((s.length : Nat) : Int)
   · refine go ?_
     refine jW rfl rfl rfl (cB (dT h_11)) (jO [0] Tryz.call116 rfl (D_once qb qa qc ql qp_4 qs_5 (by omega) (by omega) 2 (by omega)) rfl (fun w hw => ⟨hw.seeOut_ hs_qa (hpre.1.2), hw.apart hs_qa (hpre.1.2) (by simp)⟩)) ?_
     rintro _ _ ⟨_, ⟨qp_12, qs_13, b_15, fq_14, rfl, rfl⟩, rfl⟩
     refine go ?_
     rcases Bool.eq_false_or_eq_true (b_15) with h_17 | h_17
     · refine go ?_
       refine jH [] 13 ?_
       refine go ?_
       refine jZ (i := 5) (j := 10) (by kernel_rfl) ?_ ?_
       · refine jI [0] (D_below qb qa qc ql qp_12 qs_13 (by omega) (by omega) ((s.length : Nat) : Int) (by omega)) (hpre := fun w hw => ⟨hw.seeOut_ hs_qa (hpre.1.2), hw.apart hs_qa (hpre.1.2) (by simp)⟩) ?_
         rintro _ _ ⟨qp_31, qs_32, n_34, fq_33, f_35, rfl, rfl⟩
         have hki_37 := (hO.2 _ (getD_mem (d := c0) (show n_34 < s.length by omega))).1
         obtain ⟨hr_38, hr_38b, -⟩ := sees_some hs_sa (by omega)
         refine go ?_
         refine jk 8 rfl (jY (v := str (s.getD n_34 c0).1) hs_sa (notin_bk hpre.2.2) rfl kJ (atC1 (by omega))) ?_
         refine jB (i := 10) ?_
         refine ja rfl rfl (jR (ps := [(0, str []), (1, str [49]), (2, str [50]), (3, str [51]), (4, str [45, 54, 49])]) (cur := #[str [], str [49], str [50], str [51], str [45, 54, 49]]) kI kM kV rfl (by kernel_rfl) (by decide) (by decide)) ?_
         rintro _ _ ⟨a_40, rfl, rfl⟩
         refine ⟨all_go, ?_⟩
         refine jB (i := 11) ?_
         refine ja rfl rfl (jO [1, 0] Tryz.call126 rfl (D_pick qb qa qc ql qp_31 qs_32 a_40 5 ([[], [49], [50], [51], [45, 54, 49]] : List Str) (by omega) (by omega) (by simp) (by simp)) rfl (fun w hw => ⟨hw.seeOut_ hs_qa (hpre.1.2), hw.apart hs_qa (hpre.1.2) (by simp)⟩)) ?_
         rintro _ _ ⟨_, ⟨qp_47, qs_48, u_50, fq_49, f_51, rfl, rfl⟩, rfl⟩
         have hlu_50 : u_50.length ≤ 64 := by have hx_ := f_51; simp only [List.mem_cons, List.not_mem_nil, or_false] at hx_; rcases hx_ with hx_ | hx_ | hx_ | hx_ | hx_ <;> first | (rw [hx_]; decide) | (rw [hx_]; omega)
         refine ⟨all_go, ?_⟩
         refine jB (i := 12) ?_
         refine jI [] (C_sPutKey o_a o_c o_ (s.getD n_34 c0).1 u_50 (by omega) (by omega)) (hpre := fun w hw => hw.see (i := 1) rfl) ?_
         rintro _ _ ⟨a_55, c_56, rfl, rfl⟩
         refine go ?_
         exact jP [0, 0] ⟨(i_ + 1), qp_47, qs_48, a_55, c_56, (putKey o_ (s.getD n_34 c0).1 u_50), (by omega), (by omega), (okC'.put hP _ _ (by omega) (by omega)), (hGo.put _ _), EL.go, rfl, rfl⟩
       refine ja rfl rfl (jR (ps := [(0, str []), (1, str [49]), (2, str [50]), (3, str [51]), (4, str [45, 54, 49])]) (cur := #[str [], str [49], str [50], str [51], str [45, 54, 49]]) kI kM kV rfl (by kernel_rfl) (by decide) (by decide)) ?_
       rintro _ _ ⟨a_57, rfl, rfl⟩
       refine ⟨all_go, ?_⟩
       refine jB (i := 5) ?_
       refine jI [1] (D_below qb qa qc ql qp_12 qs_13 (by omega) (by omega) ((s.length : Nat) : Int) (by omega)) (hpre := fun w hw => ⟨hw.seeOut_ hs_qa (hpre.1.2), hw.apart hs_qa (hpre.1.2) (by simp)⟩) ?_
       rintro _ _ ⟨qp_64, qs_65, n_67, fq_66, f_68, rfl, rfl⟩
       have hki_70 := (hO.2 _ (getD_mem (d := c0) (show n_67 < s.length by omega))).1
       obtain ⟨hr_71, hr_71b, -⟩ := sees_some hs_sa (by omega)
       refine go ?_
       refine jk 8 rfl (jY (v := str (s.getD n_67 c0).1) hs_sa (notin_bk hpre.2.2) rfl kJ (atC1 (by omega))) ?_
       refine jB (i := 11) ?_
       refine ja rfl rfl (jO [0, 0] Tryz.call126 rfl (D_pick qb qa qc ql qp_64 qs_65 a_57 5 ([[], [49], [50], [51], [45, 54, 49]] : List Str) (by omega) (by omega) (by simp) (by simp)) rfl (fun w hw => ⟨hw.seeOut_ hs_qa (hpre.1.2), hw.apart hs_qa (hpre.1.2) (by simp)⟩)) ?_
       rintro _ _ ⟨_, ⟨qp_78, qs_79, u_81, fq_80, f_82, rfl, rfl⟩, rfl⟩
       have hlu_81 : u_81.length ≤ 64 := by have hx_ := f_82; simp only [List.mem_cons, List.not_mem_nil, or_false] at hx_; rcases hx_ with hx_ | hx_ | hx_ | hx_ | hx_ <;> first | (rw [hx_]; decide) | (rw [hx_]; omega)
       refine ⟨all_go, ?_⟩
       refine jB (i := 12) ?_
       refine jI [] (C_sPutKey o_a o_c o_ (s.getD n_67 c0).1 u_81 (by omega) (by omega)) (hpre := fun w hw => hw.see (i := 1) rfl) ?_
       rintro _ _ ⟨a_86, c_87, rfl, rfl⟩
       refine go ?_
       exact jP [0, 0] ⟨(i_ + 1), qp_78, qs_79, a_86, c_87, (putKey o_ (s.getD n_67 c0).1 u_81), (by omega), (by omega), (okC'.put hP _ _ (by omega) (by omega)), (hGo.put _ _), EL.go, rfl, rfl⟩
     refine go ?_
     refine jF rfl (jR (ps := [(0, str [110, 47, 120]), (1, str [110, 47, 113]), (2, str [105, 47, 49, 47, 115]), (3, str [105, 47, 50, 47, 98, 47, 48]), (4, str [112, 47, 49, 47, 116]), (5, str [114, 47, 50, 47, 115]), (6, str [103, 47, 49, 47, 116]), (7, str [116, 47, 49]), (8, str [109, 47, 49, 47, 48]), (9, str [100, 47, 110]), (10, str [99, 47, 99, 108, 111, 99, 107]), (11, str [99, 47, 102, 105, 108, 101])]) (cur := #[str [110, 47, 120], str [110, 47, 113], str [105, 47, 49, 47, 115], str [105, 47, 50, 47, 98, 47, 48], str [112, 47, 49, 47, 116], str [114, 47, 50, 47, 115], str [103, 47, 49, 47, 116], str [116, 47, 49], str [109, 47, 49, 47, 48], str [100, 47, 110], str [99, 47, 99, 108, 111, 99, 107], str [99, 47, 102, 105, 108, 101]]) kI kM kV rfl (by kernel_rfl) (by decide) (by decide)) ?_
     rintro _ _ ⟨a_88, rfl, rfl⟩
     refine jA [1, 0] (D_pick qb qa qc ql qp_12 qs_13 a_88 12 ([[110, 47, 120], [110, 47, 113], [105, 47, 49, 47, 115], [105, 47, 50, 47, 98, 47, 48], [112, 47, 49, 47, 116], [114, 47, 50, 47, 115], [103, 47, 49, 47, 116], [116, 47, 49], [109, 47, 49, 47, 48], [100, 47, 110], [99, 47, 99, 108, 111, 99, 107], [99, 47, 102, 105, 108, 101]] : List Str) (by omega) (by omega) (by simp) (by simp)) (hpre := fun w hw => ⟨hw.seeOut_ hs_qa (hpre.1.2), hw.apart hs_qa (hpre.1.2) (by simp)⟩) ?_
     rintro _ _ ⟨qp_89, qs_90, u_92, fq_91, f_93, rfl, rfl⟩
     have hlu_92 : u_92.length ≤ 64 := by have hx_ := f_93; simp only [List.mem_cons, List.not_mem_nil, or_false] at hx_; rcases hx_ with hx_ | hx_ | hx_ | hx_ | hx_ | hx_ | hx_ | hx_ | hx_ | hx_ | hx_ | hx_ <;> first | (rw [hx_]; decide) | (rw [hx_]; omega)
     refine go ?_
     refine jF rfl (jR (ps := [(0, str [49]), (1, str [50]), (2, str [53]), (3, str [45, 54, 50])]) (cur := #[str [49], str [50], str [53], str [45, 54, 50]]) kI kM kV rfl (by kernel_rfl) (by decide) (by decide)) ?_
     rintro _ _ ⟨a_95, rfl, rfl⟩
     refine jA [1, 0] (D_pick qb qa qc ql qp_89 qs_90 a_95 4 ([[49], [50], [53], [45, 54, 50]] : List Str) (by omega) (by omega) (by simp) (by simp)) (hpre := fun w hw => ⟨hw.seeOut_ hs_qa (hpre.1.2), hw.apart hs_qa (hpre.1.2) (by simp)⟩) ?_
     rintro _ _ ⟨qp_96, qs_97, u_99, fq_98, f_100, rfl, rfl⟩
     have hlu_99 : u_99.length ≤ 64 := by have hx_ := f_100; simp only [List.mem_cons, List.not_mem_nil, or_false] at hx_; rcases hx_ with hx_ | hx_ | hx_ | hx_ <;> first | (rw [hx_]; decide) | (rw [hx_]; omega)
     refine jA [] (C_sPutKey o_a o_c o_ u_92 u_99 (by omega) (by omega)) (hpre := fun w hw => hw.see (i := 1) rfl) ?_
     rintro _ _ ⟨a_102, c_103, rfl, rfl⟩
     refine go ?_
     exact jP [0, 0] ⟨(i_ + 1), qp_96, qs_97, a_102, c_103, (putKey o_ u_92 u_99), (by omega), (by omega), (okC'.put hP _ _ (by omega) (by omega)), (hGo.put _ _), EL.go, rfl, rfl⟩
   refine go ?_
   refine jF rfl (jR (ps := [(0, str [110, 47, 120]), (1, str [110, 47, 113]), (2, str [105, 47, 49, 47, 115]), (3, str [105, 47, 50, 47, 98, 47, 48]), (4, str [112, 47, 49, 47, 116]), (5, str [114, 47, 50, 47, 115]), (6, str [103, 47, 49, 47, 116]), (7, str [116, 47, 49]), (8, str [109, 47, 49, 47, 48]), (9, str [100, 47, 110]), (10, str [99, 47, 99, 108, 111, 99, 107]), (11, str [99, 47, 102, 105, 108, 101])]) (cur := #[str [110, 47, 120], str [110, 47, 113], str [105, 47, 49, 47, 115], str [105, 47, 50, 47, 98, 47, 48], str [112, 47, 49, 47, 116], str [114, 47, 50, 47, 115], str [103, 47, 49, 47, 116], str [116, 47, 49], str [109, 47, 49, 47, 48], str [100, 47, 110], str [99, 47, 99, 108, 111, 99, 107], str [99, 47, 102, 105, 108, 101]]) kI kM kV rfl (by kernel_rfl) (by decide) (by decide)) ?_
   rintro _ _ ⟨a_104, rfl, rfl⟩
   refine jA [1, 0] (D_pick qb qa qc ql qp_4 qs_5 a_104 12 ([[110, 47, 120], [110, 47, 113], [105, 47, 49, 47, 115], [105, 47, 50, 47, 98, 47, 48], [112, 47, 49, 47, 116], [114, 47, 50, 47, 115], [103, 47, 49, 47, 116], [116, 47, 49], [109, 47, 49, 47, 48], [100, 47, 110], [99, 47, 99, 108, 111, 99, 107], [99, 47, 102, 105, 108, 101]] : List Str) (by omega) (by omega) (by simp) (by simp)) (hpre := fun w hw => ⟨hw.seeOut_ hs_qa (hpre.1.2), hw.apart hs_qa (hpre.1.2) (by simp)⟩) ?_
   rintro _ _ ⟨qp_105, qs_106, u_108, fq_107, f_109, rfl, rfl⟩
   have hlu_108 : u_108.length ≤ 64 := by have hx_ := f_109; simp only [List.mem_cons, List.not_mem_nil, or_false] at hx_; rcases hx_ with hx_ | hx_ | hx_ | hx_ | hx_ | hx_ | hx_ | hx_ | hx_ | hx_ | hx_ | hx_ <;> first | (rw [hx_]; decide) | (rw [hx_]; omega)
   refine go ?_
   refine jF rfl (jR (ps := [(0, str [49]), (1, str [50]), (2, str [53]), (3, str [45, 54, 50])]) (cur := #[str [49], str [50], str [53], str [45, 54, 50]]) kI kM kV rfl (by kernel_rfl) (by decide) (by decide)) ?_
   rintro _ _ ⟨a_111, rfl, rfl⟩
   refine jA [1, 0] (D_pick qb qa qc ql qp_105 qs_106 a_111 4 ([[49], [50], [53], [45, 54, 50]] : List Str) (by omega) (by omega) (by simp) (by simp)) (hpre := fun w hw => ⟨hw.seeOut_ hs_qa (hpre.1.2), hw.apart hs_qa (hpre.1.2) (by simp)⟩) ?_
   rintro _ _ ⟨qp_112, qs_113, u_115, fq_114, f_116, rfl, rfl⟩
   have hlu_115 : u_115.length ≤ 64 := by have hx_ := f_116; simp only [List.mem_cons, List.not_mem_nil, or_false] at hx_; rcases hx_ with hx_ | hx_ | hx_ | hx_ <;> first | (rw [hx_]; decide) | (rw [hx_]; omega)
   refine jA [] (C_sPutKey o_a o_c o_ u_108 u_115 (by omega) (by omega)) (hpre := fun w hw => hw.see (i := 1) rfl) ?_
   rintro _ _ ⟨a_118, c_119, rfl, rfl⟩
   refine go ?_
   exact jP [0, 0] ⟨(i_ + 1), qp_112, qs_113, a_118, c_119, (putKey o_ u_108 u_115), (by omega), (by omega), (okC'.put hP _ _ (by omega) (by omega)), (hGo.put _ _), EL.go, rfl, rfl⟩
 refine go ?_
 refine jE (.inl rfl) rfl (jC (v := .slice o_a o_.length o_c) rfl) (List.Sublist.refl _) ?_
 exact ⟨qp_4, qs_5, o_a, o_c, o_, (by omega), ⟨hP.mono (by omega), hGo⟩, rfl, rfl⟩

set_option maxRecDepth 4000 in
theorem D_case17 (pa : Option Addr) (pc : Nat) (p : Str) (hp : p.length ≤ 1048576) :
   Ct Tryz.prog 133 [.slice pa p.length pc] [] (fun w => Sees w (.slice pa p.length pc) 1 p.length (p.map encB)) (fun v A' => ∃ a c s' z, okC' 10938 1048576 s' ∧ tInv 12 5 z.t ∧ v = .tuple #[.slice a s'.length c, .agg #[.int .i64 z.t.id, .int .i64 z.t.age, .int .i64 z.t.proc, .int .i64 z.t.began, .slice z.x.a0 z.t.calls.length z.x.c0, .slice z.x.a1 z.t.ans.length z.x.c1, .slice z.x.a2 z.t.rd.length z.x.c2, .slice z.x.a3 z.t.wr.length z.x.c3, .slice z.x.a4 z.t.marks.length z.x.c4, .int .i64 z.t.state]] ∧ A' = [rC a c s', .rows (rdsX z)]) := by
 refine Ct.intro Tryz.func133 rfl Tryz.ntmps133 (lb rfl) fun w0 hpre => ?_
 have hs_pa : Sees w0 _ _ _ _ := hpre
 refine go ?_
 refine jG xzc fun b_1 => ?_
 refine go ?_
 refine jA [] (D_new pa pc p (by omega)) (hpre := fun w hw => hw.seeOut_ hs_pa nM) ?_
 rintro _ _ ⟨c_2, qs_3, -, rfl, rfl⟩
 refine go ?_
 refine jA [0] (D_store6 c_2 pa pc p 0 qs_3 (by omega) (by omega) 6 (by omega) (by decide)) (hpre := fun w hw => ⟨hw.seeOut_ hs_pa nM, hw.apart hs_pa nM (by simp)⟩) ?_
 rintro _ _ ⟨qp_5, qs_6, l_8a, l_8c, l_8, fq_7, f_9, rfl, rfl⟩
 have hO1_l_8 := f_9.1.1
 refine go ?_
 refine jA [0] (D_any17 c_2 pa pc p qp_5 qs_6 (by omega) (by omega) l_8a l_8c l_8 f_9.1) (hpre := fun w hw => ⟨⟨hw.seeOut_ hs_pa nM, hw.apart hs_pa nM (by simp)⟩, hw.see (i := 1) rfl, hw.apartO 1 0 rfl rfl rfl⟩) ?_
 rintro _ _ ⟨qp_11, qs_12, z_14, fq_13, hd_15, rfl, rfl⟩
 refine jG xzc fun b_16 => ?_
 refine jD 0 (xc z_14) ?_
 refine go ?_
 refine jA [1] (D_once c_2 pa pc p qp_11 qs_12 (by omega) (by omega) 6 (by omega)) (hpre := fun w hw => ⟨hw.seeOut_ hs_pa nM, hw.apart hs_pa nM (by simp)⟩) ?_
 rintro _ _ ⟨qp_17, qs_18, b_20, fq_19, rfl, rfl⟩
 refine go ?_
 rcases Bool.eq_false_or_eq_true (b_20) with h_22 | h_22
 · refine go ?_
   refine jA [0] (D_near16 c_2 pa pc p qp_17 qs_18 l_8a l_8c l_8 (by omega) (by omega) (by omega) f_9.1 f_9.2) (hpre := fun w hw => ⟨⟨hw.seeOut_ hs_pa nM, hw.apart hs_pa nM (by simp)⟩, ⟨hw.see (i := 3) rfl, hw.apartO 3 0 rfl rfl rfl⟩⟩) ?_
   rintro _ _ ⟨qp_23, qs_24, l_26a, l_26c, l_26, fq_25, f_27, rfl, rfl⟩
   have hO1_l_26 := f_27.1.1
   refine go ?_
   refine jH [] 0 ?_
   refine go ?_
   refine jB (i := 1) ?_
   refine JX.lt rfl (jm (jl 2 (vs := (xc z_14)) rfl rfl kT kQ rfl rfl)) ?_
   rintro _ _ ⟨rfl, rfl⟩
   refine jB (i := 3) ?_
   refine jS 5 (xc z_14) ?_
   refine go ?_
   exact jQ [1, 2] ⟨l_26a, l_26c, l_26, z_14, f_27.1.mono (by decide), hd_15, rfl, rfl⟩
 refine go ?_
 refine jH [] 0 ?_
 refine go ?_
 refine jB (i := 1) ?_
 refine JX.lt rfl (jm (jl 1 (vs := (xc z_14)) rfl rfl kT kQ rfl rfl)) ?_
 rintro _ _ ⟨rfl, rfl⟩
 refine jB (i := 3) ?_
 refine jS 4 (xc z_14) ?_
 refine go ?_
 exact jQ [3, 2] ⟨l_8a, l_8c, l_8, z_14, f_9.1.mono (by decide), hd_15, rfl, rfl⟩
end Go.Proofs.YthlfmbbaomdciaaGreatDoor
namespace Go.Proofs.YthlfmbbaomdciaaGreatDoor
open Go Go.RowKit
theorem growH {n i : Nat} (hn : n ≤ 10938) (h : i ≤ 12) : gro n i ≤ 2800000 := Nat.le_trans (Nat.le_trans (gro_mono hn i) (gro_le 10938 h)) (by decide)
theorem growTH {n i : Nat} (hn : n ≤ 10938) (h : i ≤ 12) : groT n 0 i ≤ 20000000 := Nat.le_trans (Nat.le_trans (groT_mono hn i) (groT_le 10938 0 h)) (by decide)
end Go.Proofs.YthlfmbbaomdciaaGreatDoor
namespace Go.Proofs.YthlfmbbaomdciaaGreatDoor
open Go Go.RowKit
attribute [local irreducible] JL JC JQ JO LO PO JA JX Ct
set_option maxRecDepth 4000 in
theorem D_dTxAsk (pa : Option Addr) (pc : Nat) (p : Str) (hp : p.length ≤ 1048576) :
   Ct Tryz.prog 45 [.slice pa p.length pc] [] (fun w => Sees w (.slice pa p.length pc) 1 p.length (p.map encB)) (fun v A' => ∃ a c s' z, ∃ C : CL, okC' 10938 1048576 s' ∧ tInv 12 5 z.t ∧ C.ok 1048576 ∧ v = .tuple #[.slice a s'.length c, .agg #[.int .i64 z.t.id, .int .i64 z.t.age, .int .i64 z.t.proc, .int .i64 z.t.began, .slice z.x.a0 z.t.calls.length z.x.c0, .slice z.x.a1 z.t.ans.length z.x.c1, .slice z.x.a2 z.t.rd.length z.x.c2, .slice z.x.a3 z.t.wr.length z.x.c3, .slice z.x.a4 z.t.marks.length z.x.c4, .int .i64 z.t.state], .agg #[.int .i64 C.kind, str C.name, str C.to_, .int .i64 C.a, .int .i64 C.b, str C.text]] ∧ A' = [rC a c s', .rows (rdsX z)]) := by
 refine Ct.intro Tryz.func45 rfl Tryz.ntmps45 (lb rfl) fun w0 hpre => ?_
 have hs_pa : Sees w0 _ _ _ _ := hpre
 refine go ?_
 refine jG xzc fun b_1 => ?_
 refine jG [iv 0, str [], str [], iv 0, iv 0, str []] fun b_2 => ?_
 refine go ?_
 refine jA [] (D_case17 pa pc p (by omega)) (hpre := fun w hw => hw.seeOut_ hs_pa nM) ?_
 rintro _ _ ⟨a_3, c_4, l_5, z_6, hO_7, hd_8, rfl, rfl⟩
 refine go ?_
 refine jG xzc fun b_9 => ?_
 refine go ?_
 refine jD 0 (xc z_6) ?_
 refine go ?_
 refine jH [0] 6 ?_
 refine go ?_
 refine jB (i := 3) ?_
 refine jI [] (D_new pa pc p (by omega)) (hpre := fun w hw => hw.seeOut_ hs_pa nM) ?_
 rintro _ _ ⟨c_13, qs_14, -, rfl, rfl⟩
 refine jB (i := 4) ?_
 refine ja rfl rfl (jO [0] Tryz.call120 rfl (D_any13 c_13 pa pc p 0 qs_14 (by omega) (by omega)) rfl (fun w hw => ⟨hw.seeOut_ hs_pa nM, hw.apart hs_pa nM (by simp)⟩)) ?_
 rintro _ _ ⟨_, ⟨qp_22, qs_23, C_25, fq_24, f_26, rfl, rfl⟩, rfl⟩
 obtain ⟨f_261, f_262, f_263, f_264, f_265, f_266⟩ := id f_26
 refine ⟨all_go, ?_⟩
 refine go ?_
 refine jB (i := 6) ?_
 refine jf 5 (xc z_6) ?_
 refine jB (i := 7) ?_
 refine jS 4 [iv C_25.kind, str C_25.name, str C_25.to_, iv C_25.a, iv C_25.b, str C_25.text] ?_
 refine go ?_
 exact jt [2, 2] ⟨a_3, c_4, l_5, z_6, C_25, hO_7, hd_8, f_26, rfl, rfl⟩
end Go.Proofs.YthlfmbbaomdciaaGreatDoor
