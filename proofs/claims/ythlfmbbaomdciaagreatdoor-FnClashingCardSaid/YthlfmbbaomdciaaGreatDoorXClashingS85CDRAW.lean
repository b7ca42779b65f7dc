/-
Texts of the walk, joined: what each one proves stands at its theorems.
-/
import Derived.Test.YthlfmbbaomdciaaGreatDoorXClashingDatCl
set_option linter.unusedSimpArgs false
set_option linter.unusedVariables false
set_option linter.unnecessarySimpa false
set_option maxHeartbeats 4000000
set_option maxRecDepth 4000
namespace Go.Proofs.YthlfmbbaomdciaaGreatDoor
open Go Go.RowKit
theorem tInv.st {i j : Nat} {t : TD} {s : Int} (h : tInv i j t) : tInv i j ⟨t.id, t.age, t.proc, t.began, t.calls, t.ans, t.rd, t.wr, t.marks, s⟩ := ⟨h.cs, h.n, h.pr, h.a, h.r, h.w, h.m, h.kr, h.kw, h.g⟩
/-- A drawn list of transactions. -/
def xsInv (y : List TX) : Prop := y.length ≤ 3 ∧ ∀ z ∈ y, tInv 4 4 z.t
theorem xs_snoc {y : List TX} {z : TX} (h : ∀ z ∈ y, tInv 4 4 z.t) (hz : tInv 4 4 z.t) : ∀ q ∈ y ++ [z], tInv 4 4 q.t := fun q hq => by
 rcases List.mem_append.1 hq with hq | hq
 · exact h q hq
 · rw [List.mem_singleton] at hq; rw [hq]; exact hz
theorem xsInv.lim {y : List TX} (h : xsInv y) : ∀ q ∈ y, q.t.lim 1000000000 := fun q hq => ((h.2 q hq).lim (by decide) (by decide)).mono (by decide)
theorem xsInv.ok {y : List TX} (h : xsInv y) : okL2 y := fun j hj => by
 have ht := h.2 _ (getD_mem (d := x0) hj)
 have hr := ht.r
 have hw := ht.w
 exact ⟨ht.kr.okS (by omega), ht.kw.okS (by omega)⟩
def seesT (a : Option Addr) (c : Nat) (y : List TX) (tr : List RD) (ta : Option Addr) (tc : Nat) (r : List Str) (ua : Option Addr) (uc : Nat) (u : List Str) : Prop := ∀ w, SeesA w (rdsXS a c y) → SeesA w tr → Sees w (.slice ta r.length tc) 1 r.length (r.map str) ∧ Sees w (.slice ua u.length uc) 1 u.length (u.map str)
attribute [local irreducible] JL JC JQ JO LO PO JA JX Ct

set_option maxRecDepth 4000 in
theorem D_list19 (qb : Nat) (qa : Option Addr) (qc : Nat) (ql : Str) (qp : Nat) (qs : Int) (hql : ql.length ≤ 1048576) (hqp : qp ≤ ql.length) (sa : Option Addr) (sc : Nat) (s : List Cell) (hO : okC' 10935 1048576 s) :
   Ct Tryz.prog 267 [.pointer (some ⟨qb, 0, none⟩), .slice sa s.length sc] [cb qb qa qc ql qp qs] (fun w => seesC w qa qc ql [cb qb qa qc ql qp qs] ∧ (Sees w (.slice sa s.length sc) 2 s.length (s.flatMap encC) ∧ ∀ b, (Value.slice sa s.length sc).ownBlock = some b → b ≠ qb)) (fun v A' => ∃ (qp' : Nat) (qs' : Int) (a : Option Addr) (c : Nat) (y : List TX), qp' ≤ ql.length ∧ xsInv y ∧ v = .slice a y.length c ∧ A' = [cb qb qa qc ql qp' qs', .rows (rdsXS a c y)]) := by
 refine Ct.intro Tryz.func267 rfl Tryz.ntmps267 (lb rfl) fun w0 hpre => ?_
 have hs_qa : Sees w0 _ _ _ _ := hpre.1.1
 have hs_sa : Sees w0 _ _ _ _ := hpre.2.1
 have hO1 := hO.1
 refine go ?_
 refine jF rfl (jR (ps := []) (cur := #[]) km kQ Tryz.zeroValue35 rfl (by kernel_rfl) (by decide) (by decide)) ?_
 rintro _ _ ⟨a_1, rfl, rfl⟩
 refine gQ ?_
 refine jb <| jT <| jc <| jc <| jy ?_
 refine gQ ?_
 refine jb <| jT <| JC.block <| JC.ghost (L' := [Res.rows (([] : List TX).flatMap rdsX), Res.row (.slice a_1 0 0) 35 10 0 (([] : List TX).flatMap encX), cb qb qa qc ql qp qs]) (fun w hw => hw.nilR (α := TX) (f := rdsX) [0] (B := [Res.row (.slice a_1 0 0) 35 10 0 (([] : List TX).flatMap encX)]) (F := [cb qb qa qc ql qp qs]) rfl) <| jL (fun k_ e_ L_ => ∃ i_ : Nat, ∃ p_q : Nat, ∃ s_q : Int, ∃ ya : Option Addr, ∃ yc : Nat, ∃ y_ : List TX, (i_ ≤ 3) ∧ (p_q ≤ ql.length) ∧ (y_.length = i_) ∧ (∀ z ∈ y_, tInv 4 4 z.t) ∧ EL e_ [(0, .pointer (some ⟨qb, 0, none⟩)), (1, .slice sa s.length sc), (4, .slice none 0 0), (5, .slice ya y_.length yc), (6, nv i_)] ∧ L_ = [Res.rows (y_.flatMap rdsX), Res.row (.slice ya y_.length yc) 35 10 y_.length (y_.flatMap encX), cb qb qa qc ql p_q s_q] ∧ k_ = 4 - i_) _ ⟨0, qp, qs, a_1, 0, [], by omega, (by omega), rfl, (fun _ h_ => by cases h_), EL.go, rfl, rfl⟩ ?_
 rintro _ _ _ ⟨i_, p_q, s_q, ya, yc, y_, hi, hpq_, hyl, hy, ⟨_, rfl⟩, rfl, rfl⟩
 refine go ?_
 refine jA [2] (D_below qb qa qc ql p_q s_q (by omega) (by omega) 4 (by omega)) (hpre := fun w hw => ⟨hw.seeOut_ hs_qa (hpre.1.2), hw.apart hs_qa (hpre.1.2) (by simp)⟩) ?_
 rintro _ _ ⟨qp_2, qs_3, n_5, fq_4, f_6, rfl, rfl⟩
 refine go ?_
 by_cases h_8 : ((i_ : Nat) : Int) < ((n_5 : Nat) : Int)
 · refine go ?_
   refine jA [0] (D_tx17 qb qa qc ql qp_2 qs_3 (by omega) (by omega) sa sc s hO ((i_ + 1 : Nat) : Int) (by omega)) (hpre := fun w hw => ⟨⟨hw.seeOut_ hs_qa (hpre.1.2), hw.apart hs_qa (hpre.1.2) (by simp)⟩, hw.seeOut_ hs_sa (notin_bk hpre.2.2), hpre.2.2⟩) ?_
   rintro _ _ ⟨qp_9, qs_10, z_12, fq_11, hd_13, rfl, rfl⟩
   refine jG xzc fun b_14 => ?_
   refine jD 0 (xc z_12) ?_
   refine go ?_
   refine jA [1] (D_once qb qa qc ql qp_9 qs_10 (by omega) (by omega) 5 (by omega)) (hpre := fun w hw => ⟨hw.seeOut_ hs_qa (hpre.1.2), hw.apart hs_qa (hpre.1.2) (by simp)⟩) ?_
   rintro _ _ ⟨qp_15, qs_16, b_18, fq_17, rfl, rfl⟩
   refine go ?_
   rcases Bool.eq_false_or_eq_true (b_18) with h_20 | h_20
   · refine go ?_
     refine jA [0] (D_below qb qa qc ql qp_15 qs_16 (by omega) (by omega) 3 (by omega)) (hpre := fun w hw => ⟨hw.seeOut_ hs_qa (hpre.1.2), hw.apart hs_qa (hpre.1.2) (by simp)⟩) ?_
     rintro _ _ ⟨qp_21, qs_22, n_24, fq_23, f_25, rfl, rfl⟩
     refine go ?_
     refine jD 1 [iv z_12.t.id, iv z_12.t.age, iv z_12.t.proc, iv z_12.t.began, .slice z_12.x.a0 z_12.t.calls.length z_12.x.c0, .slice z_12.x.a1 z_12.t.ans.length z_12.x.c1, .slice z_12.x.a2 z_12.t.rd.length z_12.x.c2, .slice z_12.x.a3 z_12.t.wr.length z_12.x.c3, .slice z_12.x.a4 z_12.t.marks.length z_12.x.c4, iv ((1 + n_24 : Nat) : Int)] ?_
     refine go ?_
     refine jF rfl (jR (ps := [(0, .agg #[iv z_12.t.id, iv z_12.t.age, iv z_12.t.proc, iv z_12.t.began, .slice z_12.x.a0 z_12.t.calls.length z_12.x.c0, .slice z_12.x.a1 z_12.t.ans.length z_12.x.c1, .slice z_12.x.a2 z_12.t.rd.length z_12.x.c2, .slice z_12.x.a3 z_12.t.wr.length z_12.x.c3, .slice z_12.x.a4 z_12.t.marks.length z_12.x.c4, iv ((1 + n_24 : Nat) : Int)])]) (cur := #[iv z_12.t.id, iv z_12.t.age, iv z_12.t.proc, iv z_12.t.began, .slice z_12.x.a0 z_12.t.calls.length z_12.x.c0, .slice z_12.x.a1 z_12.t.ans.length z_12.x.c1, .slice z_12.x.a2 z_12.t.rd.length z_12.x.c2, .slice z_12.x.a3 z_12.t.wr.length z_12.x.c3, .slice z_12.x.a4 z_12.t.marks.length z_12.x.c4, iv ((1 + n_24 : Nat) : Int)]) km kQ Tryz.zeroValue35 rfl (by kernel_rfl) (by decide) (by decide)) ?_
     rintro _ _ ⟨a_27, rfl, rfl⟩
     refine jF rfl (jX 5 (q := 1) (news := ([(⟨z_12.x, ⟨z_12.t.id, z_12.t.age, z_12.t.proc, z_12.t.began, z_12.t.calls, z_12.t.ans, z_12.t.rd, z_12.t.wr, z_12.t.marks, ((1 + n_24 : Nat) : Int)⟩⟩ : TX)] : List TX).flatMap encX) (n' := (y_ ++ ([(⟨z_12.x, ⟨z_12.t.id, z_12.t.age, z_12.t.proc, z_12.t.began, z_12.t.calls, z_12.t.ans, z_12.t.rd, z_12.t.wr, z_12.t.marks, ((1 + n_24 : Nat) : Int)⟩⟩ : TX)] : List TX)).length) (cs' := (y_ ++ ([(⟨z_12.x, ⟨z_12.t.id, z_12.t.age, z_12.t.proc, z_12.t.began, z_12.t.calls, z_12.t.ans, z_12.t.rd, z_12.t.wr, z_12.t.marks, ((1 + n_24 : Nat) : Int)⟩⟩ : TX)] : List TX)).flatMap encX) rfl km km Tryz.typeInfo35 rfl (by' := 160) rfl rfl rfl rfl rfl (fun w hw => Src.sees (hw.see (i := 0) rfl) (oneX _)) (by (try simp only [LE]); omega) (by (try simp only [LE]); omega) (by simp only [List.length_append, List.length_take, List.length_drop, List.length_cons, List.length_nil] <;> first | rfl | omega) (by simp only [List.flatMap_append])) ?_
     rintro _ _ ⟨a_28, c_29, rfl, rfl⟩
     refine gQ ?_
     refine jb <| JQ.blockN <| jT <| jy ?_
     refine gQ ?_
     refine jb ?_
     refine jw (L' := [Res.row (.slice a_27 1 1) 35 10 1 (([(⟨z_12.x, ⟨z_12.t.id, z_12.t.age, z_12.t.proc, z_12.t.began, z_12.t.calls, z_12.t.ans, z_12.t.rd, z_12.t.wr, z_12.t.marks, ((1 + n_24 : Nat) : Int)⟩⟩ : TX)] : List TX).flatMap encX), cb qb qa qc ql qp_21 qs_22, bk b_14 35 [iv z_12.t.id, iv z_12.t.age, iv z_12.t.proc, iv z_12.t.began, .slice z_12.x.a0 z_12.t.calls.length z_12.x.c0, .slice z_12.x.a1 z_12.t.ans.length z_12.x.c1, .slice z_12.x.a2 z_12.t.rd.length z_12.x.c2, .slice z_12.x.a3 z_12.t.wr.length z_12.x.c3, .slice z_12.x.a4 z_12.t.marks.length z_12.x.c4, iv ((1 + n_24 : Nat) : Int)], Res.rows (rdsX (⟨z_12.x, ⟨z_12.t.id, z_12.t.age, z_12.t.proc, z_12.t.began, z_12.t.calls, z_12.t.ans, z_12.t.rd, z_12.t.wr, z_12.t.marks, ((1 + n_24 : Nat) : Int)⟩⟩ : TX)), Res.rows (y_.flatMap rdsX), Res.row (.slice a_28 ((y_ ++ ([(⟨z_12.x, ⟨z_12.t.id, z_12.t.age, z_12.t.proc, z_12.t.began, z_12.t.calls, z_12.t.ans, z_12.t.rd, z_12.t.wr, z_12.t.marks, ((1 + n_24 : Nat) : Int)⟩⟩ : TX)] : List TX)).length) c_29) 35 10 ((y_ ++ ([(⟨z_12.x, ⟨z_12.t.id, z_12.t.age, z_12.t.proc, z_12.t.began, z_12.t.calls, z_12.t.ans, z_12.t.rd, z_12.t.wr, z_12.t.marks, ((1 + n_24 : Nat) : Int)⟩⟩ : TX)] : List TX)).length) ((y_ ++ ([(⟨z_12.x, ⟨z_12.t.id, z_12.t.age, z_12.t.proc, z_12.t.began, z_12.t.calls, z_12.t.ans, z_12.t.rd, z_12.t.wr, z_12.t.marks, ((1 + n_24 : Nat) : Int)⟩⟩ : TX)] : List TX)).flatMap encX)]) (fun w hw => hw.eqL rfl) ?_
     refine jw (L' := [Res.rows ((y_ ++ [(⟨z_12.x, ⟨z_12.t.id, z_12.t.age, z_12.t.proc, z_12.t.began, z_12.t.calls, z_12.t.ans, z_12.t.rd, z_12.t.wr, z_12.t.marks, ((1 + n_24 : Nat) : Int)⟩⟩ : TX)]).flatMap rdsX), Res.row (.slice a_27 1 1) 35 10 1 (([(⟨z_12.x, ⟨z_12.t.id, z_12.t.age, z_12.t.proc, z_12.t.began, z_12.t.calls, z_12.t.ans, z_12.t.rd, z_12.t.wr, z_12.t.marks, ((1 + n_24 : Nat) : Int)⟩⟩ : TX)] : List TX).flatMap encX), cb qb qa qc ql qp_21 qs_22, bk b_14 35 [iv z_12.t.id, iv z_12.t.age, iv z_12.t.proc, iv z_12.t.began, .slice z_12.x.a0 z_12.t.calls.length z_12.x.c0, .slice z_12.x.a1 z_12.t.ans.length z_12.x.c1, .slice z_12.x.a2 z_12.t.rd.length z_12.x.c2, .slice z_12.x.a3 z_12.t.wr.length z_12.x.c3, .slice z_12.x.a4 z_12.t.marks.length z_12.x.c4, iv ((1 + n_24 : Nat) : Int)], Res.row (.slice a_28 ((y_ ++ ([(⟨z_12.x, ⟨z_12.t.id, z_12.t.age, z_12.t.proc, z_12.t.began, z_12.t.calls, z_12.t.ans, z_12.t.rd, z_12.t.wr, z_12.t.marks, ((1 + n_24 : Nat) : Int)⟩⟩ : TX)] : List TX)).length) c_29) 35 10 ((y_ ++ ([(⟨z_12.x, ⟨z_12.t.id, z_12.t.age, z_12.t.proc, z_12.t.began, z_12.t.calls, z_12.t.ans, z_12.t.rd, z_12.t.wr, z_12.t.marks, ((1 + n_24 : Nat) : Int)⟩⟩ : TX)] : List TX)).length) ((y_ ++ ([(⟨z_12.x, ⟨z_12.t.id, z_12.t.age, z_12.t.proc, z_12.t.began, z_12.t.calls, z_12.t.ans, z_12.t.rd, z_12.t.wr, z_12.t.marks, ((1 + n_24 : Nat) : Int)⟩⟩ : TX)] : List TX)).flatMap encX)]) (fun w hw => hw.addR [4, 3] rfl flatMap_snoc) ?_
     exact jP [0, 3, 1] ⟨i_ + 1, qp_21, qs_22, a_28, c_29, (y_ ++ [(⟨z_12.x, ⟨z_12.t.id, z_12.t.age, z_12.t.proc, z_12.t.began, z_12.t.calls, z_12.t.ans, z_12.t.rd, z_12.t.wr, z_12.t.marks, ((1 + n_24 : Nat) : Int)⟩⟩ : TX)]), by omega, (by omega), (by rw [List.length_append, hyl]; rfl), (xs_snoc hy hd_13.st), EL.go, rfl, rfl⟩
   refine go ?_
   refine jF rfl (jR (ps := [(0, (xv z_12))]) (cur := #[iv z_12.t.id, iv z_12.t.age, iv z_12.t.proc, iv z_12.t.began, .slice z_12.x.a0 z_12.t.calls.length z_12.x.c0, .slice z_12.x.a1 z_12.t.ans.length z_12.x.c1, .slice z_12.x.a2 z_12.t.rd.length z_12.x.c2, .slice z_12.x.a3 z_12.t.wr.length z_12.x.c3, .slice z_12.x.a4 z_12.t.marks.length z_12.x.c4, iv z_12.t.state]) km kQ Tryz.zeroValue35 rfl (by kernel_rfl) (by decide) (by decide)) ?_
   rintro _ _ ⟨a_30, rfl, rfl⟩
   refine jF rfl (jX 5 (q := 1) (news := ([z_12] : List TX).flatMap encX) (n' := (y_ ++ ([z_12] : List TX)).length) (cs' := (y_ ++ ([z_12] : List TX)).flatMap encX) rfl km km Tryz.typeInfo35 rfl (by' := 160) rfl rfl rfl rfl rfl (fun w hw => Src.sees (hw.see (i := 0) rfl) (oneX _)) (by (try simp only [LE]); omega) (by (try simp only [LE]); omega) (by simp only [List.length_append, List.length_take, List.length_drop, List.length_cons, List.length_nil] <;> first | rfl | omega) (by simp only [List.flatMap_append])) ?_
   rintro _ _ ⟨a_31, c_32, rfl, rfl⟩
   refine gQ ?_
   refine jb <| JQ.blockN <| jT <| jy ?_
   refine gQ ?_
   refine jb ?_
   refine jw (L' := [Res.rows ((y_ ++ [z_12]).flatMap rdsX), Res.row (.slice a_30 1 1) 35 10 1 (([z_12] : List TX).flatMap encX), cb qb qa qc ql qp_15 qs_16, bk b_14 35 (xc z_12), Res.row (.slice a_31 (y_ ++ ([z_12] : List TX)).length c_32) 35 10 (y_ ++ ([z_12] : List TX)).length ((y_ ++ ([z_12] : List TX)).flatMap encX)]) (fun w hw => hw.addR [4, 3] rfl flatMap_snoc) ?_
   exact jP [0, 3, 1] ⟨i_ + 1, qp_15, qs_16, a_31, c_32, (y_ ++ [z_12]), by omega, (by omega), (by rw [List.length_append, hyl]; rfl), (xs_snoc hy hd_13), EL.go, rfl, rfl⟩
 refine JC.condF (cB (dF h_8)) <| JC.exit <| JQ.thenExit <| JQ.thenExit <| JQ.blockE <| jT <| jc <| jy ?_
 refine gQ ?_
 refine jb <| jT <| jz ?_
 refine jw (L' := [Res.rows (rdsXS ya yc y_), cb qb qa qc ql qp_2 qs_3]) (fun w hw => hw.consR (r := ⟨.slice ya y_.length yc, 35, 10, y_.length, y_.flatMap encX⟩) (A := y_.flatMap rdsX) [2, 1] rfl) ?_
 exact jJ [1, 0] ⟨qp_2, qs_3, ya, yc, y_, by omega, ⟨by omega, hy⟩, rfl, rfl⟩

set_option maxRecDepth 4000 in
theorem D_case19 (pa : Option Addr) (pc : Nat) (p : Str) (hp : p.length ≤ 1048576) :
   Ct Tryz.prog 154 [.slice pa p.length pc] [] (fun w => Sees w (.slice pa p.length pc) 1 p.length (p.map encB)) (fun v A' => ∃ (a : Option Addr) (c : Nat) (y : List TX), xsInv y ∧ v = .slice a y.length c ∧ A' = [.rows (rdsXS a c y)]) := by
 refine Ct.intro Tryz.func154 rfl Tryz.ntmps154 (lb rfl) fun w0 hpre => ?_
 have hs_pa : Sees w0 _ _ _ _ := hpre
 refine go ?_
 refine jA [] (D_new pa pc p (by omega)) (hpre := fun w hw => hw.seeOut_ hs_pa nM) ?_
 rintro _ _ ⟨c_1, qs_2, -, rfl, rfl⟩
 refine go ?_
 refine jA [0] (D_store6 c_1 pa pc p 0 qs_2 (by omega) (by omega) 4 (by omega) (by decide)) (hpre := fun w hw => ⟨hw.seeOut_ hs_pa nM, hw.apart hs_pa nM (by simp)⟩) ?_
 rintro _ _ ⟨qp_4, qs_5, l_7a, l_7c, l_7, fq_6, f_8, rfl, rfl⟩
 have hO1_l_7 := f_8.1.1
 refine jA [0] (D_list19 c_1 pa pc p qp_4 qs_5 (by omega) (by omega) l_7a l_7c l_7 f_8.1) (hpre := fun w hw => ⟨⟨hw.seeOut_ hs_pa nM, hw.apart hs_pa nM (by simp)⟩, hw.see (i := 1) rfl, hw.apartO 1 0 rfl rfl rfl⟩) ?_
 rintro _ _ ⟨qp_10, qs_11, a_13, c_14, y_15, fq_12, hx_16, rfl, rfl⟩
 refine go ?_
 exact jJ [1] ⟨a_13, c_14, y_15, hx_16, rfl, rfl⟩

set_option maxRecDepth 4000 in
theorem D_dClashes (pa : Option Addr) (pc : Nat) (p : Str) (hp : p.length ≤ 1048576) :
   Ct Tryz.prog 66 [.slice pa p.length pc] [] (fun w => Sees w (.slice pa p.length pc) 1 p.length (p.map encB)) (fun v A' => ∃ (a : Option Addr) (c : Nat) (y : List TX) (ta : Option Addr) (tc : Nat) (r : List Str) (ua : Option Addr) (uc : Nat) (u : List Str) (tr : List RD) (but : Int), xsInv y ∧ (okS r ∧ okS u) ∧ seesT a c y tr ta tc r ua uc u ∧ v = .tuple #[.slice a y.length c, .agg #[.slice ta r.length tc, .slice ua u.length uc], .int .i64 but] ∧ A' = [.rows (rdsXS a c y), .rows tr]) := by
 refine Ct.intro Tryz.func66 rfl Tryz.ntmps66 (lb rfl) fun w0 hpre => ?_
 have hs_pa : Sees w0 _ _ _ _ := hpre
 refine go ?_
 refine jG [.slice none 0 0, .slice none 0 0] fun b_1 => ?_
 refine go ?_
 refine jA [] (D_case19 pa pc p (by omega)) (hpre := fun w hw => hw.seeOut_ hs_pa nM) ?_
 rintro _ _ ⟨a_2, c_3, y_4, hx_5, rfl, rfl⟩
 have hx_51 := hx_5.1
 refine go ?_
 refine jA [] (D_new pa pc p (by omega)) (hpre := fun w hw => hw.seeOut_ hs_pa nM) ?_
 rintro _ _ ⟨c_6, qs_7, -, rfl, rfl⟩
 refine go ?_
 by_cases h_9 : 0 < ((y_4.length : Nat) : Int)
 · refine go ?_
   refine jW rfl rfl rfl (cB (dT h_9)) (jO [0] Tryz.call116 rfl (D_once c_6 pa pc p 0 qs_7 (by omega) (by omega) 4 (by omega)) rfl (fun w hw => ⟨hw.seeOut_ hs_pa nM, hw.apart hs_pa nM (by simp)⟩)) ?_
   rintro _ _ ⟨_, ⟨qp_10, qs_11, b_13, fq_12, rfl, rfl⟩, rfl⟩
   refine go ?_
   rcases Bool.eq_false_or_eq_true (b_13) with h_15 | h_15
   · refine go ?_
     refine jA [0] (D_touch03 c_6 pa pc p qp_10 qs_11 (by omega) (by omega)) (hpre := fun w hw => ⟨hw.seeOut_ hs_pa nM, hw.apart hs_pa nM (by simp)⟩) ?_
     rintro _ _ ⟨qp_16, qs_17, T_19ra, T_19rc, T_19r, T_19wa, T_19wc, T_19w, fq_18, f_20, rfl, rfl⟩
     refine go ?_
     refine jA [0] (D_below c_6 pa pc p qp_16 qs_17 (by omega) (by omega) 4 (by omega)) (hpre := fun w hw => ⟨hw.seeOut_ hs_pa nM, hw.apart hs_pa nM (by simp)⟩) ?_
     rintro _ _ ⟨qp_22, qs_23, n_25, fq_24, f_26, rfl, rfl⟩
     refine go ?_
     refine jD 4 [.slice T_19ra T_19r.length T_19rc, .slice T_19wa T_19w.length T_19wc] ?_
     refine gQ ?_
     refine jb <| jT <| jz <| cloJ (([⟨.slice T_19ra T_19r.length T_19rc, 9, 1, T_19r.length, T_19r.map str⟩, ⟨.slice T_19wa T_19w.length T_19wc, 9, 1, T_19w.length, T_19w.map str⟩] : List RD)) [1, 1] ?_
     exact jt [2, 0] ⟨a_2, c_3, y_4, T_19ra, T_19rc, T_19r, T_19wa, T_19wc, T_19w, ([⟨.slice T_19ra T_19r.length T_19rc, 9, 1, T_19r.length, T_19r.map str⟩, ⟨.slice T_19wa T_19w.length T_19wc, 9, 1, T_19w.length, T_19w.map str⟩] : List RD), ((n_25 : Nat) : Int), hx_5, ⟨f_20.2.2.1.okS (by omega), f_20.2.2.2.okS (by omega)⟩, (fun w _ h_ => ⟨h_.head, h_.tail.head⟩), rfl, rfl⟩
   refine JC.condT (cB (cN h_15)) <| jc <| JC.ghost (L' := [Res.row (.slice a_2 y_4.length c_3) 35 10 y_4.length (y_4.flatMap encX), Res.rows (y_4.flatMap rdsX), cb c_6 pa pc p qp_10 qs_11, bk b_1 32 [.slice none 0 0, .slice none 0 0]]) (fun w hw => hw.headR (r := ⟨.slice a_2 y_4.length c_3, 35, 10, y_4.length, y_4.flatMap encX⟩) (A := y_4.flatMap rdsX) 1 rfl) ?_
   refine go ?_
   refine jA [2] (D_below c_6 pa pc p qp_10 qs_11 (by omega) (by omega) ((y_4.length : Nat) : Int) (by omega)) (hpre := fun w hw => ⟨hw.seeOut_ hs_pa nM, hw.apart hs_pa nM (by simp)⟩) ?_
   rintro _ _ ⟨qp_28, qs_29, n_31, fq_30, f_32, rfl, rfl⟩
   refine jo fun hst => ?_
   obtain ⟨hr_34, hr_34b, -⟩ := row_some 1 rfl (by omega) hst
   refine go ?_
   refine jU (LO.loadRK 1 (vs := (xc (y_4.getD n_31 x0))) rfl rfl kT kQ (flat_take encX_len x0 y_4 n_31 (by omega)) rfl (by decide)) ?_
   refine jG xzc fun b_35 => ?_
   refine jD 0 (xc (y_4.getD n_31 x0)) ?_
   refine go ?_
   refine jH [0] 10 ?_
   refine go ?_
   refine jB (i := 6) ?_
   refine ja rfl rfl (jR (ps := [(0, iv (y_4.getD n_31 x0).t.id), (1, iv 0)]) (cur := #[iv (y_4.getD n_31 x0).t.id, iv 0]) kL kS kZ rfl (by kernel_rfl) (by decide) (by decide)) ?_
   rintro _ _ ⟨a_37, rfl, rfl⟩
   refine ⟨all_go, ?_⟩
   refine jB (i := 7) ?_
   refine jI [2, 0] (D_pickInt c_6 pa pc p qp_28 qs_29 a_37 2 ([(y_4.getD n_31 x0).t.id, 0] : List Int) (by omega) (by omega) (by simp) (by simp)) (hpre := fun w hw => ⟨hw.seeOut_ hs_pa nM, hw.apart hs_pa nM (by simp)⟩) ?_
   rintro _ _ ⟨qp_44, qs_45, n_47, fq_46, f_48, rfl, rfl⟩
   refine go ?_
   refine jB (i := 9) ?_
   refine jp 4 [.slice (y_4.getD n_31 x0).x.a2 (y_4.getD n_31 x0).t.rd.length (y_4.getD n_31 x0).x.c2, .slice (y_4.getD n_31 x0).x.a3 (y_4.getD n_31 x0).t.wr.length (y_4.getD n_31 x0).x.c3] ?_
   refine gQ ?_
   refine JA.done (by kernel_rfl) <| jT <| jz <| JQ.thenRet ?_
   refine jw (L' := [Res.rows (rdsXS a_2 c_3 y_4), cb c_6 pa pc p qp_44 qs_45, bk b_35 35 (xc (y_4.getD n_31 x0)), bk b_1 32 [.slice (y_4.getD n_31 x0).x.a2 (y_4.getD n_31 x0).t.rd.length (y_4.getD n_31 x0).x.c2, .slice (y_4.getD n_31 x0).x.a3 (y_4.getD n_31 x0).t.wr.length (y_4.getD n_31 x0).x.c3]]) (fun w hw => hw.consR (r := ⟨.slice a_2 y_4.length c_3, 35, 10, y_4.length, y_4.flatMap encX⟩) (A := y_4.flatMap rdsX) [2, 2] rfl) ?_
   refine jw (L' := [Res.rows (([] : List RD)), Res.rows (rdsXS a_2 c_3 y_4), cb c_6 pa pc p qp_44 qs_45, bk b_35 35 (xc (y_4.getD n_31 x0)), bk b_1 32 [.slice (y_4.getD n_31 x0).x.a2 (y_4.getD n_31 x0).t.rd.length (y_4.getD n_31 x0).x.c2, .slice (y_4.getD n_31 x0).x.a3 (y_4.getD n_31 x0).t.wr.length (y_4.getD n_31 x0).x.c3]]) (fun w hw => St.rowsNil hw) ?_
   refine ju (pick_perm [1, 0] (A := [Res.rows (rdsXS a_2 c_3 y_4), Res.rows (([] : List RD))]) (F := [cb c_6 pa pc p qp_44 qs_45, bk b_35 35 (xc (y_4.getD n_31 x0)), bk b_1 32 [.slice (y_4.getD n_31 x0).x.a2 (y_4.getD n_31 x0).t.rd.length (y_4.getD n_31 x0).x.c2, .slice (y_4.getD n_31 x0).x.a3 (y_4.getD n_31 x0).t.wr.length (y_4.getD n_31 x0).x.c3]]) rfl).symm ?_
   refine Done.three (.inl rfl) rfl (jC (v := .slice a_2 y_4.length c_3) rfl) (js (jl 4 (vs := [.slice (y_4.getD n_31 x0).x.a2 (y_4.getD n_31 x0).t.rd.length (y_4.getD n_31 x0).x.c2, .slice (y_4.getD n_31 x0).x.a3 (y_4.getD n_31 x0).t.wr.length (y_4.getD n_31 x0).x.c3]) rfl rfl kt ku rfl rfl) ⟨_, rfl⟩) (jC (v := iv n_47) rfl) (tS 2 _) ?_
   have hlt_ : n_31 < y_4.length := by omega
   have hok_ := hx_5.ok n_31 hlt_
   exact ⟨a_2, c_3, y_4, (y_4.getD n_31 x0).x.a2, (y_4.getD n_31 x0).x.c2, (y_4.getD n_31 x0).t.rd, (y_4.getD n_31 x0).x.a3, (y_4.getD n_31 x0).x.c3, (y_4.getD n_31 x0).t.wr, ([] : List RD), n_47, hx_5, ⟨hok_.1, hok_.2⟩, (fun w h_ _ => ⟨(seesX (SeesA.elem h_.tail x0 hlt_)).2.2.1, (seesX (SeesA.elem h_.tail x0 hlt_)).2.2.2.1⟩), rfl, rfl⟩
 refine go ?_
 refine jA [0] (D_touch03 c_6 pa pc p 0 qs_7 (by omega) (by omega)) (hpre := fun w hw => ⟨hw.seeOut_ hs_pa nM, hw.apart hs_pa nM (by simp)⟩) ?_
 rintro _ _ ⟨qp_50, qs_51, T_53ra, T_53rc, T_53r, T_53wa, T_53wc, T_53w, fq_52, f_54, rfl, rfl⟩
 refine go ?_
 refine jA [0] (D_below c_6 pa pc p qp_50 qs_51 (by omega) (by omega) 4 (by omega)) (hpre := fun w hw => ⟨hw.seeOut_ hs_pa nM, hw.apart hs_pa nM (by simp)⟩) ?_
 rintro _ _ ⟨qp_56, qs_57, n_59, fq_58, f_60, rfl, rfl⟩
 refine go ?_
 refine jD 4 [.slice T_53ra T_53r.length T_53rc, .slice T_53wa T_53w.length T_53wc] ?_
 refine gQ ?_
 refine jb <| jT <| jz <| cloJ (([⟨.slice T_53ra T_53r.length T_53rc, 9, 1, T_53r.length, T_53r.map str⟩, ⟨.slice T_53wa T_53w.length T_53wc, 9, 1, T_53w.length, T_53w.map str⟩] : List RD)) [1, 1] ?_
 exact jt [2, 0] ⟨a_2, c_3, y_4, T_53ra, T_53rc, T_53r, T_53wa, T_53wc, T_53w, ([⟨.slice T_53ra T_53r.length T_53rc, 9, 1, T_53r.length, T_53r.map str⟩, ⟨.slice T_53wa T_53w.length T_53wc, 9, 1, T_53w.length, T_53w.map str⟩] : List RD), ((n_59 : Nat) : Int), hx_5, ⟨f_54.2.2.1.okS (by omega), f_54.2.2.2.okS (by omega)⟩, (fun w _ h_ => ⟨h_.head, h_.tail.head⟩), rfl, rfl⟩

set_option maxRecDepth 4000 in
theorem D_dFindTx (pa : Option Addr) (pc : Nat) (p : Str) (hp : p.length ≤ 1048576) :
   Ct Tryz.prog 73 [.slice pa p.length pc] [] (fun w => Sees w (.slice pa p.length pc) 1 p.length (p.map encB)) (fun v A' => ∃ (a : Option Addr) (c : Nat) (y : List TX) (k : Int), xsInv y ∧ v = .tuple #[.slice a y.length c, .int .i64 k] ∧ A' = [.rows (rdsXS a c y)]) := by
 refine Ct.intro Tryz.func73 rfl Tryz.ntmps73 (lb rfl) fun w0 hpre => ?_
 have hs_pa : Sees w0 _ _ _ _ := hpre
 refine go ?_
 refine jA [] (D_case19 pa pc p (by omega)) (hpre := fun w hw => hw.seeOut_ hs_pa nM) ?_
 rintro _ _ ⟨a_1, c_2, y_3, hx_4, rfl, rfl⟩
 have hx_41 := hx_4.1
 refine go ?_
 refine jA [] (D_new pa pc p (by omega)) (hpre := fun w hw => hw.seeOut_ hs_pa nM) ?_
 rintro _ _ ⟨c_5, qs_6, -, rfl, rfl⟩
 refine jA [0] (D_below c_5 pa pc p 0 qs_6 (by omega) (by omega) 6 (by omega)) (hpre := fun w hw => ⟨hw.seeOut_ hs_pa nM, hw.apart hs_pa nM (by simp)⟩) ?_
 rintro _ _ ⟨qp_8, qs_9, n_11, fq_10, f_12, rfl, rfl⟩
 refine jK (jg (c := ((n_11 : Nat) : Int) - 1) rfl rfl (wr (by omega))) ?_
 refine go ?_
 exact jQ [1] ⟨a_1, c_2, y_3, (((n_11 : Nat) : Int) - 1), hx_4, rfl, rfl⟩

set_option maxRecDepth 4000 in
theorem D_dDropped (pa : Option Addr) (pc : Nat) (p : Str) (hp : p.length ≤ 1048576) :
   Ct Tryz.prog 75 [.slice pa p.length pc] [] (fun w => Sees w (.slice pa p.length pc) 1 p.length (p.map encB)) (fun v A' => ∃ (a : Option Addr) (c : Nat) (y : List TX) (ia : Option Addr) (ic : Nat) (o : List Int), xsInv y ∧ o.length ≤ 2 ∧ v = .tuple #[.slice a y.length c, .slice ia o.length ic] ∧ A' = [.rows (rdsXS a c y), rI ia ic o]) := by
 refine Ct.intro Tryz.func75 rfl Tryz.ntmps75 (lb rfl) fun w0 hpre => ?_
 have hs_pa : Sees w0 _ _ _ _ := hpre
 refine go ?_
 refine jA [] (D_new pa pc p (by omega)) (hpre := fun w hw => hw.seeOut_ hs_pa nM) ?_
 rintro _ _ ⟨c_1, qs_2, -, rfl, rfl⟩
 refine go ?_
 refine jF rfl (jR (ps := []) (cur := #[]) kL kS kZ rfl (by kernel_rfl) (by decide) (by decide)) ?_
 rintro _ _ ⟨a_4, rfl, rfl⟩
 refine go ?_
 refine jL (fun k_ e_ L_ => ∃ i_ : Nat, ∃ p_q : Nat, ∃ s_q : Int, ∃ o_a : Option Addr, ∃ o_c : Nat, ∃ o_ : List Int, (p_q ≤ p.length) ∧ (i_ ≤ 2) ∧ (o_.length ≤ i_) ∧ EL e_ [(0, .slice pa p.length pc), (2, .slice none 0 0), (3, .slice none 0 0), (4, .pointer (some ⟨c_1, 0, none⟩)), (5, .slice o_a o_.length o_c), (6, nv i_)] ∧ L_ = [rI o_a o_c o_, cb c_1 pa pc p p_q s_q] ∧ k_ = 3 - i_) _ ⟨0, 0, qs_2, a_4, 0, ([] : List Int), (by omega), (by omega), (Nat.zero_le _), EL.go, rfl, rfl⟩ ?_
 rintro _ _ _ ⟨i_, p_q, s_q, o_a, o_c, o_, hpq_, hi, hol, ⟨_, rfl⟩, rfl, rfl⟩
 refine go ?_
 refine jA [1] (D_below c_1 pa pc p p_q s_q (by omega) (by omega) 3 (by omega)) (hpre := fun w hw => ⟨hw.seeOut_ hs_pa nM, hw.apart hs_pa nM (by simp)⟩) ?_
 rintro _ _ ⟨qp_5, qs_6, n_8, fq_7, f_9, rfl, rfl⟩
 refine go ?_
 by_cases h_11 : ((i_ : Nat) : Int) < ((n_8 : Nat) : Int)
 · refine go ?_
   refine jA [0] (D_below c_1 pa pc p qp_5 qs_6 (by omega) (by omega) 4 (by omega)) (hpre := fun w hw => ⟨hw.seeOut_ hs_pa nM, hw.apart hs_pa nM (by simp)⟩) ?_
   rintro _ _ ⟨qp_12, qs_13, n_15, fq_14, f_16, rfl, rfl⟩
   refine jF rfl (jR (ps := [(0, nv n_15)]) (cur := #[nv n_15]) kL kS kZ rfl (by kernel_rfl) (by decide) (by decide)) ?_
   rintro _ _ ⟨a_18, rfl, rfl⟩
   refine jF rfl (jX 2 (q := 1) (news := ([((n_15 : Nat) : Int)] : List Int).map (Value.int .i64)) (n' := (o_ ++ ([((n_15 : Nat) : Int)] : List Int)).length) (cs' := (o_ ++ ([((n_15 : Nat) : Int)] : List Int)).map (Value.int .i64)) rfl kL kL kl rfl (by' := 8) rfl rfl rfl rfl rfl (fun w hw => Src.sees (hw.see (i := 0) rfl) (oneI _)) (by (try simp only [LE]); omega) (by (try simp only [LE]); omega) (by simp only [List.length_append, List.length_take, List.length_drop, List.length_cons, List.length_nil] <;> first | rfl | omega) (by simp only [List.map_append])) ?_
   rintro _ _ ⟨a_19, c_20, rfl, rfl⟩
   refine go ?_
   exact jP [2, 1] ⟨(i_ + 1), qp_12, qs_13, a_19, c_20, (o_ ++ ([((n_15 : Nat) : Int)] : List Int)), (by omega), (by omega), (by (try simp only [List.length_append, List.length_cons, List.length_nil]); omega), EL.go, rfl, rfl⟩
 refine go ?_
 refine jA [] (D_case19 pa pc p (by omega)) (hpre := fun w hw => hw.seeOut_ hs_pa nM) ?_
 rintro _ _ ⟨a_21, c_22, y_23, hx_24, rfl, rfl⟩
 have hx_241 := hx_24.1
 refine go ?_
 exact jQ [0, 1] ⟨a_21, c_22, y_23, o_a, o_c, o_, hx_24, by omega, rfl, rfl⟩

set_option maxRecDepth 4000 in
theorem D_dWould (pa : Option Addr) (pc : Nat) (p : Str) (hp : p.length ≤ 1048576) :
   Ct Tryz.prog 74 [.slice pa p.length pc] [] (fun w => Sees w (.slice pa p.length pc) 1 p.length (p.map encB)) (fun v A' => ∃ a c s' z, ∃ C : CL, okC' 10938 1048576 s' ∧ tInv 12 5 z.t ∧ C.ok 1048576 ∧ v = .tuple #[.slice a s'.length c, .agg #[.int .i64 z.t.id, .int .i64 z.t.age, .int .i64 z.t.proc, .int .i64 z.t.began, .slice z.x.a0 z.t.calls.length z.x.c0, .slice z.x.a1 z.t.ans.length z.x.c1, .slice z.x.a2 z.t.rd.length z.x.c2, .slice z.x.a3 z.t.wr.length z.x.c3, .slice z.x.a4 z.t.marks.length z.x.c4, .int .i64 z.t.state], .agg #[.int .i64 C.kind, str C.name, str C.to_, .int .i64 C.a, .int .i64 C.b, str C.text]] ∧ A' = [rC a c s', .rows (rdsX z)]) := by
 refine Ct.intro Tryz.func74 rfl Tryz.ntmps74 (lb rfl) fun w0 hpre => ?_
 have hs_pa : Sees w0 _ _ _ _ := hpre
 refine go ?_
 refine jG xzc fun b_1 => ?_
 refine jG [iv 0, str [], str [], iv 0, iv 0, str []] fun b_2 => ?_
 refine go ?_
 refine jA [] (D_dTxAsk pa pc p (by omega)) (hpre := fun w hw => hw.seeOut_ hs_pa nM) ?_
 rintro _ _ ⟨a_3, c_4, l_5, z_6, C_7, hO_8, hd_9, hC_10, rfl, rfl⟩
 refine go ?_
 refine jD 3 (xc z_6) ?_
 refine jD 2 [iv C_7.kind, str C_7.name, str C_7.to_, iv C_7.a, iv C_7.b, str C_7.text] ?_
 refine go ?_
 exact jt [0, 0] ⟨a_3, c_4, l_5, z_6, C_7, hO_8, hd_9, hC_10, rfl, rfl⟩
end Go.Proofs.YthlfmbbaomdciaaGreatDoor
