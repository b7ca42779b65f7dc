/-
Texts of the walk, joined: what each one proves stands at its theorems.
-/
import Derived.Test.YthlfmbbaomdciaaGreatDoorB4S45KOK
import Derived.Test.YthlfmbbaomdciaaGreatDoorB5DatRc
import Derived.Test.YthlfmbbaomdciaaGreatDoorB6DatHo
set_option linter.unusedSimpArgs false
set_option linter.unusedVariables false
set_option linter.unnecessarySimpa false
set_option maxHeartbeats 4000000
set_option maxRecDepth 4000
namespace Go.Proofs.YthlfmbbaomdciaaGreatDoor
open Go Go.RowKit
attribute [local irreducible] JL JC JQ JO LO PO JA JX Ct
theorem D_dPlaces (pa : Option Addr) (pc : Nat) (p : Str) (hp : p.length ≤ 1048577)  :
   Ct Tryz.prog 23 [.slice pa p.length pc] [] (fun w => Sees w (.slice pa p.length pc) 1 p.length (p.map encB)) (fun v A' => ∃ r0a r0c r0, (r0.length = 12 ∧ ∀ x ∈ r0, 0 ≤ x ∧ x ≤ 9999) ∧ v = .slice r0a r0.length r0c ∧ A' = [rI r0a r0c r0]) := by
 refine Ct.intro Tryz.func23 rfl Tryz.ntmps23 (lb rfl) fun w0 hpre => ?_
 have hs_pa : Sees w0 _ _ _ _ := hpre
 refine go ?_
 refine jA [] (D_new pa pc p (by omega)) (hpre := fun w hw => hw.seeOut_ hs_pa nM) ?_
 rintro _ _ ⟨c_1, qs_2, -, rfl, rfl⟩
 refine go ?_
 refine jF rfl (jR (ps := []) (cur := #[]) kL kS kZ rfl (by kernel_rfl) (by decide) (by decide)) ?_
 rintro _ _ ⟨a_4, rfl, rfl⟩
 refine go ?_
 refine jL (fun k_ e_ L_ => ∃ i_ : Nat, ∃ p_q : Nat, ∃ s_q : Int, ∃ o_a : Option Addr, ∃ o_c : Nat, ∃ o_ : List Int, (p_q ≤ p.length) ∧ (i_ ≤ 12) ∧ (o_.length = i_) ∧ (∀ x ∈ o_, 0 ≤ x ∧ x ≤ 9999) ∧ EL e_ [(2, .slice none 0 0), (3, .pointer (some ⟨c_1, 0, none⟩)), (4, .slice o_a o_.length o_c), (5, nv i_)] ∧ L_ = [rI o_a o_c o_, cb c_1 pa pc p p_q s_q] ∧ k_ = 13 - i_) _ ⟨0, 0, qs_2, a_4, 0, ([] : List Int), (by omega), (by omega), (by rfl), (by simp), EL.go, rfl, rfl⟩ ?_
 rintro _ _ _ ⟨i_, p_q, s_q, o_a, o_c, o_, hpq_, hi, hol, ho, ⟨_, rfl⟩, rfl, rfl⟩
 refine go ?_
 by_cases h_5 : ((i_ : Nat) : Int) < 12
 · refine go ?_
   refine jA [1] (D_below c_1 pa pc p p_q s_q (by omega) (by omega) 10000 (by omega)) (hpre := fun w hw => ⟨hw.seeOut_ hs_pa nM, hw.apart hs_pa nM (by simp)⟩) ?_
   rintro _ _ ⟨qp_6, qs_7, n_9, fq_8, f_10, rfl, rfl⟩
   refine jF rfl (jR (ps := [(0, nv n_9)]) (cur := #[nv n_9]) kL kS kZ rfl (by kernel_rfl) (by decide) (by decide)) ?_
   rintro _ _ ⟨a_12, rfl, rfl⟩
   refine jF rfl (jX 2 (q := 1) (news := ([((n_9 : Nat) : Int)] : List Int).map (Value.int .i64)) (n' := (o_ ++ ([((n_9 : Nat) : Int)] : List Int)).length) (cs' := (o_ ++ ([((n_9 : Nat) : Int)] : List Int)).map (Value.int .i64)) rfl kL kL kl rfl (by' := 8) rfl rfl rfl rfl rfl (fun w hw => Src.sees (hw.see (i := 0) rfl) (oneI _)) (by (try simp only [LE]); omega) (by (try simp only [LE]); omega) (by simp only [List.length_append, List.length_take, List.length_drop, List.length_cons, List.length_nil] <;> first | rfl | omega) (by simp only [List.map_append])) ?_
   rintro _ _ ⟨a_13, c_14, rfl, rfl⟩
   refine go ?_
   exact jP [2, 1] ⟨(i_ + 1), qp_6, qs_7, a_13, c_14, (o_ ++ ([((n_9 : Nat) : Int)] : List Int)), (by omega), (by omega), (by first | omega | (simp only [List.length_append, List.length_cons, List.length_nil, List.length_set]; omega)), (fun x hx => by rcases List.mem_append.1 hx with hx | hx; exact ho x hx; simp only [List.mem_cons, List.not_mem_nil, or_false] at hx; subst hx; omega), EL.go, rfl, rfl⟩
 refine go ?_
 exact jJ [0] ⟨o_a, o_c, o_, ⟨by omega, by assumption⟩, rfl, rfl⟩
end Go.Proofs.YthlfmbbaomdciaaGreatDoor
namespace Go.Proofs.YthlfmbbaomdciaaGreatDoor
open Go Go.RowKit
section
variable {w0 w : World} {D : List Nat} {L F : List Res} {rs A B C : List RD} {r : RD}
theorem SeesA.right (h : SeesA w (A ++ B)) : SeesA w B := fun q hq => h q (List.mem_append_right _ hq)
theorem SeesAE.right (h : SeesAE w (A ++ B)) : SeesAE w B := fun q hq => h q (List.mem_append_right _ hq)
end
section
variable {P : Program} {ops : Array Oper} {Q : Exit → Act → World → Prop} {n : Nat} {w0 : World} {D : List Nat} {L L' : List Res} {e : Env}
end
theorem addSpan_has {x : Str} : ∀ {l : List Str}, srt l → x ∈ l → addSpan l x = l
 | [], _, h => by cases h
 | y :: l, h, hx => by
   obtain ⟨h1, h2⟩ := List.pairwise_cons.1 h
   rw [addSpan_cons]
   split
   · rename_i hlt
     rcases List.mem_cons.1 hx with rfl | hx
     · rw [bl_irr] at hlt; cases hlt
     · rw [addSpan_has h2 hx]
   · rename_i hn
     rcases List.mem_cons.1 hx with rfl | hx
     · rw [if_pos rfl]
     · exact absurd (h1 x hx) hn
theorem addAll_has : ∀ {xs l : List Str}, srt l → (∀ x ∈ xs, x ∈ l) → xs.foldl addSpan l = l
 | [], l, _, _ => rfl
 | x :: xs, l, h, hx => by
   rw [List.foldl_cons, addSpan_has h (hx x (List.mem_cons_self ..))]
   exact addAll_has h fun y hy => hx y (List.mem_cons_of_mem _ hy)
end Go.Proofs.YthlfmbbaomdciaaGreatDoor
namespace Go.Proofs.YthlfmbbaomdciaaGreatDoor
open Go Go.RowKit
attribute [local irreducible] JL JC JQ JO LO PO JA JX Ct
theorem D_proc14 (qb : Nat) (qa : Option Addr) (qc : Nat) (ql : Str) (qp : Nat) (qs : Int) (hql : ql.length ≤ 1048577) (hqp : qp ≤ ql.length)  :
   Ct Tryz.prog 119 [.pointer (some ⟨qb, 0, none⟩)] [cb qb qa qc ql qp qs] (fun w => seesC w qa qc ql [cb qb qa qc ql qp qs]) (fun v A' => ∃ qp' qs' r0, qp' ≤ ql.length ∧ (-9223372036854775808 ≤ r0 ∧ r0 ≤ 9223372036854775807) ∧ v = .int .i64 r0 ∧ A' = [cb qb qa qc ql qp' qs']) := by
 refine Ct.intro Tryz.func119 rfl Tryz.ntmps119 (lb rfl) fun w0 hpre => ?_
 have hs_qa : Sees w0 _ _ _ _ := hpre.1
 refine go ?_
 refine jF rfl (jR (ps := [(0, iv 1), (1, iv 1), (2, iv 1), (3, iv 1), (4, iv 2), (5, iv 3), (6, iv 0), (7, iv (-1))]) (cur := #[iv 1, iv 1, iv 1, iv 1, iv 2, iv 3, iv 0, iv (-1)]) kL kS kZ rfl (by kernel_rfl) (by decide) (by decide)) ?_
 rintro _ _ ⟨a_1, rfl, rfl⟩
 refine jA [1, 0] (D_pickInt qb qa qc ql qp qs a_1 8 ([1, 1, 1, 1, 2, 3, 0, -1] : List Int) (by omega) (by omega) (by simp) (by simp)) (hpre := fun w hw => ⟨hw.seeOut_ hs_qa (hpre.2), hw.apart hs_qa (hpre.2) (by simp)⟩) ?_
 rintro _ _ ⟨qp_2, qs_3, n_5, fq_4, f_6, rfl, rfl⟩
 have hbn_5 : -9223372036854775808 ≤ n_5 ∧ n_5 ≤ 9223372036854775807 := by have hx_ := f_6; simp only [List.mem_cons, List.not_mem_nil, or_false] at hx_; omega
 refine go ?_
 refine jE (.inl rfl) rfl (jC (v := iv n_5) rfl) (List.Sublist.refl _) ?_
 exact ⟨qp_2, qs_3, n_5, (by omega), (by first | omega | (simp only [LE]; omega)), rfl, rfl⟩
end Go.Proofs.YthlfmbbaomdciaaGreatDoor
namespace Go.Proofs.YthlfmbbaomdciaaGreatDoor
open Go Go.RowKit
/-- How great a store is at most behind so many calls; how many keys they touch. -/
def grow (S : Nat) : Nat → Nat
 | 0 => S
 | j + 1 => 3 * grow S j + 142
def growT (S T : Nat) : Nat → Nat := sumT (grow S) T
theorem grow_step (S j : Nat) : grow S (j + 1) = 3 * grow S j + 142 := rfl
theorem grow_le (S : Nat) {i j : Nat} (h : i ≤ j) : grow S i ≤ grow S j := by
 induction h with
 | refl => exact Nat.le_refl _
 | step _ ih => rw [grow_step]; omega
theorem growT_le (S T : Nat) {i j : Nat} (h : i ≤ j) : growT S T i ≤ growT S T j := sumT_le _ _ h
/-- Process 1 runs. -/
def runs (s : List Cell) : Prop := numOf (getKey s (keyNum ([114, 47] : Str) 1 ([47, 115] : Str))) = 1
theorem store_call {m : MS} (h : runs m.s) {c : CL} (hc : isStore c) : (m.doCall 1 c).2 = ⟨0, 0, []⟩ ∧ runs (m.doCall 1 c).1.s := by
 obtain ⟨h1, h2, h3, h4, h5, h6⟩ := hc
 have hst : m.state 1 = ((m.look (keyNum ([114, 47] : Str) 1 ([47, 115] : Str))).1, 1) := by
   show (_, numOf (getKey m.s _)) = _
   rw [h]
 have hok : callOk c = true := by
   simp only [callOk, h1, h4, h5, h6]
   decide
 have hk : ∀ q : MS, q.doKind 1 c = (q.lay (keyNum (keyNum ([109, 47] : Str) 1 ([47] : Str)) c.a []) (([45] : Str) ++ hexS [97, 98]), ⟨0, 0, []⟩) := by
   intro q
   simp only [MS.doKind, h1, MS.storePage, h6, if_pos h2]
   rfl
 have hd : m.doCall 1 c = (((m.look (keyNum ([114, 47] : Str) 1 ([47, 115] : Str))).1).lay (keyNum (keyNum ([109, 47] : Str) 1 ([47] : Str)) c.a []) (([45] : Str) ++ hexS [97, 98]), ⟨0, 0, []⟩) := by
   simp only [MS.doCall, hst, hok, hk]
   rfl
 rw [hd]
 refine ⟨rfl, ?_⟩
 show numOf (getKey (putKey m.s _ _) _) = 1
 rw [getKey_put_ne (by intro he; have h_ := congrArg List.head? he; simp [keyNum] at h_)]
 exact h
theorem run_stores : ∀ (l : List SP) (m : MS) (o : List AN), runs m.s → (∀ p ∈ l, p.proc = 1 ∧ isStore p.call) → runs (m.runA l o).1.s
 | [], m, o, h, _ => h
 | p :: l, m, o, h, hl => by
   have h0 := hl p (List.mem_cons_self ..)
   rw [MS.runA]
   refine run_stores l _ _ ?_ fun q hq => hl q (List.mem_cons_of_mem _ hq)
   rw [h0.1]
   exact (store_call h h0.2).2
theorem stInv.step {i : Nat} {t z : TD} {s : List Cell} {c : CL} {a : AN} (h : stInv i t) (hs : runs s) (hi : i < 12) (hc : isStore c) (e : TD.askV (viewA s t) t c = (z, a)) (hb : z.rd.length ≤ t.rd.length + 20000000 ∧ z.wr.length ≤ t.wr.length + 20000000) : stInv (i + 1) z ∧ a = ⟨0, 0, []⟩ := by
 have hn := h.n
 have hr := h.r
 have hw := h.w
 rw [askV_on h.s (by omega), h.p] at e
 have hv : runs (viewA s t) := run_stores _ _ _ hs fun p hp => by
   obtain ⟨q, hq, rfl⟩ := List.mem_map.1 hp
   exact ⟨h.p, h.cs q hq⟩
 have hd := (store_call (m := ⟨viewA s t, [], []⟩) hv hc).1
 rw [hd] at e
 simp only [Prod.mk.injEq] at e
 obtain ⟨rfl, rfl⟩ := e
 refine ⟨⟨h.s, rfl, ?_, ?_, by dsimp only at hb ⊢; omega, by dsimp only at hb ⊢; omega, ?_, h.m⟩, rfl⟩
 · simp only [List.length_append, List.length_cons, List.length_nil]; omega
 · intro q hq
   rcases List.mem_append.1 hq with hq | hq
   · exact h.cs q hq
   · rw [List.mem_singleton] at hq; rw [hq]; exact hc
 · have := h.a; simp only [List.length_append, List.length_cons, List.length_nil]; omega
theorem mkInv.step {i : Nat} {t z y : TD} {v : List Cell} {c : CL} {a : AN} (h : mkInv i t) (hi : i < 4) (e0 : z = t.mark.1) (hc : c.ok 1048576) (e : TD.askV v z c = (y, a)) (hb : y.rd.length ≤ z.rd.length + 20000000 ∧ y.wr.length ≤ z.wr.length + 20000000) : mkInv (i + 1) y := by
 have hn := h.n
 have hr := h.r
 have hw := h.w
 rw [mark_eq h hi] at e0
 subst e0
 rw [askV_on (t := { t with marks := t.marks ++ [((i : Nat) : Int)] }) h.s (by show ¬ 12 ≤ t.calls.length; omega)] at e
 simp only [Prod.mk.injEq] at e
 obtain ⟨rfl, rfl⟩ := e
 refine ⟨h.s, h.p, ?_, ?_, by dsimp only at hb ⊢; omega, by dsimp only at hb ⊢; omega, ?_, ?_⟩
 · simp only [List.length_append, List.length_cons, List.length_nil]; omega
 · intro q hq
   rcases List.mem_append.1 hq with hq | hq
   · exact h.cs q hq
   · rw [List.mem_singleton] at hq; rw [hq]; exact hc
 · have := h.a; simp only [List.length_append, List.length_cons, List.length_nil]; omega
 · show t.marks ++ _ = _
   rw [h.m, List.range_succ, List.map_append]
   rfl
theorem xInv.step {i : Nat} {t z : TD} {v : List Cell} {c : CL} {a : AN} (h : xInv i t) (hi : i < 12) (hc : c.ok 1048576) (e : TD.askV v t c = (z, a)) (hb : z.rd.length ≤ t.rd.length + 20000000 ∧ z.wr.length ≤ t.wr.length + 20000000) : xInv (i + 1) z := by
 have hn := h.n
 have ha := h.a
 have hr := h.r
 have hw := h.w
 rw [askV_on h.s (by omega)] at e
 simp only [Prod.mk.injEq] at e
 obtain ⟨rfl, rfl⟩ := e
 refine ⟨h.s, h.p, ?_, fun q hq => ?_, by dsimp only at hb ⊢; omega, by dsimp only at hb ⊢; omega, ?_, h.m⟩
 · simp only [List.length_append, List.length_cons, List.length_nil]; omega
 · rcases List.mem_append.1 hq with hq | hq
   · exact h.cs q hq
   · rw [List.mem_singleton] at hq; rw [hq]; exact hc
 · simp only [List.length_append, List.length_cons, List.length_nil]; omega
theorem growR {i : Nat} (h : i ≤ 12) : gro 10935 i ≤ 2800000 := Nat.le_trans (gro_le 10935 h) (by decide)
theorem growTR {i : Nat} (h : i ≤ 12) : groT 10935 0 i ≤ 20000000 := Nat.le_trans (groT_le 10935 0 h) (by decide)
theorem growV {i : Nat} (h : i ≤ 12) : gro 10935 i ≤ 2800000 := growR h
theorem growTV {i : Nat} (h : i ≤ 12) : groT 10935 0 i ≤ 20000000 := growTR h
theorem growS {i : Nat} (h : i ≤ 6) : grow 10935 i ≤ 28000000 := Nat.le_trans (grow_le 10935 h) (by decide)
theorem growTS {i : Nat} (h : i ≤ 6) : growT 10935 0 i ≤ 1000000000 := Nat.le_trans (growT_le 10935 0 h) (by decide)
theorem ask_tr {v : List Cell} {t : TD} {c : CL} (h : t.state = 1) (h2 : t.calls.length < 12) (hr : srt t.rd) (hw : srt t.wr) :
   TD.askV v t c = ({ t with calls := t.calls ++ [c], ans := t.ans ++ [(callTr v t.proc c).v], rd := (callTr v t.proc c).r.foldl addSpan t.rd, wr := (callTr v t.proc c).w.foldl addSpan t.wr }, (callTr v t.proc c).v) := by
 rw [askV_on h (by omega), doCall_tr]
 dsimp only
 rw [fresh_all hr, fresh_all hw]
end Go.Proofs.YthlfmbbaomdciaaGreatDoor
namespace Go.Proofs.YthlfmbbaomdciaaGreatDoor
open Go Go.RowKit
namespace Pr
variable {α : Type}
end Pr
theorem run_grow {s : List Cell} {n : Nat} (h : s.length ≤ n) (l : List SP) : runB s l (grow n) := fun j => by
 induction j with
 | zero => exact fun _ => h
 | succ j ih =>
   intro hj
   have h1 := ih (by omega)
   rw [take_at (getD_some (d := p0_) (show j < l.length by omega)), stepsTr_snoc, grow_step]
   have h2 := callTr_grow (stepsTr s (l.take j)).s (l.getD j p0_).proc (l.getD j p0_).call
   have h3 := cnt_le (Q := Pr.QQ (l.getD j p0_).proc) (s := (stepsTr s (l.take j)).s)
   dsimp only
   omega
end Go.Proofs.YthlfmbbaomdciaaGreatDoor
namespace Go.Proofs.YthlfmbbaomdciaaGreatDoor
open Go Go.RowKit
def within (lo n hi : Int) : Bool := decide (lo ≤ n) && decide (n ≤ hi)
end Go.Proofs.YthlfmbbaomdciaaGreatDoor
namespace Go.Proofs.YthlfmbbaomdciaaGreatDoor
open Go Go.RowKit
theorem okSteps.nil : okSteps [] := fun j hj => absurd hj (Nat.not_lt_zero j)
theorem okSteps.snoc {l : List SP} {p : SP} (h : okSteps l) (h1 : p.call.ok 1048576) (h2 : -9223372036854775808 ≤ p.proc ∧ p.proc ≤ 9223372036854775807) : okSteps (l ++ [p]) := fun j hj => by
 by_cases hl : j < l.length
 · rw [show (l ++ [p]).getD j p0_ = l.getD j p0_ by simp [List.getD_eq_getElem?_getD, List.getElem?_append_left hl]]
   exact h j hl
 · have he : j = l.length := by simp only [List.length_append, List.length_cons, List.length_nil] at hj; omega
   subst he
   rw [show (l ++ [p]).getD l.length p0_ = p by simp [List.getD_eq_getElem?_getD]]
   exact ⟨h1, h2.1, h2.2⟩
attribute [local irreducible] JL JC JQ JO LO PO JA JX Ct

theorem D_steps15 (qb : Nat) (qa : Option Addr) (qc : Nat) (ql : Str) (qp : Nat) (qs : Int) (hql : ql.length ≤ 1048577) (hqp : qp ≤ ql.length) (n : Int) (hn : -9223372036854775808 ≤ n ∧ n ≤ 9223372036854775807) (hn6 : n ≤ 6) :
   Ct Tryz.prog 149 [.pointer (some ⟨qb, 0, none⟩), .int .i64 n] [cb qb qa qc ql qp qs] (fun w => seesC w qa qc ql [cb qb qa qc ql qp qs]) (fun v A' => ∃ qp' qs' r0a r0c r0, qp' ≤ ql.length ∧ (okSteps r0 ∧ r0.length ≤ 6) ∧ v = .slice r0a r0.length r0c ∧ A' = cb qb qa qc ql qp' qs' :: [Res.row (.slice r0a r0.length r0c) 45 7 r0.length (r0.flatMap encP)]) := by
 refine Ct.intro Tryz.func149 rfl Tryz.ntmps149 (lb rfl) fun w0 hpre => ?_
 have hs_qa : Sees w0 _ _ _ _ := hpre.1
 refine go ?_
 refine jF rfl (jR (ps := []) (cur := #[]) kh ks Tryz.zeroValue45 rfl (by kernel_rfl) (by decide) (by decide)) ?_
 rintro _ _ ⟨a_1, rfl, rfl⟩
 refine go ?_
 refine jL (fun k_ e_ L_ => ∃ i_ : Nat, ∃ p_q : Nat, ∃ s_q : Int, ∃ o_a : Option Addr, ∃ o_c : Nat, ∃ o_ : List SP, (p_q ≤ ql.length) ∧ (i_ ≤ 6) ∧ (o_.length = i_) ∧ (okSteps o_) ∧ EL e_ [(0, .pointer (some ⟨qb, 0, none⟩)), (1, iv n), (4, .slice none 0 0), (5, .slice o_a o_.length o_c), (6, nv i_)] ∧ L_ = [Res.row (.slice o_a o_.length o_c) 45 7 o_.length (o_.flatMap encP), cb qb qa qc ql p_q s_q] ∧ k_ = 7 - i_) _ ⟨0, qp, qs, a_1, 0, ([] : List SP), (by omega), (by omega), (by rfl), okSteps.nil, EL.go, rfl, rfl⟩ ?_
 rintro _ _ _ ⟨i_, p_q, s_q, o_a, o_c, o_, hpq_, hi, ho, hP, ⟨_, rfl⟩, rfl, rfl⟩
 refine go ?_
 refine jA [1] (D_below qb qa qc ql p_q s_q (by omega) (by omega) (n + 1) (by omega)) (hpre := fun w hw => ⟨hw.seeOut_ hs_qa (hpre.2), hw.apart hs_qa (hpre.2) (by simp)⟩) ?_
 rintro _ _ ⟨qp_2, qs_3, n_5, fq_4, f_6, rfl, rfl⟩
 refine go ?_
 by_cases h_8 : ((i_ : Nat) : Int) < ((n_5 : Nat) : Int)
 · refine go ?_
   refine jA [0] (D_proc14 qb qa qc ql qp_2 qs_3 (by omega) (by omega)) (hpre := fun w hw => ⟨hw.seeOut_ hs_qa (hpre.2), hw.apart hs_qa (hpre.2) (by simp)⟩) ?_
   rintro _ _ ⟨qp_9, qs_10, n_12, fq_11, f_13, rfl, rfl⟩
   refine go ?_
   refine jA [0] (D_any13 qb qa qc ql qp_9 qs_10 (by omega) (by omega)) (hpre := fun w hw => ⟨hw.seeOut_ hs_qa (hpre.2), hw.apart hs_qa (hpre.2) (by simp)⟩) ?_
   rintro _ _ ⟨qp_15, qs_16, C_18, fq_17, f_19, rfl, rfl⟩
   obtain ⟨f_191, f_192, f_193, f_194, f_195, f_196⟩ := id f_19
   refine jK (je (ps := [(0, iv n_12), (1, .agg #[iv C_18.kind, str C_18.name, str C_18.to_, iv C_18.a, iv C_18.b, str C_18.text])]) (cs := [iv n_12, iv C_18.kind, str C_18.name, str C_18.to_, iv C_18.a, iv C_18.b, str C_18.text]) rfl (by kernel_rfl)) ?_
   refine jF rfl (jR (ps := [(0, .agg #[iv n_12, iv C_18.kind, str C_18.name, str C_18.to_, iv C_18.a, iv C_18.b, str C_18.text])]) (cur := #[iv n_12, iv C_18.kind, str C_18.name, str C_18.to_, iv C_18.a, iv C_18.b, str C_18.text]) kh ks Tryz.zeroValue45 rfl (by kernel_rfl) (by decide) (by decide)) ?_
   rintro _ _ ⟨a_21, rfl, rfl⟩
   refine jF rfl (jX 2 (q := 1) (news := ([(⟨n_12, C_18⟩ : SP)] : List SP).flatMap encP) (n' := (o_ ++ ([(⟨n_12, C_18⟩ : SP)] : List SP)).length) (cs' := (o_ ++ ([(⟨n_12, C_18⟩ : SP)] : List SP)).flatMap encP) rfl kh kh Tryz.typeInfo45 rfl (by' := 80) rfl rfl rfl rfl rfl (fun w hw => Src.sees (hw.see (i := 0) rfl) (oneP _)) (by (try simp only [LE]); omega) (by (try simp only [LE]); omega) (by simp only [List.length_append, List.length_take, List.length_drop, List.length_cons, List.length_nil] <;> first | rfl | omega) (by simp only [List.flatMap_append])) ?_
   rintro _ _ ⟨a_22, c_23, rfl, rfl⟩
   refine go ?_
   exact jP [2, 1] ⟨(i_ + 1), qp_15, qs_16, a_22, c_23, (o_ ++ ([(⟨n_12, C_18⟩ : SP)] : List SP)), (by omega), (by omega), (by first | omega | (simp only [List.length_append, List.length_cons, List.length_nil, List.length_set]; omega)), (okSteps.snoc hP f_19 (by dsimp only; omega)), EL.go, rfl, rfl⟩
 refine go ?_
 refine jE (.inl rfl) rfl (jC (v := .slice o_a o_.length o_c) rfl) (List.Sublist.refl _) ?_
 exact ⟨qp_2, qs_3, o_a, o_c, o_, (by omega), ⟨hP, by omega⟩, rfl, rfl⟩

theorem D_l15Case (pa : Option Addr) (pc : Nat) (p : Str) (hp : p.length ≤ 1048577)  :
   Ct Tryz.prog 95 [.slice pa p.length pc] [] (fun w => Sees w (.slice pa p.length pc) 1 p.length (p.map encB)) (fun v A' => ∃ r0a r0c r0 r1a r1c r1, (okC' 10935 1048576 r0 ∧ stOk r0) ∧ (okSteps r1 ∧ r1.length ≤ 6) ∧ v = .tuple #[.slice r0a r0.length r0c, .slice r1a r1.length r1c] ∧ A' = rC r0a r0c r0 :: [Res.row (.slice r1a r1.length r1c) 45 7 r1.length (r1.flatMap encP)]) := by
 refine Ct.intro Tryz.func95 rfl Tryz.ntmps95 (lb rfl) fun w0 hpre => ?_
 have hs_pa : Sees w0 _ _ _ _ := hpre
 refine go ?_
 refine jA [] (D_new pa pc p (by omega)) (hpre := fun w hw => hw.seeOut_ hs_pa nM) ?_
 rintro _ _ ⟨c_1, qs_2, -, rfl, rfl⟩
 refine go ?_
 refine jA [0] (D_store6 c_1 pa pc p 0 qs_2 (by omega) (by omega) 6 (by omega) (by decide)) (hpre := fun w hw => ⟨hw.seeOut_ hs_pa nM, hw.apart hs_pa nM (by simp)⟩) ?_
 rintro _ _ ⟨qp_4, qs_5, l_7a, l_7c, l_7, fq_6, f_8, rfl, rfl⟩
 have hO1_l_7 := f_8.1.1
 refine go ?_
 refine jA [0] (D_steps15 c_1 pa pc p qp_4 qs_5 (by omega) (by omega) 6 (by omega) (by decide)) (hpre := fun w hw => ⟨hw.seeOut_ hs_pa nM, hw.apart hs_pa nM (by simp)⟩) ?_
 rintro _ _ ⟨qp_10, qs_11, l_13a, l_13c, l_13, fq_12, f_14, rfl, rfl⟩
 refine go ?_
 exact jQ [2, 1] ⟨l_7a, l_7c, l_7, l_13a, l_13c, l_13, ⟨f_8.1, f_8.2⟩, f_14, rfl, rfl⟩

theorem D_DrawSerialRun (pa : Option Addr) (pc : Nat) (p : Str) (hp : p.length ≤ 1048577)  :
   Ct Tryz.prog 14 [.slice pa p.length pc] [] (fun w => Sees w (.slice pa p.length pc) 1 p.length (p.map encB)) (fun v A' => ∃ r0a r0c r0 r1a r1c r1, (okC' 10935 1048576 r0 ∧ stOk r0) ∧ (okSteps r1 ∧ r1.length ≤ 6) ∧ v = .tuple #[.slice r0a r0.length r0c, .slice r1a r1.length r1c] ∧ A' = rC r0a r0c r0 :: [Res.row (.slice r1a r1.length r1c) 45 7 r1.length (r1.flatMap encP)]) := by
 refine Ct.intro Tryz.func14 rfl Tryz.ntmps14 (lb rfl) fun w0 hpre => ?_
 have hs_pa : Sees w0 _ _ _ _ := hpre
 refine go ?_
 refine jA [] (D_l15Case pa pc p (by omega)) (hpre := fun w hw => hw.seeOut_ hs_pa nM) ?_
 rintro _ _ ⟨l_1a, l_1c, l_1, l_3a, l_3c, l_3, f_2, f_4, rfl, rfl⟩
 have hO1_l_1 := f_2.1.1
 refine go ?_
 refine ji (.inl rfl) rfl (jC (v := .slice l_1a l_1.length l_1c) rfl) (jC (v := .slice l_3a l_3.length l_3c) rfl) (List.Sublist.refl _) ?_
 exact ⟨l_1a, l_1c, l_1, l_3a, l_3c, l_3, ⟨f_2.1, f_2.2⟩, f_4, rfl, rfl⟩
end Go.Proofs.YthlfmbbaomdciaaGreatDoor
namespace Go.Proofs.YthlfmbbaomdciaaGreatDoor
open Go Go.RowKit
section
variable {s : List Cell} {l : List SP} {r w : List Str} {M M' : List Int} {P : Int} {i j : Nat} {t z y : TD}
theorem bInv.srtR (h : bInv s l r w M P i j t) (hr : srt r) : srt t.rd := by rw [h.rd]; exact hr.addAll
theorem bInv.srtW (h : bInv s l r w M P i j t) (hw : srt w) : srt t.wr := by rw [h.wr]; exact hw.addAll
theorem bInv.step {a : AN} (h : bInv s l r w M P i j t) (hi : i < l.length) (hl : l.length ≤ 12) (hr : srt r) (hw : srt w) (e : TD.askV (viewA s t) t (l.getD i p0_).call = (z, a))
   (hb : z.rd.length ≤ t.rd.length + 20000000 ∧ z.wr.length ≤ t.wr.length + 20000000) : bInv s l r w M P (i + 1) (j + 1) z := by
 have hn := h.n
 have hrl := h.rl
 have hwl := h.wl
 rw [ask_tr h.s1 (by omega) (h.srtR hr) (h.srtW hw), viewA_tr] at e
 simp only [Prod.mk.injEq] at e
 obtain ⟨rfl, -⟩ := e
 have hso : stepsOf { t with calls := t.calls ++ [(l.getD i p0_).call], ans := t.ans ++ [(callTr (stepsTr s (stepsOf t)).s t.proc (l.getD i p0_).call).v], rd := (callTr (stepsTr s (stepsOf t)).s t.proc (l.getD i p0_).call).r.foldl addSpan t.rd, wr := (callTr (stepsTr s (stepsOf t)).s t.proc (l.getD i p0_).call).w.foldl addSpan t.wr } = stepsOf t ++ [⟨t.proc, (l.getD i p0_).call⟩] := by
   simp only [stepsOf, List.map_append, List.map_cons, List.map_nil]
 refine ⟨h.s1, h.p, h.q, ?_, ?_, ?_, ?_, ?_, by dsimp only at hb ⊢; omega, by dsimp only at hb ⊢; omega, h.m⟩
 · simp only [List.length_append, List.length_cons, List.length_nil]; omega
 · rw [take_at (getD_some (d := p0_) hi), List.map_append, ← h.c]; rfl
 · rw [hso, stepsTr_snoc]
   dsimp only
   rw [← h.a]
 · rw [hso, stepsTr_snoc]
   dsimp only
   rw [List.foldl_append, ← h.rd]
 · rw [hso, stepsTr_snoc]
   dsimp only
   rw [List.foldl_append, ← h.wr]
end
theorem right_iff {s : List Cell} {t : TD} : rightA s t = true ↔ (stepsTr s (stepsOf t)).v = t.ans ∧ (∀ x ∈ (stepsTr s (stepsOf t)).r, x ∈ t.rd) ∧ ∀ x ∈ (stepsTr s (stepsOf t)).w, x ∈ t.wr := by
 unfold rightA
 rw [runA_tr]
 simp only [Bool.and_eq_true, decide_eq_true_eq, inAll_iff, List.nil_append, mem_addAll, List.not_mem_nil, or_false]
theorem bInv.steps {s : List Cell} {l : List SP} {r w : List Str} {M : List Int} {i j : Nat} {z : TD} (h : bInv s l r w M 1 i j z) : stepsOf z = (l.take i).map fun p => (⟨1, p.call⟩ : SP) := by
 rw [stepsOf, h.c, h.p, List.map_map]; rfl
/-- A relation that is told of a read (a key, or a list of keys) and a key laid. -/
structure Meet (M : Str → Str → Bool) : Prop where
 k : ∀ k, M k k = true
 u : ∀ p w, prefixB w p = true → M (p ++ [42]) w = true
theorem under_eq {W : List Str} {s t : List Cell} (h : agree W s t) (hs : stOk s) (ht : stOk t) {p : Str} (hp : ∀ w ∈ W, prefixB w p = false) : keysUnder s p = keysUnder t p := by
 have half : ∀ {s t : List Cell}, stOk s → (∀ k, ¬ k ∈ W → getKey s k = getKey t k) → ∀ c ∈ s.filter (fun c => prefixB c.1 p), c ∈ t.filter (fun c => prefixB c.1 p) := by
   intro s t hs h c hc
   obtain ⟨hc, hb⟩ := List.mem_filter.1 hc
   have hn : ¬ c.1 ∈ W := fun hw => by rw [hp _ hw] at hb; cases hb
   have h1 := hs.o.get c hc
   rcases getKey_mem (s := t) (key := c.1) with h2 | ⟨d, hd, h3, h4⟩
   · exact absurd (by rw [← h1, h _ hn, h2]) (hs.c c hc).2.1
   · rw [← h _ hn, h1] at h4
     have : d = c := Prod.ext h3 h4
     exact List.mem_filter.2 ⟨by rwa [← this], hb⟩
 have : s.filter (fun c => prefixB c.1 p) = t.filter (fun c => prefixB c.1 p) := ordC.ext (hs.o.filter _) (ht.o.filter _) fun c => ⟨half hs h c, half ht (fun k hk => (h k hk).symm) c⟩
 unfold keysUnder
 rw [this]
theorem local_tr {M : Str → Str → Bool} (hM : Meet M) {W : List Str} {α : Type} : ∀ (p : Pr α) {s t : List Cell}, stOk s → stOk t → agree W s t → off M (p.tr s).r W →
   (p.tr t).v = (p.tr s).v ∧ (p.tr t).r = (p.tr s).r ∧ (p.tr t).w = (p.tr s).w ∧ agree W (p.tr s).s (p.tr t).s
 | .ret a, s, t, _, _, h, _ => ⟨rfl, rfl, rfl, h⟩
 | .look k f, s, t, hs, ht, h, ho => by
   have hk : ¬ k ∈ W := fun hw => by have := ho k (List.mem_cons_self ..) k hw; rw [hM.k] at this; cases this
   obtain ⟨h1, h2, h3, h4⟩ := local_tr hM (f (getKey s k)) hs ht h fun x hx => ho x (List.mem_cons_of_mem _ hx)
   simp only [Pr.tr, ← h k hk]
   exact ⟨h1, by rw [h2], h3, h4⟩
 | .lay k v p, s, t, hs, ht, h, ho => by
   obtain ⟨h1, h2, h3, h4⟩ := local_tr hM p (hs.put k v) (ht.put k v) (h.put hs ht k v) ho
   exact ⟨h1, h2, by simp only [Pr.tr, h3], h4⟩
 | .under k f, s, t, hs, ht, h, ho => by
   have hk : ∀ w ∈ W, prefixB w k = false := fun w hw => by
     cases hb : prefixB w k with
     | false => rfl
     | true => have := ho (k ++ [42]) (List.mem_cons_self ..) w hw; rw [hM.u k w hb] at this; cases this
   obtain ⟨h1, h2, h3, h4⟩ := local_tr hM (f (keysUnder s k)) hs ht h fun x hx => ho x (List.mem_cons_of_mem _ hx)
   simp only [Pr.tr, ← under_eq h hs ht hk]
   exact ⟨h1, by rw [h2], h3, h4⟩
theorem local_steps {M : Str → Str → Bool} (hM : Meet M) {W : List Str} : ∀ (l : List SP) {s t : List Cell}, stOk s → stOk t → agree W s t → off M (stepsTr s l).r W →
   (stepsTr t l).v = (stepsTr s l).v ∧ (stepsTr t l).r = (stepsTr s l).r ∧ (stepsTr t l).w = (stepsTr s l).w ∧ agree W (stepsTr s l).s (stepsTr t l).s
 | [], s, t, _, _, h, _ => ⟨rfl, rfl, rfl, h⟩
 | p :: l, s, t, hs, ht, h, ho => by
   obtain ⟨h1, h2, h3, h4⟩ := local_tr hM (Pr.doCall p.proc p.call) hs ht h fun x hx => ho x (List.mem_append_left _ hx)
   obtain ⟨g1, g2, g3, g4⟩ := local_steps hM l (hs.tr (Pr.doCall p.proc p.call)) (ht.tr (Pr.doCall p.proc p.call)) h4 fun x hx => ho x (List.mem_append_right _ hx)
   refine ⟨?_, ?_, ?_, g4⟩
   · show _ :: _ = _ :: _
     rw [show (callTr t p.proc p.call).v = (callTr s p.proc p.call).v from h1]; exact congrArg _ g1
   · show _ ++ _ = _ ++ _
     rw [show (callTr t p.proc p.call).r = (callTr s p.proc p.call).r from h2]; exact congrArg _ g2
   · show _ ++ _ = _ ++ _
     rw [show (callTr t p.proc p.call).w = (callTr s p.proc p.call).w from h3]; exact congrArg _ g3
theorem pfx_iff {s p : Str} : prefixB s p = true ↔ ∃ q, s = p ++ q := by
 unfold prefixB
 simp only [Bool.and_eq_true, decide_eq_true_eq]
 constructor
 · rintro ⟨_, h⟩
   exact ⟨s.drop p.length, by have h2 := List.take_append_drop p.length s; rw [h] at h2; exact h2.symm⟩
 · rintro ⟨q, rfl⟩
   simp
theorem pfx_self (p : Str) : prefixB p p = true := pfx_iff.2 ⟨[], by simp⟩
theorem cut_star (p : Str) : cutSuf (p ++ [42]) [42] = (p, true) := by
 rw [cutSuf_open (by simp) (by simp [List.getD_eq_getElem?_getD])]
 simp
theorem okR_steps : ∀ (l : List SP) {s : List Cell}, Pr.okKeys s → (∀ p ∈ l, p.call.ok 1048576 ∧ -9223372036854775808 ≤ p.proc ∧ p.proc ≤ 9223372036854775807) → okW (stepsTr s l).r
 | [], s, _, _ => fun k hk => by cases hk
 | p :: l, s, h, hl => fun k hk => by
   have hp := hl p (List.mem_cons_self ..)
   rcases List.mem_append.1 hk with hk | hk
   · exact callTr_r ⟨hp.2.1, hp.2.2⟩ hp.1 h k hk
   · exact okR_steps l (callTr_keys h _ _) (fun q hq => hl q (List.mem_cons_of_mem _ hq)) k hk
section
variable {s : List Cell} {l l' : List SP} {r w : List Str} {M M' : List Int} {P : Int} {i j : Nat} {t z y : TD}
theorem bInv.okR (h : bInv s l r w M P i j t) (hl : okSteps l) {n : Nat} (hs : okC' n 1048576 s) (hr : Go.Proofs.YthlfmbbaomdciaaGreatDoor.okW r) : Go.Proofs.YthlfmbbaomdciaaGreatDoor.okW t.rd := by
 rw [h.rd]
 refine hr.add (okR_steps _ hs.keys fun p hp => ?_)
 obtain ⟨c, hc, rfl⟩ := List.mem_map.1 hp
 exact ⟨h.okc hl c hc, by dsimp only; rw [h.p]; have := h.q; omega, by dsimp only; rw [h.p]; have := h.q; omega⟩
theorem bInv.right (h : bInv s l r w M P i j t) : rightA s t = true :=
 right_iff.2 ⟨h.a.symm, fun k hk => by rw [h.rd]; exact mem_addAll.2 (.inl hk), fun k hk => by rw [h.wr]; exact mem_addAll.2 (.inl hk)⟩
end
end Go.Proofs.YthlfmbbaomdciaaGreatDoor
