/-
Texts of the walk, joined: what each one proves stands at its theorems.
-/
import Derived.Test.YthlfmbbaomdciaaGreatDoorB2S81SEES
import Derived.Test.YthlfmbbaomdciaaGreatDoorB3S65TX
set_option linter.unusedSimpArgs false
set_option linter.unusedVariables false
set_option linter.unnecessarySimpa false
set_option maxHeartbeats 4000000
set_option maxRecDepth 4000
namespace Go.Proofs.YthlfmbbaomdciaaGreatDoor
open Go Go.RowKit
theorem cellUnder : Tryz.prog.underlying 130 = some (.struct (Tryz.prog.fieldsOf 130)) := by kernel_rfl
section
variable {n : Nat} {e : Env} {d : Option Tmp} {ty : TypeId} {pos : String} {aft : Array Edge} {gd : Option (Nat × Bool)}
theorem PO.neqCell {x y : Operand} {a b : Cell} {u : TypeId} (hx : rd n e x = .agg #[str a.1, str a.2]) (hy : rd n e y = .agg #[str b.1, str b.2]) : PO Tryz.prog n e ⟨d, .binOp .neq 130 x y u, ty, pos, aft, gd⟩ (.bool (!decide (a = b))) := fun w => by
 have he : (Op.equalIn 10000 130 (.agg #[str a.1, str a.2]) (.agg #[str b.1, str b.2])).run Tryz.prog w = .ok (decide (a = b)) w := by
   rw [run_equalIn_struct w 9999 130 _ _ cellUnder Tryz.stoodInHeld130]
   rw [show (Tryz.prog.fieldsOf 130).toList = [⟨ "Key", 9, 0, false, "", "", 0⟩, ⟨ "Val", 9, 1, false, "", "", 16⟩] by kernel_rfl]
   have e1 : (Op.equalIn 9999 9 (str a.1) (str b.1)).run Tryz.prog w = .ok (decide (a.1 = b.1)) w := by
     simp only [str]
     rw [run_equalIn_string w 9998 9 _ _ kO]
     simp [beq_dec]
   have e2 : (Op.equalIn 9999 9 (str a.2) (str b.2)).run Tryz.prog w = .ok (decide (a.2 = b.2)) w := by
     simp only [str]
     rw [run_equalIn_string w 9998 9 _ _ kO]
     simp [beq_dec]
   have p1 : ∀ c : Cell, (part 9 #[str c.1, str c.2] 0).run Tryz.prog w = .ok (str c.1) w := fun c => by simp [part, str]
   have p2 : ∀ c : Cell, (part 9 #[str c.1, str c.2] 1).run Tryz.prog w = .ok (str c.2) w := fun c => by simp [part, str]
   simp only [Op.eqFields, Sem.run_bind, p1, p2, e1, e2, Result.andThen_ok, ne_eq, Sem.run_ite, Sem.run_pure]
   obtain ⟨a1, a2⟩ := a
   obtain ⟨b1, b2⟩ := b
   by_cases h1 : a1 = b1 <;> by_cases h2 : a2 = b2 <;> simp [h1, h2, Prod.mk.injEq]

 simp only [execOp, hx, hy, Sem.run_bind, run_eqGuard_agg w .neq 130 x y _ _ Tryz.eqGuardType130, Result.andThen_ok, run_neq_struct, he, Sem.run_pure]
end
attribute [local irreducible] JL JC JQ JO LO PO JA JX Ct

theorem C_sameCells (a b : Option Addr) (c c' : Nat) (s t : List Cell) (hn : s.length ≤ 9223372036854775807) :
   Ct Tryz.prog 18 [.slice a s.length c, .slice b t.length c'] [] (fun w => Sees w (.slice a s.length c) 2 s.length (s.flatMap encC) ∧ Sees w (.slice b t.length c') 2 t.length (t.flatMap encC)) (fun r A' => r = .bool (decide (s = t)) ∧ A' = []) := by
 refine Ct.intro Tryz.func18 rfl Tryz.ntmps18 (lb rfl) fun w0 hpre => ?_
 have hs_a : Sees w0 _ _ _ _ := hpre.1
 have hs_b : Sees w0 _ _ _ _ := hpre.2
 refine go ?_
 by_cases h_1 : ((s.length : Nat) : Int) = ((t.length : Nat) : Int)
 · have hlen := h_1
   refine go ?_
   refine jL (fun k_ e_ L_ => ∃ j : Nat, (j ≤ s.length) ∧ (s.take j = t.take j) ∧ (s.length = t.length) ∧ EL e_ [(0, .slice a s.length c), (1, .slice b t.length c'), (5, nv j)] ∧ L_ = [] ∧ k_ = s.length - j) _ ⟨0, by omega, rfl, by omega, EL.go, rfl, rfl⟩ ?_
   rintro _ _ _ ⟨j, hj, hE, hln, ⟨_, rfl⟩, rfl, rfl⟩
   refine go ?_
   by_cases h_2 : ((j : Nat) : Int) < ((s.length : Nat) : Int)
   · have hlt : j < s.length := by omega
     refine go ?_
     refine jH [] 8 ?_
     refine go ?_
     obtain ⟨hr_3, hr_3b, -⟩ := sees_some hs_a (by omega)
     refine go ?_
     refine jk 3 rfl (jj (vs := [str ((s.getD j c0).1), str ((s.getD j c0).2)]) hs_a nM rfl Tryz.isAgg130 kP (atC (by omega)) rfl (by decide)) ?_
     refine go ?_
     obtain ⟨hr_4, hr_4b, -⟩ := sees_some hs_b (by omega)
     refine go ?_
     refine jk 7 rfl (jj (vs := [str ((t.getD j c0).1), str ((t.getD j c0).2)]) hs_b nM rfl Tryz.isAgg130 kP (atC (by omega)) rfl (by decide)) <| jd 8 rfl (PO.neqCell (a := s.getD j c0) (b := t.getD j c0) rfl rfl) ?_
     refine go ?_
     by_cases h_5 : s.getD j c0 = t.getD j c0
     · have heq := h_5
       refine go ?_
       refine jV (s.length - (j + 1)) (by omega) ⟨j + 1, by omega, take_succ_eq c0 hE hlt hln heq, hln, EL.go, rfl, rfl⟩
     have hne := h_5
     refine go ?_
     refine jE (.inl rfl) rfl (jC (v := .bool false) rfl) (List.nil_sublist _) ?_
     refine ⟨?_, rfl⟩
     rw [dF (fun h => hne (by rw [h]))]
   refine go ?_
   refine jE (.inl rfl) rfl (jC (v := .bool true) rfl) (List.nil_sublist _) ?_
   refine ⟨?_, rfl⟩
   rw [dT (take_all_eq hE (by omega) (by omega))]
 have hlen := h_1
 refine go ?_
 refine jE (.inl rfl) rfl (jC (v := .bool false) rfl) (List.nil_sublist _) ?_
 refine ⟨?_, rfl⟩
 rw [dF (fun h => by rw [h] at hlen; omega)]
end Go.Proofs.YthlfmbbaomdciaaGreatDoor
namespace Go.Proofs.YthlfmbbaomdciaaGreatDoor
open Go Go.RowKit
attribute [local irreducible] JL JC JQ JO LO PO JA JX Ct
theorem Y_iTxNew (a b c : Int) :
   Ct Tryz.prog 15 [.int .i64 a, .int .i64 b, .int .i64 c] [] (fun _ => True) (fun v A' => ∃ z : TX, z.t = TD.new a b c ∧ v = .agg #[.int .i64 z.t.id, .int .i64 z.t.age, .int .i64 z.t.proc, .int .i64 z.t.began, .slice z.x.a0 z.t.calls.length z.x.c0, .slice z.x.a1 z.t.ans.length z.x.c1, .slice z.x.a2 z.t.rd.length z.x.c2, .slice z.x.a3 z.t.wr.length z.x.c3, .slice z.x.a4 z.t.marks.length z.x.c4, .int .i64 z.t.state] ∧ A' = [.rows (rdsX z)]) := by
 refine Ct.intro Tryz.func15 rfl Tryz.ntmps15 (lb rfl) fun w0 hpre => ?_
 refine go ?_
 refine jG xzc fun b_1 => ?_
 refine go ?_
 refine jK (je (ps := [(0, iv a), (1, iv b), (2, iv c), (8, iv 1)]) (cs := [iv a, iv b, iv c, iv 0, .slice none 0 0, .slice none 0 0, .slice none 0 0, .slice none 0 0, .slice none 0 0, iv 1]) rfl (by kernel_rfl)) ?_
 refine jD 0 [iv a, iv b, iv c, iv 0, .slice none 0 0, .slice none 0 0, .slice none 0 0, .slice none 0 0, .slice none 0 0, iv 1] ?_
 refine go ?_
 refine JQ.nilRow 43 6 ?_
 refine JQ.nilRow 39 3 ?_
 refine JQ.nilRow 9 1 ?_
 refine JQ.nilRow 9 1 ?_
 refine JQ.nilRow 3 1 ?_
 refine cloJ (rdsX (⟨⟨none, 0, none, 0, none, 0, none, 0, none, 0⟩, TD.new a b c⟩ : TX)) [4, 3, 2, 1, 0] ?_
 exact jJ [0] ⟨(⟨⟨none, 0, none, 0, none, 0, none, 0, none, 0⟩, TD.new a b c⟩ : TX), rfl, rfl, rfl⟩
theorem Y_named (k : Int) (n : Str) :
   Ct Tryz.prog 20 [.int .i64 k, str n] [] (fun _ => True) (fun v A' => v = .agg #[.int .i64 k, str n, str [], .int .i64 0, .int .i64 0, str []] ∧ A' = []) := by
 refine Ct.intro Tryz.func20 rfl Tryz.ntmps20 (lb rfl) fun w0 hpre => ?_
 refine go ?_
 refine jG [iv 0, str [], str [], iv 0, iv 0, str []] fun b_1 => ?_
 refine go ?_
 refine jK (je (ps := [(0, iv k), (1, str n)]) (cs := [iv k, str n, str [], iv 0, iv 0, str []]) rfl (by kernel_rfl)) ?_
 refine jD 0 [iv k, str n, str [], iv 0, iv 0, str []] ?_
 refine go ?_
 exact jJ [] ⟨rfl, rfl⟩
end Go.Proofs.YthlfmbbaomdciaaGreatDoor
namespace Go.Proofs.YthlfmbbaomdciaaGreatDoor
open Go Go.RowKit
theorem laidW_step {s a : List Cell} {w : List Str} {j : Nat} (h : j < w.length) : laidW s a (w.take (j + 1)) = putKey (laidW s a (w.take j)) (w.getD j []) (getKey a (w.getD j [])) := by
 unfold laidW
 rw [take_at (getD_some (d := ([] : Str)) h), List.foldl_append]; rfl
theorem laidW_len (s a : List Cell) : ∀ w : List Str, (laidW s a w).length ≤ s.length + w.length
 | [] => Nat.le_refl _
 | k :: w => by
   have h1 := laidW_len (putKey s k (getKey a k)) a w
   have h2 := putKey_len s k (getKey a k)
   show (laidW (putKey s k (getKey a k)) a w).length ≤ _
   rw [List.length_cons]; omega
theorem laidW_ok {n m : Nat} {s a : List Cell} {w : List Str} (h : okC' n 1048576 s) (hm : n + w.length ≤ m) : okC' m 1048576 (laidW s a w) := by
 refine ⟨Nat.le_trans (laidW_len s a w) (by have := h.1; omega), ?_⟩
 suffices ∀ (w : List Str) (s : List Cell), (∀ c ∈ s, c.1.length ≤ 1048576 ∧ c.2.length ≤ 1048576) → ∀ c ∈ laidW s a w, c.1.length ≤ 1048576 ∧ c.2.length ≤ 1048576 from this w s h.2
 intro w
 induction w with
 | nil => exact fun s h => h
 | cons k w ih =>
   intro s h
   refine ih (putKey s k (getKey a k)) fun c hc => ?_
   rcases putKey_mem (s := s) hc with hc | ⟨rfl, h1, h2⟩
   · exact h c hc
   · exact ⟨by dsimp only; omega, by dsimp only; omega⟩
theorem TD.new_lim {a b c : Int} {n : Nat} : (TD.new a b c).lim n := ⟨Nat.zero_le _, Nat.zero_le _, Nat.zero_le _, Nat.zero_le _, Nat.zero_le _⟩
end Go.Proofs.YthlfmbbaomdciaaGreatDoor
namespace Go.Proofs.YthlfmbbaomdciaaGreatDoor
open Go Go.RowKit
attribute [local irreducible] JL JC JQ JO LO PO JA JX Ct
set_option maxRecDepth 4000 in
theorem Y_iOver (sa : Option Addr) (sc : Nat) (s : List Cell) (ta : Option Addr) (tc : Nat) (t : List Cell) (ra : Option Addr) (rc : Nat) (r' : List Str) (wa : Option Addr) (wc : Nat) (w' : List Str) (h1 : s.length ≤ 1000000000) (h2 : t.length ≤ 1000000000) (h3 : r'.length ≤ 1000000000) (h4 : w'.length ≤ 1000000000) (hk : okW w') :
   Ct Tryz.prog 114 [.slice sa s.length sc, .slice ta t.length tc, .agg #[.slice ra r'.length rc, .slice wa w'.length wc]] [] (fun w => Sees w (.slice sa s.length sc) 2 s.length (s.flatMap encC) ∧ Sees w (.slice ta t.length tc) 2 t.length (t.flatMap encC) ∧ Sees w (.slice ra r'.length rc) 1 r'.length (r'.map str) ∧ Sees w (.slice wa w'.length wc) 1 w'.length (w'.map str)) (fun v A' => ∃ a c, v = .slice a (laidW s t w').length c ∧ A' = [rC a c (laidW s t w')]) := by
 refine Ct.intro Tryz.func114 rfl Tryz.ntmps114 (lb rfl) fun w0 hpre => ?_
 have hs_sa : Sees w0 _ _ _ _ := hpre.1
 have hs_ta : Sees w0 _ _ _ _ := hpre.2.1
 have hs_ra : Sees w0 _ _ _ _ := hpre.2.2.1
 have hs_wa : Sees w0 _ _ _ _ := hpre.2.2.2
 refine go ?_
 refine jM [.slice ra r'.length rc, .slice wa w'.length wc] fun b_1 => ?_
 refine go ?_
 refine jA [] (C_cloneC sa sc s (by omega)) (hpre := fun w hw => hw.seeOut_ hs_sa nM) ?_
 rintro _ _ ⟨a_2, c_3, rfl, rfl⟩
 refine go ?_
 refine jL (fun k_ e_ L_ => ∃ j_ : Nat, ∃ oa : Option Addr, ∃ oc : Nat, ∃ o_ : List Cell, (j_ ≤ w'.length) ∧ (o_ = (laidW s t (w'.take j_))) ∧ (o_.length ≤ s.length + j_) ∧ EL e_ [(1, .slice ta t.length tc), (6, .slice none 0 0), (7, .slice oa o_.length oc), (13, .slice wa w'.length wc), (14, nv w'.length), (15, nv j_)] ∧ L_ = [rC oa oc o_, bk b_1 32 [.slice ra r'.length rc, .slice wa w'.length wc]] ∧ k_ = w'.length - j_) _ ⟨0, a_2, c_3, s, by omega, rfl, by omega, EL.go, rfl, rfl⟩ ?_
 rintro _ _ _ ⟨j_, oa, oc, o_, hj, ho, hol, ⟨_, rfl⟩, rfl, rfl⟩
 refine go ?_
 by_cases h_4 : ((j_ : Nat) : Int) < ((w'.length : Nat) : Int)
 · have hlt : j_ < w'.length := by omega
   have hkl := hk _ (getD_mem (d := ([] : Str)) hlt)
   refine go ?_
   obtain ⟨hr_5, hr_5b, -⟩ := sees_some hs_wa (by omega)
   refine go ?_
   refine jU (jY (v := str (w'.getD j_ [])) hs_wa nM rfl kJ (atS (by omega))) ?_
   refine go ?_
   refine jN [] (C_getKey ta tc t (w'.getD j_ []) (by omega)) (hpre := fun w hw => hw.seeOut_ hs_ta nM) ?_
   refine jA [0] (C_put oa oc o_ (w'.getD j_ []) (getKey t (w'.getD j_ [])) (by omega) (by omega)) ?_
   rintro _ _ ⟨a_6, c_7, rfl, rfl⟩
   refine go ?_
   exact jP [0, 0] ⟨j_ + 1, a_6, c_7, (putKey o_ (w'.getD j_ []) (getKey t (w'.getD j_ []))), by omega, (by rw [laidW_step hlt, ← ho]), (by have h_ := putKey_len o_ (w'.getD j_ []) (getKey t (w'.getD j_ [])); omega), EL.go, rfl, rfl⟩
 rw [List.take_of_length_le (by omega)] at ho
 refine go ?_
 refine jE (.inl rfl) rfl (jC (v := .slice oa o_.length oc) rfl) (tS 1 _) ?_
 subst ho
 exact ⟨_, _, rfl, rfl⟩

set_option maxRecDepth 4000 in
theorem Y_iTxLaid (p : TX) (hl : p.t.lim 500000000) (sa : Option Addr) (sc : Nat) (s : List Cell) (n : Nat) (hO : okC' n 1048576 s) (hn : n ≤ 28000000) (hc : okT p.t) (hg : gro n p.t.calls.length ≤ 28000000) (hgT : groT n 0 p.t.calls.length ≤ 1000000000) (hk : okW p.t.wr) :
   Ct Tryz.prog 31 [.slice sa s.length sc, .agg #[.int .i64 p.t.id, .int .i64 p.t.age, .int .i64 p.t.proc, .int .i64 p.t.began, .slice p.x.a0 p.t.calls.length p.x.c0, .slice p.x.a1 p.t.ans.length p.x.c1, .slice p.x.a2 p.t.rd.length p.x.c2, .slice p.x.a3 p.t.wr.length p.x.c3, .slice p.x.a4 p.t.marks.length p.x.c4, .int .i64 p.t.state]] [] (fun w => Sees w (.slice sa s.length sc) 2 s.length (s.flatMap encC) ∧ SeesA w (rdsX p) ∧ HexOk w) (fun v A' => ∃ a c, okC' (gro n p.t.calls.length) 1048576 (viewA s p.t) ∧ v = .slice a (laidW s (viewA s p.t) p.t.wr).length c ∧ A' = [rC a c (laidW s (viewA s p.t) p.t.wr)]) := by
 have hlv := hl
 refine Ct.introL Tryz.func31 rfl Tryz.ntmps31 (lb rfl) fun w0 hpre hlow => ?_
 have hs_s : Sees w0 _ _ _ _ := hpre.1
 have hl := hl.mono (show 500000000 ≤ 1000000000 by decide)
 obtain ⟨hs_1, hs_2, hs_3, hs_4, hs_5⟩ := seesX hpre.2.1
 have hlp := hl
 obtain ⟨hl0_, hl1_, hl2_, hl3_, hl4_⟩ := id hl
 have hO1 := hO.1
 have hsl : (stepsOf p.t).length = p.t.calls.length := List.length_map _
 have hsP := okSteps_of hc
 have hcp := hc.pr
 have hcn := hc.n
 refine go ?_
 refine jM (xc p) fun b_6 => ?_
 refine go ?_
 refine jH [0] 7 ?_
 refine go ?_
 refine jB (i := 3) ?_
 refine jI [] (Y_iTxView p hlv sa sc s n hO (by omega) hc hg hgT) (hpre := fun w hw => ⟨hw.seeOut_ hs_s nM, hw.seeOutA hpre.2.1 nMA, hw.hex hlow hpre.2.2⟩) ?_
 rintro _ _ ⟨a_22, c_23, v_24, e_25, hO_26, rfl, rfl⟩
 refine jB (i := 6) ?_
 refine jI [] (Y_iOver sa sc s a_22 c_23 v_24 p.x.a2 p.x.c2 p.t.rd p.x.a3 p.x.c3 p.t.wr (by have h_ := (hO).1; omega) (by have h_ := (hO_26).1; omega) (by omega) (by omega) hk) (hpre := fun w hw => ⟨hw.seeOut_ hs_s nM, hw.see (i := 0) rfl, hw.seeOut_ hs_3 nM, hw.seeOut_ hs_4 nM⟩) ?_
 rintro _ _ ⟨a_29, c_30, rfl, rfl⟩
 refine go ?_
 refine jE (.inl rfl) rfl (jC (v := .slice a_29 (laidW s v_24 p.t.wr).length c_30) rfl) (tS 1 _) ?_
 exact ⟨a_29, c_30, by rw [e_25]; exact hO_26, by rw [e_25], by rw [e_25] <;> rfl⟩
end Go.Proofs.YthlfmbbaomdciaaGreatDoor
namespace Go.Proofs.YthlfmbbaomdciaaGreatDoor
open Go Go.RowKit
def inAll (a b : List Str) : Bool := a.all fun x => decide (x ∈ b)
theorem inAll_iff {a b : List Str} : inAll a b = true ↔ ∀ x ∈ a, x ∈ b := by simp [inAll]
theorem allIn_eq {s y : List Str} : (!(s.any fun x => !(y.any fun q => decide (x = q)))) = inAll s y := by
 rw [Bool.eq_iff_iff, inAll_iff]
 simp
theorem any_step {y : List Str} {f : Str → Bool} {k : Nat} (h : k < y.length) : (y.take (k + 1)).any f = ((y.take k).any f || f (y.getD k [])) := by
 rw [take_at (getD_some (d := ([] : Str)) h), List.any_append]
 simp
def rightA (s : List Cell) (t : TD) : Bool :=
 decide (((⟨s, [], []⟩ : MS).runA (stepsOf t) []).2 = t.ans) && (inAll ((⟨s, [], []⟩ : MS).runA (stepsOf t) []).1.r t.rd && inAll ((⟨s, [], []⟩ : MS).runA (stepsOf t) []).1.w t.wr)
end Go.Proofs.YthlfmbbaomdciaaGreatDoor
namespace Go.Proofs.YthlfmbbaomdciaaGreatDoor
open Go Go.RowKit
attribute [local irreducible] JL JC JQ JO LO PO JA JX Ct
theorem Y_eqA13 (a b : Option Addr) (c c' : Nat) (s t : List AN) (hn : s.length ≤ 9223372036854775807) :
   Ct Tryz.prog 257 [.slice a s.length c, .slice b t.length c'] [] (fun w => Sees w (.slice a s.length c) 3 s.length (s.flatMap encA) ∧ Sees w (.slice b t.length c') 3 t.length (t.flatMap encA)) (fun r A' => r = .bool (decide (s = t)) ∧ A' = []) := by
 refine Ct.intro Tryz.func257 rfl Tryz.ntmps257 (lb rfl) fun w0 hpre => ?_
 have hs_a : Sees w0 _ _ _ _ := hpre.1
 have hs_b : Sees w0 _ _ _ _ := hpre.2
 refine go ?_
 by_cases h_1 : ((s.length : Nat) : Int) = ((t.length : Nat) : Int)
 · have hlen := h_1
   refine go ?_
   refine jL (fun k_ e_ L_ => ∃ j : Nat, (j ≤ s.length) ∧ (s.take j = t.take j) ∧ (s.length = t.length) ∧ EL e_ [(0, .slice a s.length c), (1, .slice b t.length c'), (12, nv s.length), (13, nv j)] ∧ L_ = [] ∧ k_ = s.length - j) _ ⟨0, by omega, rfl, by omega, EL.go, rfl, rfl⟩ ?_
   rintro _ _ _ ⟨j, hj, hE, hln, ⟨_, rfl⟩, rfl, rfl⟩
   refine go ?_
   by_cases h_2 : ((j : Nat) : Int) < ((s.length : Nat) : Int)
   · have hlt : j < s.length := by omega
     refine go ?_
     refine jH [] 8 ?_
     refine go ?_
     obtain ⟨hr_3, hr_3b, -⟩ := sees_some hs_a (by omega)
     refine go ?_
     refine jk 3 rfl (jj (vs := [iv (s.getD j a0_).code, iv (s.getD j a0_).n, str (s.getD j a0_).text]) hs_a nM rfl kp kY (flat_take encA_len a0_ s j (by omega)) rfl (by decide)) ?_
     refine go ?_
     obtain ⟨hr_4, hr_4b, -⟩ := sees_some hs_b (by omega)
     refine go ?_
     refine jk 7 rfl (jj (vs := [iv (t.getD j a0_).code, iv (t.getD j a0_).n, str (t.getD j a0_).text]) hs_b nM rfl kp kY (flat_take encA_len a0_ t j (by omega)) rfl (by decide)) <| jd 8 rfl (PO.neqA (s.getD j a0_) (t.getD j a0_) rfl rfl) ?_
     refine go ?_
     by_cases h_5 : s.getD j a0_ = t.getD j a0_
     · have heq := h_5
       refine go ?_
       refine jV (s.length - (j + 1)) (by omega) ⟨j + 1, by omega, take_succ_eq a0_ hE hlt hln heq, hln, EL.go, rfl, rfl⟩
     have hne := h_5
     refine go ?_
     refine jE (.inl rfl) rfl (jC (v := .bool false) rfl) (List.nil_sublist _) ?_
     refine ⟨?_, rfl⟩
     rw [dF (fun h => hne (by rw [h]))]
   refine go ?_
   refine jE (.inl rfl) rfl (jC (v := .bool true) rfl) (List.nil_sublist _) ?_
   refine ⟨?_, rfl⟩
   rw [dT (take_all_eq hE (by omega) (by omega))]
 have hlen := h_1
 refine go ?_
 refine jE (.inl rfl) rfl (jC (v := .bool false) rfl) (List.nil_sublist _) ?_
 refine ⟨?_, rfl⟩
 rw [dF (fun h => by rw [h] at hlen; omega)]

theorem Y_sameAnswers (a b : Option Addr) (c c' : Nat) (s t : List AN) (hn : s.length ≤ 9223372036854775807) :
   Ct Tryz.prog 136 [.slice a s.length c, .slice b t.length c'] [] (fun w => Sees w (.slice a s.length c) 3 s.length (s.flatMap encA) ∧ Sees w (.slice b t.length c') 3 t.length (t.flatMap encA)) (fun r A' => r = .bool (decide (s = t)) ∧ A' = []) := by
 refine Ct.intro Tryz.func136 rfl Tryz.ntmps136 (lb rfl) fun w0 hpre => ?_
 have hs_a : Sees w0 _ _ _ _ := hpre.1
 have hs_b : Sees w0 _ _ _ _ := hpre.2
 refine go ?_
 refine jN [] (Y_eqA13 a b c c' s t (by omega)) (hpre := fun w hw => ⟨hw.seeOut_ hs_a nM, hw.seeOut_ hs_b nM⟩) ?_
 refine go ?_
 exact jJ [] ⟨rfl, rfl⟩
end Go.Proofs.YthlfmbbaomdciaaGreatDoor
namespace Go.Proofs.YthlfmbbaomdciaaGreatDoor
open Go Go.RowKit
theorem St.apartM {w0 w : World} {D : List Nat} {L A : List Res} (hw : St w0 D L w) (i : Nat) {v : Value} {t k m : Nat} {cs : List Value} (hL : L[i]? = some (.row v t k m cs)) (hA : ∀ r ∈ A, r ∈ L.eraseIdx i) : ∀ b, v.ownBlock = some b → b ∉ idsOf A := fun b hb he => by
 have hnd' := (idsOf_perm (perm_erase i _ hL)).nodup_iff.1 hw.nodup
 rw [idsOf_cons, List.nodup_append] at hnd'
 obtain ⟨r, hr, hbr⟩ := mem_idsOf.1 he
 exact hnd'.2.2 b (by simp [Res.ids, hb]) b (mem_idsOf.2 ⟨r, hA r hr, hbr⟩) rfl
attribute [local irreducible] JL JC JQ JO LO PO JA JX Ct

theorem C_ixS (a : Option Addr) (c : Nat) (s : List Str) (hns : s.length ≤ 1000000000) (x : Str) :
   Ct Tryz.prog 335 [.slice a s.length c, str x] [] (fun w => Sees w (.slice a s.length c) 1 s.length (s.map str)) (fun v A' => v = .int .i64 (idxI (fun q => decide (x = q)) s) ∧ A' = []) := by
 refine Ct.intro Tryz.func335 rfl Tryz.ntmps335 (lb rfl) fun w0 hpre => ?_
 have hs_a : Sees w0 _ _ _ _ := hpre
 refine go ?_
 refine jL (fun k_ e_ L_ => ∃ j : Nat, (j ≤ s.length) ∧ (∀ i, i < j → decide (x = s.getD i []) = false) ∧ EL e_ [(0, .slice a s.length c), (1, str x), (7, nv s.length), (8, nv j)] ∧ L_ = [] ∧ k_ = s.length - j) _ ⟨0, by omega, (fun i hi => absurd hi (Nat.not_lt_zero i)), EL.go, rfl, rfl⟩ ?_
 rintro _ _ _ ⟨j, hj, hN, ⟨_, rfl⟩, rfl, rfl⟩
 refine go ?_
 by_cases h_1 : ((j : Nat) : Int) < ((s.length : Nat) : Int)
 · have hlt : j < s.length := by omega
   refine go ?_
   obtain ⟨hr_2, hr_2b, -⟩ := sees_some hs_a (by omega)
   refine go ?_
   refine jU (jY (v := str (s.getD j [])) hs_a nM rfl kJ (atS (by omega))) ?_
   refine go ?_
   by_cases h_3 : x = (s.getD j [])
   · have heq := h_3
     refine go ?_
     refine jE (.inl rfl) rfl (jC (v := nv j) rfl) (List.nil_sublist _) ?_
     refine ⟨?_, rfl⟩
     rw [idxI_found [] hlt hN (dT heq)]
   have hne := h_3
   refine go ?_
   refine jV (s.length - (j + 1)) (by omega) ⟨j + 1, by omega, (fun i hi => if h : i = j then h ▸ dF hne else hN i (by omega)), EL.go, rfl, rfl⟩
 refine go ?_
 refine jE (.inl rfl) rfl (jC (v := iv (-1)) rfl) (List.nil_sublist _) ?_
 refine ⟨?_, rfl⟩
 rw [idxI_none [] (by omega) hN]

theorem C_ctS (a : Option Addr) (c : Nat) (s : List Str) (hns : s.length ≤ 1000000000) (x : Str) :
   Ct Tryz.prog 260 [.slice a s.length c, str x] [] (fun w => Sees w (.slice a s.length c) 1 s.length (s.map str)) (fun v A' => v = .bool (s.any fun q => decide (x = q)) ∧ A' = []) := by
 refine Ct.intro Tryz.func260 rfl Tryz.ntmps260 (lb rfl) fun w0 hpre => ?_
 have hs_a : Sees w0 _ _ _ _ := hpre
 refine go ?_
 refine jN [] (C_ixS a c s hns x) (hpre := fun w hw => hw.seeOut_ hs_a nM) ?_
 refine go ?_
 refine jE (.inl rfl) rfl (jC (v := .bool (decide (0 ≤ (idxI (fun q => decide (x = q)) s)))) rfl) (List.nil_sublist _) ?_
 exact ⟨cB idxI_any, rfl⟩

theorem C_in1 (kb : Nat) (b : Option Addr) (d : Nat) (y : List Str) (hny : y.length ≤ 1000000000) (x : Str) :
   Ct Tryz.prog 259 [str x, .pointer (some ⟨kb, 0, none⟩)] [bk kb 30 [.slice b y.length d]] (fun w => Sees w (.slice b y.length d) 1 y.length (y.map str) ∧ (∀ i, (Value.slice b y.length d).ownBlock = some i → i ≠ kb)) (fun v A' => v = .bool (!(y.any fun q => decide (x = q))) ∧ A' = [bk kb 30 [.slice b y.length d]]) := by
 refine Ct.intro Tryz.func259 rfl Tryz.ntmps259 (lb rfl) fun w0 hpre => ?_
 have hs_b : Sees w0 _ _ _ _ := hpre.1
 refine go ?_
 refine jN [] (C_ctS b d y hny x) (hpre := fun w hw => hw.seeOut_ hs_b (notin_bk hpre.2)) ?_
 refine go ?_
 refine jE (.inl rfl) rfl (jC (v := .bool (!(y.any fun q => decide (x = q)))) rfl) (List.Sublist.refl _) ?_
 exact ⟨rfl, rfl⟩

theorem C_ixIn (a : Option Addr) (c : Nat) (s : List Str) (hns : s.length ≤ 1000000000) (kb : Nat) (b : Option Addr) (d : Nat) (y : List Str) (hny : y.length ≤ 1000000000) :
   Ct Tryz.prog 277 [.slice a s.length c, .func (.func 259) #[] #[.pointer (some ⟨kb, 0, none⟩)]] [bk kb 30 [.slice b y.length d]] (fun w => (Sees w (.slice a s.length c) 1 s.length (s.map str) ∧ (∀ i, (Value.slice a s.length c).ownBlock = some i → i ≠ kb)) ∧ Sees w (.slice b y.length d) 1 y.length (y.map str) ∧ (∀ i, (Value.slice b y.length d).ownBlock = some i → i ≠ kb)) (fun v A' => v = .int .i64 (idxI (fun x => !(y.any fun q => decide (x = q))) s) ∧ A' = [bk kb 30 [.slice b y.length d]]) := by
 refine Ct.intro Tryz.func277 rfl Tryz.ntmps277 (lb rfl) fun w0 hpre => ?_
 have hs_a : Sees w0 _ _ _ _ := hpre.1.1
 have hs_b : Sees w0 _ _ _ _ := hpre.2.1
 refine go ?_
 refine jL (fun k_ e_ L_ => ∃ j : Nat, (j ≤ s.length) ∧ (∀ i, i < j → (!(y.any fun q => decide (s.getD i [] = q))) = false) ∧ EL e_ [(0, .slice a s.length c), (1, .func (.func 259) #[] #[.pointer (some ⟨kb, 0, none⟩)]), (7, nv s.length), (8, nv j)] ∧ L_ = [bk kb 30 [.slice b y.length d]] ∧ k_ = s.length - j) _ ⟨0, by omega, (fun i hi => absurd hi (Nat.not_lt_zero i)), EL.go, rfl, rfl⟩ ?_
 rintro _ _ _ ⟨j, hj, hN, ⟨_, rfl⟩, rfl, rfl⟩
 refine go ?_
 by_cases h_1 : ((j : Nat) : Int) < ((s.length : Nat) : Int)
 · have hlt : j < s.length := by omega
   have hlt : j < s.length := by omega
   refine go ?_
   obtain ⟨hr_2, hr_2b, -⟩ := sees_some hs_a (by omega)
   refine go ?_
   refine jU (jY (v := str (s.getD j [])) hs_a (notin_bk hpre.1.2) rfl kJ (atS (by omega))) ?_
   refine jF rfl (JO.callV [0] Tryz.call259 rfl (C_in1 kb b d y hny (s.getD j [])) rfl rfl (fun w hw => ⟨hw.seeOut_ hs_b (notin_bk hpre.2.2), hpre.2.2⟩)) ?_
   rintro _ _ ⟨_, ⟨rfl, rfl⟩, rfl⟩
   refine go ?_
   rcases Bool.eq_false_or_eq_true ((y.any fun q => decide (s.getD j [] = q))) with h_3 | h_3
   · have h_3d := h_3
     try simp only [Bool.and_eq_true, Bool.and_eq_false_iff, decide_eq_true_eq, decide_eq_false_iff_not] at h_3d
     refine go ?_
     refine jV (s.length - (j + 1)) (by omega) ⟨j + 1, by omega, (fun i hi => if h : i = j then h ▸ (bF h_3) else hN i (by omega)), EL.go, rfl, rfl⟩
   have h_3d := h_3
   try simp only [Bool.and_eq_true, Bool.and_eq_false_iff, decide_eq_true_eq, decide_eq_false_iff_not] at h_3d
   refine go ?_
   refine jE (.inl rfl) rfl (jC (v := nv j) rfl) (List.Sublist.refl _) ?_
   refine ⟨?_, rfl⟩
   rw [idxI_found [] hlt hN (bT h_3)]
 refine go ?_
 refine jE (.inl rfl) rfl (jC (v := iv (-1)) rfl) (List.Sublist.refl _) ?_
 refine ⟨?_, rfl⟩
 rw [idxI_none [] (by omega) hN]

theorem C_ctIn (a : Option Addr) (c : Nat) (s : List Str) (hns : s.length ≤ 1000000000) (kb : Nat) (b : Option Addr) (d : Nat) (y : List Str) (hny : y.length ≤ 1000000000) :
   Ct Tryz.prog 258 [.slice a s.length c, .func (.func 259) #[] #[.pointer (some ⟨kb, 0, none⟩)]] [bk kb 30 [.slice b y.length d]] (fun w => (Sees w (.slice a s.length c) 1 s.length (s.map str) ∧ (∀ i, (Value.slice a s.length c).ownBlock = some i → i ≠ kb)) ∧ Sees w (.slice b y.length d) 1 y.length (y.map str) ∧ (∀ i, (Value.slice b y.length d).ownBlock = some i → i ≠ kb)) (fun v A' => v = .bool (s.any (fun x => !(y.any fun q => decide (x = q)))) ∧ A' = [bk kb 30 [.slice b y.length d]]) := by
 refine Ct.intro Tryz.func258 rfl Tryz.ntmps258 (lb rfl) fun w0 hpre => ?_
 have hs_a : Sees w0 _ _ _ _ := hpre.1.1
 have hs_b : Sees w0 _ _ _ _ := hpre.2.1
 refine go ?_
 refine jN [0] (C_ixIn a c s hns kb b d y hny) (hpre := fun w hw => ⟨⟨hw.seeOut_ hs_a (notin_bk hpre.1.2), hpre.1.2⟩, hw.seeOut_ hs_b (notin_bk hpre.2.2), hpre.2.2⟩) ?_
 refine go ?_
 refine jE (.inl rfl) rfl (jC (v := .bool (decide (0 ≤ (idxI (fun x => !(y.any fun q => decide (x = q))) s)))) rfl) (List.Sublist.refl _) ?_
 exact ⟨cB idxI_any, rfl⟩

theorem Y_allIn (a : Option Addr) (c : Nat) (s : List Str) (hns : s.length ≤ 1000000000) (b : Option Addr) (d : Nat) (y : List Str) (hny : y.length ≤ 1000000000) :
   Ct Tryz.prog 137 [.slice a s.length c, .slice b y.length d] [] (fun w => Sees w (.slice a s.length c) 1 s.length (s.map str) ∧ Sees w (.slice b y.length d) 1 y.length (y.map str)) (fun v A' => v = .bool (inAll s y) ∧ A' = []) := by
 refine Ct.intro Tryz.func137 rfl Tryz.ntmps137 (lb rfl) fun w0 hpre => ?_
 have hs_a : Sees w0 _ _ _ _ := hpre.1
 have hs_b : Sees w0 _ _ _ _ := hpre.2
 refine go ?_
 refine jM [.slice b y.length d] fun b_1 => ?_
 refine go ?_
 refine jK (PO.makeFunc (fv := []) (cv := [.pointer (some ⟨b_1, 0, none⟩)]) rfl rfl) ?_
 refine jN [0] (C_ctIn a c s hns b_1 b d y hny) (hpre := fun w hw => ⟨⟨hw.seeOut_ hs_a nM, hw.apartF 0 hs_a rfl List.not_mem_nil⟩, hw.seeOut_ hs_b nM, hw.apartF 0 hs_b rfl List.not_mem_nil⟩) ?_
 refine go ?_
 refine jE (.inl rfl) rfl (jC (v := .bool (!(s.any (fun x => !(y.any fun q => decide (x = q)))))) rfl) (List.nil_sublist _) ?_
 exact ⟨cB allIn_eq, rfl⟩

set_option maxRecDepth 4000 in
theorem Y_iRight (p : TX) (hl : p.t.lim 500000000) (sa : Option Addr) (sc : Nat) (s : List Cell) (n : Nat) (hO : okC' n 1048576 s) (hn : n ≤ 28000000) (hc : okT p.t) (hg : gro n p.t.calls.length ≤ 28000000) (hgT : groT n 0 p.t.calls.length ≤ 1000000000) :
   Ct Tryz.prog 50 [.slice sa s.length sc, .agg #[.int .i64 p.t.id, .int .i64 p.t.age, .int .i64 p.t.proc, .int .i64 p.t.began, .slice p.x.a0 p.t.calls.length p.x.c0, .slice p.x.a1 p.t.ans.length p.x.c1, .slice p.x.a2 p.t.rd.length p.x.c2, .slice p.x.a3 p.t.wr.length p.x.c3, .slice p.x.a4 p.t.marks.length p.x.c4, .int .i64 p.t.state]] [] (fun w => Sees w (.slice sa s.length sc) 2 s.length (s.flatMap encC) ∧ SeesA w (rdsX p) ∧ HexOk w) (fun v A' => v = .bool (rightA s p.t) ∧ A' = []) := by
 have hlv := hl
 refine Ct.introL Tryz.func50 rfl Tryz.ntmps50 (lb rfl) fun w0 hpre hlow => ?_
 have hs_s : Sees w0 _ _ _ _ := hpre.1
 have hl := hl.mono (show 500000000 ≤ 1000000000 by decide)
 obtain ⟨hs_1, hs_2, hs_3, hs_4, hs_5⟩ := seesX hpre.2.1
 have hlp := hl
 obtain ⟨hl0_, hl1_, hl2_, hl3_, hl4_⟩ := id hl
 have hO1 := hO.1
 have hsl : (stepsOf p.t).length = p.t.calls.length := List.length_map _
 have hsP := okSteps_of hc
 have hcp := hc.pr
 have hcn := hc.n
 obtain ⟨hq0, hq1, hq2, hq3, hq4⟩ := id hlv
 have hgT5 : sumT (gro n) 0 (stepsOf p.t).length ≤ 1000000000 := by rw [hsl]; exact hgT
 refine go ?_
 refine jM (xc p) fun b_6 => ?_
 refine go ?_
 refine jA [] (I_machOfB sa sc s (by first | omega | simp) hO) (hpre := fun w hw => hw.seeOut_ hs_s nM) ?_
 rintro _ _ ⟨x_7, m_8, e_10, k_9, rfl, rfl⟩
 refine jG zC fun b_11 => ?_
 refine jD 0 (mc x_7 m_8) ?_
 refine go ?_
 refine jA [] (Y_iTxSteps p hlp) (hpre := fun w hw => hw.seeOutA hpre.2.1 nMA) ?_
 rintro _ _ ⟨a_12, c_13, rfl, rfl⟩
 refine jA [1, 1, 1, 1] (N_run b_11 x_7 m_8 k_9 (by omega) (by omega) a_12 c_13 (stepsOf p.t) (by omega) hsP (gro n) (by rw [← e_10]; exact (run_gro1 hO.1 p.t)) (fun j hj => Nat.le_trans (gro_le n hj) (by rw [hsl]; exact hg)) (by rw [hsl]; exact hgT)) (hpre := fun w hw => ⟨⟨hw.see (i := 0) rfl, hw.apartM 0 rfl all_go⟩, hw.hex hlow hpre.2.2⟩) ?_
 rintro _ _ ⟨x_14, m_15, a_16, c_17, o_18, e_19, k_20, hl_21, rfl, rfl⟩
 refine go ?_
 have hkr := k_20.2.1
 have hkw := k_20.2.2.1
 have hol_ := hl_21
 refine go ?_
 refine jN [] (Y_sameAnswers a_16 p.x.a1 c_17 p.x.c1 o_18 p.t.ans (by omega)) (hpre := fun w hw => ⟨hw.see (i := 4) rfl, hw.seeOut_ hs_2 nM⟩) ?_
 refine go ?_
 by_cases h_22 : o_18 = p.t.ans
 · refine go ?_
   refine jW rfl rfl rfl (cB (dT h_22)) (jO [] Tryz.call137 rfl (Y_allIn x_14.a1 x_14.c1 m_15.r (by omega) p.x.a2 p.x.c2 p.t.rd (by omega)) rfl (fun w hw => ⟨hw.see (i := 2) rfl, hw.seeOut_ hs_3 nM⟩)) ?_
   rintro _ _ ⟨_, ⟨rfl, rfl⟩, rfl⟩
   refine go ?_
   rcases Bool.eq_false_or_eq_true (inAll m_15.r p.t.rd) with h_23 | h_23
   · refine go ?_
     refine jW rfl rfl rfl (cB h_23) (jO [] Tryz.call137 rfl (Y_allIn x_14.a2 x_14.c2 m_15.w (by omega) p.x.a3 p.x.c3 p.t.wr (by omega)) rfl (fun w hw => ⟨hw.see (i := 3) rfl, hw.seeOut_ hs_4 nM⟩)) ?_
     rintro _ _ ⟨_, ⟨rfl, rfl⟩, rfl⟩
     refine go ?_
     refine jE (.inl rfl) rfl (jC (v := .bool (inAll m_15.w p.t.wr)) rfl) (List.nil_sublist _) ?_
     subst e_10
     have hrun : (⟨s, [], []⟩ : MS).runA (stepsOf p.t) [] = _ := e_19
     refine ⟨cB (Eq.symm ?_), rfl⟩
     unfold rightA
     simp only [hrun]
     simp_all
   refine go ?_
   refine jE (.inl rfl) rfl (jC (v := .bool false) rfl) (List.nil_sublist _) ?_
   subst e_10
   have hrun : (⟨s, [], []⟩ : MS).runA (stepsOf p.t) [] = _ := e_19
   refine ⟨cB (Eq.symm ?_), rfl⟩
   unfold rightA
   simp only [hrun]
   simp_all
 refine go ?_
 refine jE (.inl rfl) rfl (jC (v := .bool false) rfl) (List.nil_sublist _) ?_
 subst e_10
 have hrun : (⟨s, [], []⟩ : MS).runA (stepsOf p.t) [] = _ := e_19
 refine ⟨cB (Eq.symm ?_), rfl⟩
 unfold rightA
 simp only [hrun]
 simp_all
end Go.Proofs.YthlfmbbaomdciaaGreatDoor
namespace Go.Proofs.YthlfmbbaomdciaaGreatDoor
open Go Go.RowKit
section
variable {s : List Cell} {l l' : List SP} {r w : List Str} {M M' : List Int} {P : Int} {i j : Nat} {t z y : TD}
theorem bInv.fresh2 {a b c : Int} (h : 0 ≤ c ∧ c ≤ 9) : bInv s l [] [] [] c 0 0 (TD.new a b c) := ⟨rfl, rfl, h, rfl, rfl, rfl, rfl, rfl, Nat.zero_le _, Nat.zero_le _, rfl⟩
end
section
variable {s : List Cell} {l : List SP} {r w : List Str} {M : List Int} {P : Int} {i j : Nat} {t z : TD}
/-- A transaction behind i calls. -/
def hInv (s : List Cell) (P : Int) (i : Nat) (t : TD) : Prop := ∃ l, okSteps l ∧ l.length = i ∧ bInv s l [] [] [] P i i t
theorem hInv.new {a b c : Int} (h : 0 ≤ c ∧ c ≤ 9) : hInv s c 0 (TD.new a b c) := ⟨[], (fun _ h => absurd h (Nat.not_lt_zero _)), rfl, bInv.fresh2 h⟩
end
end Go.Proofs.YthlfmbbaomdciaaGreatDoor
