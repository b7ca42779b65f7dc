/-
Texts of the walk, joined: what each one proves stands at its theorems.
-/
import Derived.Test.YthlfmbbaomdciaaGreatDoorB2S81SEES
import Derived.Test.YthlfmbbaomdciaaGreatDoorB8S45KOK
set_option linter.unusedSimpArgs false
set_option linter.unusedVariables false
set_option linter.unnecessarySimpa false
namespace Go.Proofs.YthlfmbbaomdciaaGreatDoor
open Go Go.RowKit
section
variable {w0 w w' : World} {D : List Nat} {L M : List Res}

theorem St.appRows {a b : List RD} (h : St w0 D (.rows a :: .rows b :: L) w) : St w0 D (.rows (a ++ b) :: L) w := by
 have h1 := h.openRows
 have h2 : St w0 D (.rows b :: (a.map RD.res ++ L)) w := h1.perm (List.perm_middle.symm)
 have h3 := h2.openRows
 refine St.closeRows (h3.perm ?_)
 rw [List.map_append, List.append_assoc, ← List.append_assoc, ← List.append_assoc]
 exact List.Perm.append_right L List.perm_append_comm
theorem St.rowsNil (h : St w0 D L w) : St w0 D (.rows [] :: L) w := St.closeRows (rs := []) h

end
section
variable {w0 w : World} {D : List Nat} {L F : List Res} {rs A B C : List RD} {r : RD}
theorem St.addR (is : List Nat) (hp : pick is L = some ([.rows A, .rows B], F)) (e : rs = A ++ B) (hw : St w0 D L w) : St w0 D (.rows rs :: F) w := by
 subst e
 exact (hw.perm (pick_perm is hp).symm).appRows
end
section
variable {P : Program} {ops : Array Oper} {Q : Exit → Act → World → Prop} {n : Nat} {w0 : World} {D : List Nat} {L L' : List Res} {e : Env}
end
section
variable {α : Type} {enc : α → List Value} {k : Nat} {Q R : List α} {j : Nat} {cs : List Value}
theorem flatMap_snoc {β : Type} {f : α → List β} {l : List α} {y : α} : (l ++ [y]).flatMap f = l.flatMap f ++ f y := by
 rw [List.flatMap_append, List.flatMap_cons, List.flatMap_nil, List.append_nil]
theorem flatMap_mid {β : Type} {f : α → List β} {l : List α} (d : α) (hj : j < l.length) : (Q ++ l.drop j).flatMap f = Q.flatMap f ++ (f (l.getD j d) ++ (l.drop (j + 1)).flatMap f) := by
 rw [List.flatMap_append, drop_at (getD_some (d := d) hj), List.flatMap_cons]
theorem flatMap_at {β : Type} {f : α → List β} {l : List α} (d : α) (hj : j < l.length) : l.flatMap f = (l.take j).flatMap f ++ (f (l.getD j d) ++ (l.drop (j + 1)).flatMap f) := by
 have := flatMap_mid (Q := l.take j) (f := f) d hj
 rwa [List.take_append_drop] at this
theorem flatMap_setAt {β : Type} {f : α → List β} {l : List α} {y : α} (hj : j < l.length) : (l.set j y).flatMap f = (l.take j).flatMap f ++ (f y ++ (l.drop (j + 1)).flatMap f) := by
 rw [List.set_eq_take_append_cons_drop, if_pos hj, List.flatMap_append, List.flatMap_cons]
variable {mk : α → Nat → α} {ct : α → Nat}
theorem take_snoc {l : List α} (d : α) (hj : j < l.length) : l.take (j + 1) = l.take j ++ [l.getD j d] := take_at (getD_some (d := d) hj)
theorem map_take_succ {β : Type} {f : α → β} {l y : List α} {x : α} (d : α) (h : y.map f = (l.take j).map f) (hj : j < l.length) (hx : f x = f (l.getD j d)) : (y ++ [x]).map f = (l.take (j + 1)).map f := by
 simp only [take_snoc d hj, List.map_append, h, List.map_cons, hx, List.map_nil]
theorem map_all {β : Type} {f : α → β} {l y : List α} (h : y.map f = (l.take j).map f) (hj : l.length ≤ j) : y.map f = l.map f := by
 rw [h, List.take_of_length_le hj]
end
section
variable {α : Type} {enc : α → List Value} {k : Nat} {Q R l : List α} {j : Nat} {cs : List Value} {w0 w : World} {D : List Nat} {L F : List Res} {A : List RD} {r : RD} {v : Value} {t n : Nat}
theorem St.headR (i : Nat) (hp : pick [i] L = some ([.rows (r :: A)], F)) (hw : St w0 D L w) : St w0 D (r.res :: .rows A :: F) w := by
 have h := (hw.perm (pick_perm [i] hp).symm).openRows
 have h2 : St w0 D (A.map RD.res ++ (r.res :: F)) w := h.perm (by simp only [List.map_cons]; exact List.perm_middle)
 exact (h2.closeRows).perm (List.Perm.swap _ _ _)
theorem St.consR (is : List Nat) (hp : pick is L = some ([r.res, .rows A], F)) (hw : St w0 D L w) : St w0 D (.rows (r :: A) :: F) w := by
 have h : St w0 D (.rows A :: r.res :: F) w := (hw.perm (pick_perm is hp).symm).perm (List.Perm.swap _ _ _)
 have h2 := h.openRows
 exact St.closeRows (h2.perm (by simp only [List.map_cons]; exact (List.perm_middle).symm))
theorem St.nilR {α : Type} {f : α → List RD} (is : List Nat) {B F : List Res} (hp : pick is L = some (B, F)) (hw : St w0 D L w) : St w0 D (.rows (([] : List α).flatMap f) :: (B ++ F)) w := St.rowsNil (hw.perm (pick_perm is hp).symm)
theorem St.rowsEq (i : Nat) {B : List RD} (hp : pick [i] L = some ([.rows A], F)) (e : A = B) (hw : St w0 D L w) : St w0 D (.rows B :: F) w := by
 subst e
 exact hw.perm (pick_perm [i] hp).symm
end
theorem map_getD {α β : Type} {f : α → β} (d : α) {s : List α} {j : Nat} (h : j < s.length) : (s.map f)[j]? = some (f (s.getD j d)) := by
 rw [List.getElem?_map, getD_some (d := d) h]; rfl
theorem take_succM_eq {α β : Type} {f : α → β} {s t : List α} {j : Nat} (d : α) (h : (s.take j).map f = (t.take j).map f) (hj : j < s.length) (hl : s.length = t.length) (he : f (s.getD j d) = f (t.getD j d)) : (s.take (j + 1)).map f = (t.take (j + 1)).map f := by
 rw [take_snoc d hj, take_snoc d (by omega), List.map_append, List.map_append, h, List.map_cons, List.map_cons, he]
theorem take_allM_eq {α β : Type} {f : α → β} {s t : List α} {j : Nat} (h : (s.take j).map f = (t.take j).map f) (hj : s.length ≤ j) (hl : s.length = t.length) : s.map f = t.map f := by
 rwa [List.take_of_length_le hj, List.take_of_length_le (by omega)] at h
theorem getM_eq {α β : Type} {f : α → β} {s t : List α} {j : Nat} (d : α) (h : s.map f = t.map f) (hj : j < s.length) (hl : s.length = t.length) : f (s.getD j d) = f (t.getD j d) := by
 have h1 := map_getD (f := f) d hj
 have h2 := map_getD (f := f) (s := t) d (j := j) (by omega)
 rw [h, h2] at h1
 exact (Option.some.inj h1).symm
theorem oneX (l : List TX) : ∀ u ∈ l.flatMap encX, u.oneCell' = true := flat_one (fun c u hu => by
 simp only [encX, List.mem_cons, List.not_mem_nil, or_false] at hu
 rcases hu with rfl | rfl | rfl | rfl | rfl | rfl | rfl | rfl | rfl | rfl <;> rfl) l
end Go.Proofs.YthlfmbbaomdciaaGreatDoor
set_option maxHeartbeats 4000000
set_option maxRecDepth 4000
namespace Go.Proofs.YthlfmbbaomdciaaGreatDoor
open Go Go.RowKit
attribute [local irreducible] JL JC JQ JO LO PO JA JX Ct
theorem Z_impltxsCopy (a : Option Addr) (c : Nat) (s : List TX) (hn : s.length ≤ 1000000000) (hl : ∀ q ∈ s, q.t.lim 1000000000) :
   Ct Tryz.prog 159 [.slice a s.length c] [] (fun w => SeesA w (rdsXS a c s)) (fun r A' => ∃ a' c' y, y.map TX.t = s.map TX.t ∧ r = .slice a' y.length c' ∧ A' = [.rows (rdsXS a' c' y)]) := by
 refine Ct.intro Tryz.func159 rfl Tryz.ntmps159 (lb rfl) fun w0 hpre => ?_
 have hs_1 : Sees w0 (.slice a s.length c) 10 s.length (s.flatMap encX) := (hpre).head
 have hi_2 : SeesA w0 (s.flatMap rdsX) := (hpre).tail
 refine go ?_
 refine JC.nilRow 35 10 <| JC.ghost (L' := [Res.rows (([] : List TX).flatMap rdsX), Res.row (.slice none 0 0) 35 10 0 (([] : List TX).flatMap encX)]) (fun w hw => hw.nilR (α := TX) (f := rdsX) [0] (B := [Res.row (.slice none 0 0) 35 10 0 (([] : List TX).flatMap encX)]) (F := []) rfl) <| jL (fun k_ e_ L_ => ∃ j : Nat, ∃ ya : Option Addr, ∃ yc : Nat, ∃ y : List TX, (j ≤ s.length) ∧ (y.map TX.t = (s.take j).map TX.t) ∧ (y.length = j) ∧ EL e_ [(2, .slice none 0 0), (3, .slice ya y.length yc), (6, .slice a s.length c), (7, nv s.length), (8, nv j)] ∧ L_ = [Res.rows (y.flatMap rdsX), Res.row (.slice ya y.length yc) 35 10 y.length (y.flatMap encX)] ∧ k_ = s.length - j) _ ⟨0, none, 0, [], by omega, rfl, rfl, EL.go, rfl, rfl⟩ ?_
 rintro _ _ _ ⟨j, ya, yc, y, hj, hd, hyl, ⟨_, rfl⟩, rfl, rfl⟩
 refine go ?_
 by_cases h_3 : ((j : Nat) : Int) < ((s.length : Nat) : Int)
 · have hlt : j < s.length := by omega
   refine go ?_
   obtain ⟨hr_4, hr_4b, -⟩ := sees_some hs_1 (by omega)
   refine go ?_
   have hi_5 := SeesA.elem hi_2 x0 (show j < s.length by omega)
   obtain ⟨hs_6, hs_7, hs_8, hs_9, hs_10⟩ := seesX hi_5
   refine jU (jj (vs := (xc (s.getD j x0))) hs_1 nM rfl kT kQ (flat_take encX_len x0 s j (by omega)) rfl (by decide)) ?_
   refine jG xzc fun b_11 => ?_
   refine jD 0 (xc (s.getD j x0)) ?_
   refine go ?_
   refine jA [] (Z_implTxclone (s.getD j x0) (hl _ (getD_mem (show j < s.length by omega)))) (hpre := fun w hw => hw.seeOutA hi_5 nMA) ?_
   rintro _ _ ⟨y_12, hy_13, rfl, rfl⟩
   refine jF rfl (jR (ps := [(0, (xv y_12))]) (cur := #[iv y_12.t.id, iv y_12.t.age, iv y_12.t.proc, iv y_12.t.began, .slice y_12.x.a0 y_12.t.calls.length y_12.x.c0, .slice y_12.x.a1 y_12.t.ans.length y_12.x.c1, .slice y_12.x.a2 y_12.t.rd.length y_12.x.c2, .slice y_12.x.a3 y_12.t.wr.length y_12.x.c3, .slice y_12.x.a4 y_12.t.marks.length y_12.x.c4, iv y_12.t.state]) km kQ Tryz.zeroValue35 rfl (by kernel_rfl) (by decide) (by decide)) ?_
   rintro _ _ ⟨a_14, rfl, rfl⟩
   refine jF rfl (jX 4 (q := 1) (news := ([y_12] : List TX).flatMap encX) (n' := (y ++ ([y_12] : List TX)).length) (cs' := (y ++ ([y_12] : List TX)).flatMap encX) rfl km km Tryz.typeInfo35 rfl (by' := 160) rfl rfl rfl rfl rfl (fun w hw => Src.sees (hw.see (i := 0) rfl) (oneX _)) (by (try simp only [LE]); omega) (by (try simp only [LE]); omega) (by simp only [List.length_append, List.length_take, List.length_drop, List.length_cons, List.length_nil] <;> first | rfl | omega) (by simp only [List.flatMap_append])) ?_
   rintro _ _ ⟨a_15, c_16, rfl, rfl⟩
   refine gQ ?_
   refine jb <| JQ.blockN <| jT <| jy ?_
   refine gQ ?_
   refine jb ?_
   refine jw (L' := [Res.rows ((y ++ [y_12]).flatMap rdsX), Res.row (.slice a_14 1 1) 35 10 1 (([y_12] : List TX).flatMap encX), bk b_11 35 (xc (s.getD j x0)), Res.row (.slice a_15 (y ++ ([y_12] : List TX)).length c_16) 35 10 (y ++ ([y_12] : List TX)).length ((y ++ ([y_12] : List TX)).flatMap encX)]) (fun w hw => hw.addR [3, 1] rfl flatMap_snoc) ?_
   exact jP [0, 2] ⟨j + 1, a_15, c_16, (y ++ [y_12]), by omega, (map_take_succ x0 hd hlt hy_13), (by rw [List.length_append, hyl]; rfl), EL.go, rfl, rfl⟩
 refine JC.condF (cB (dF h_3)) <| JC.exit <| JQ.thenExit <| JQ.thenExit <| JQ.blockE <| jT <| jc <| jy ?_
 refine gQ ?_
 refine jb <| jT <| jz ?_
 refine jw (L' := [Res.rows (rdsXS ya yc y)]) (fun w hw => hw.consR (r := ⟨.slice ya y.length yc, 35, 10, y.length, y.flatMap encX⟩) (A := y.flatMap rdsX) [1, 0] rfl) ?_
 refine jE (.inl rfl) rfl (jC (v := .slice ya y.length yc) rfl) (List.Sublist.refl _) ?_
 exact ⟨_, _, y, map_all hd (by omega), rfl, rfl⟩

theorem Z_specl19Copy (a : Option Addr) (c : Nat) (s : List TX) (hn : s.length ≤ 1000000000) (hl : ∀ q ∈ s, q.t.lim 1000000000) :
   Ct Tryz.prog 163 [.slice a s.length c] [] (fun w => SeesA w (rdsXS a c s)) (fun r A' => ∃ a' c' y, y.map TX.t = s.map TX.t ∧ r = .slice a' y.length c' ∧ A' = [.rows (rdsXS a' c' y)]) := by
 refine Ct.intro Tryz.func163 rfl Tryz.ntmps163 (lb rfl) fun w0 hpre => ?_
 have hs_1 : Sees w0 (.slice a s.length c) 10 s.length (s.flatMap encX) := (hpre).head
 have hi_2 : SeesA w0 (s.flatMap rdsX) := (hpre).tail
 refine go ?_
 refine jF rfl (jR (ps := []) (cur := #[]) km kQ Tryz.zeroValue35 rfl (by kernel_rfl) (by decide) (by decide)) ?_
 rintro _ _ ⟨a_3, rfl, rfl⟩
 refine gQ ?_
 refine jb <| jT <| jc <| jc <| jy ?_
 refine gQ ?_
 refine jb <| jT <| JC.block <| JC.ghost (L' := [Res.rows (([] : List TX).flatMap rdsX), Res.row (.slice a_3 0 0) 35 10 0 (([] : List TX).flatMap encX)]) (fun w hw => hw.nilR (α := TX) (f := rdsX) [0] (B := [Res.row (.slice a_3 0 0) 35 10 0 (([] : List TX).flatMap encX)]) (F := []) rfl) <| jL (fun k_ e_ L_ => ∃ j : Nat, ∃ ya : Option Addr, ∃ yc : Nat, ∃ y : List TX, (j ≤ s.length) ∧ (y.map TX.t = (s.take j).map TX.t) ∧ (y.length = j) ∧ EL e_ [(0, .slice a s.length c), (2, .slice none 0 0), (3, .slice ya y.length yc), (4, nv j)] ∧ L_ = [Res.rows (y.flatMap rdsX), Res.row (.slice ya y.length yc) 35 10 y.length (y.flatMap encX)] ∧ k_ = s.length - j) _ ⟨0, a_3, 0, [], by omega, rfl, rfl, EL.go, rfl, rfl⟩ ?_
 rintro _ _ _ ⟨j, ya, yc, y, hj, hd, hyl, ⟨_, rfl⟩, rfl, rfl⟩
 refine go ?_
 by_cases h_4 : ((j : Nat) : Int) < ((s.length : Nat) : Int)
 · have hlt : j < s.length := by omega
   refine go ?_
   obtain ⟨hr_5, hr_5b, -⟩ := sees_some hs_1 (by omega)
   refine go ?_
   have hi_6 := SeesA.elem hi_2 x0 (show j < s.length by omega)
   obtain ⟨hs_7, hs_8, hs_9, hs_10, hs_11⟩ := seesX hi_6
   refine jU (jj (vs := (xc (s.getD j x0))) hs_1 nM rfl kT kQ (flat_take encX_len x0 s j (by omega)) rfl (by decide)) ?_
   refine jA [] (Z_specl17Copy (s.getD j x0) (hl _ (getD_mem (show j < s.length by omega)))) (hpre := fun w hw => hw.seeOutA hi_6 nMA) ?_
   rintro _ _ ⟨y_12, hy_13, rfl, rfl⟩
   refine jF rfl (jR (ps := [(0, (xv y_12))]) (cur := #[iv y_12.t.id, iv y_12.t.age, iv y_12.t.proc, iv y_12.t.began, .slice y_12.x.a0 y_12.t.calls.length y_12.x.c0, .slice y_12.x.a1 y_12.t.ans.length y_12.x.c1, .slice y_12.x.a2 y_12.t.rd.length y_12.x.c2, .slice y_12.x.a3 y_12.t.wr.length y_12.x.c3, .slice y_12.x.a4 y_12.t.marks.length y_12.x.c4, iv y_12.t.state]) km kQ Tryz.zeroValue35 rfl (by kernel_rfl) (by decide) (by decide)) ?_
   rintro _ _ ⟨a_14, rfl, rfl⟩
   refine jF rfl (jX 3 (q := 1) (news := ([y_12] : List TX).flatMap encX) (n' := (y ++ ([y_12] : List TX)).length) (cs' := (y ++ ([y_12] : List TX)).flatMap encX) rfl km km Tryz.typeInfo35 rfl (by' := 160) rfl rfl rfl rfl rfl (fun w hw => Src.sees (hw.see (i := 0) rfl) (oneX _)) (by (try simp only [LE]); omega) (by (try simp only [LE]); omega) (by simp only [List.length_append, List.length_take, List.length_drop, List.length_cons, List.length_nil] <;> first | rfl | omega) (by simp only [List.flatMap_append])) ?_
   rintro _ _ ⟨a_15, c_16, rfl, rfl⟩
   refine gQ ?_
   refine jb <| JQ.blockN <| jT <| jy ?_
   refine gQ ?_
   refine jb ?_
   refine jw (L' := [Res.rows ((y ++ [y_12]).flatMap rdsX), Res.row (.slice a_14 1 1) 35 10 1 (([y_12] : List TX).flatMap encX), Res.row (.slice a_15 (y ++ ([y_12] : List TX)).length c_16) 35 10 (y ++ ([y_12] : List TX)).length ((y ++ ([y_12] : List TX)).flatMap encX)]) (fun w hw => hw.addR [2, 1] rfl flatMap_snoc) ?_
   exact jP [0, 1] ⟨j + 1, a_15, c_16, (y ++ [y_12]), by omega, (map_take_succ x0 hd hlt hy_13), (by rw [List.length_append, hyl]; rfl), EL.go, rfl, rfl⟩
 refine JC.condF (cB (dF h_4)) <| JC.exit <| JQ.thenExit <| JQ.thenExit <| JQ.blockE <| jT <| jc <| jy ?_
 refine gQ ?_
 refine jb <| jT <| jz ?_
 refine jw (L' := [Res.rows (rdsXS ya yc y)]) (fun w hw => hw.consR (r := ⟨.slice ya y.length yc, 35, 10, y.length, y.flatMap encX⟩) (A := y.flatMap rdsX) [1, 0] rfl) ?_
 refine jE (.inl rfl) rfl (jC (v := .slice ya y.length yc) rfl) (List.Sublist.refl _) ?_
 exact ⟨_, _, y, map_all hd (by omega), rfl, rfl⟩
set_option maxRecDepth 4000 in
theorem Y_specApart (a : Option Addr) (c : Nat) (l : List TX) (hn : l.length ≤ 1000000000) (hz : ∀ j, j < l.length → okS (l.getD j x0).t.rd ∧ okS (l.getD j x0).t.wr) :
   Ct Tryz.prog 70 [.slice a l.length c] [] (fun w => SeesA w (rdsXS a c l)) (fun v A' => v = .bool (apartAll (l.map TX.t)) ∧ A' = []) := by
 refine Ct.intro Tryz.func70 rfl Tryz.ntmps70 (lb rfl) fun w0 hpre => ?_
 have hs_1 : Sees w0 (.slice a l.length c) 10 l.length (l.flatMap encX) := (hpre).head
 have hi_2 : SeesA w0 (l.flatMap rdsX) := (hpre).tail
 refine go ?_
 refine jL (fun k_ e_ L_ => ∃ j : Nat, (j ≤ l.length) ∧ (∀ i, i < j → (rall i fun k => !bothLive (l.getD i x0).t (l.getD k x0).t) = true) ∧ EL e_ [(0, .slice a l.length c), (3, nv j)] ∧ L_ = [] ∧ k_ = l.length - j) _ ⟨0, by omega, (fun i hi => absurd hi (Nat.not_lt_zero i)), EL.go, rfl, rfl⟩ ?_
 rintro _ _ _ ⟨j, hj, hN, ⟨_, rfl⟩, rfl, rfl⟩
 refine go ?_
 by_cases h_3 : ((j : Nat) : Int) < ((l.length : Nat) : Int)
 · have hlt : j < l.length := by omega
   refine go ?_
   refine jL (fun k_ e_ L_ => ∃ k2 : Nat, (k2 ≤ j) ∧ (∀ i, i < k2 → (!bothLive (l.getD j x0).t (l.getD i x0).t) = true) ∧ EL e_ [(0, .slice a l.length c), (3, nv j), (4, nv k2)] ∧ L_ = [] ∧ k_ = j - k2) _ ⟨0, by omega, (fun i hi => absurd hi (Nat.not_lt_zero i)), EL.go, rfl, rfl⟩ ?_
   rintro _ _ _ ⟨k2, hk2, hM, ⟨_, rfl⟩, rfl, rfl⟩
   refine go ?_
   by_cases h_4 : ((k2 : Nat) : Int) < ((j : Nat) : Int)
   · have hlt2 : k2 < j := by omega
     refine go ?_
     refine jH [] 1000 ?_
     refine go ?_
     obtain ⟨hr_5, hr_5b, -⟩ := sees_some hs_1 (by omega)
     refine go ?_
     have hi_6 := SeesA.elem hi_2 x0 (show j < l.length by omega)
     obtain ⟨hs_7, hs_8, hs_9, hs_10, hs_11⟩ := seesX hi_6
     refine jk 4 rfl (jY (v := iv (l.getD j x0).t.state) hs_1 nM rfl kR (flat_at encX_len x0 l j 9 (by omega) (by decide))) ?_
     refine go ?_
     by_cases h_12 : (l.getD j x0).t.state = 1
     · refine go ?_
       have hi_13 := SeesA.elem hi_2 x0 (show k2 < l.length by omega)
       obtain ⟨hs_14, hs_15, hs_16, hs_17, hs_18⟩ := seesX hi_13
       refine kG 11 rfl (by kernel_rfl) (NP.th (NP.bl (NP.th (NP.th (NP.bl (NP.bl (NP.th (NP.th (NP.bl (NP.th NP.body)))))))))) (by kernel_rfl) (by kernel_rfl) (by kernel_rfl) rfl rfl rfl (cB (dT h_12)) (jY (v := iv (l.getD k2 x0).t.state) hs_1 nM rfl kR (flat_at encX_len x0 l k2 9 (by omega) (by decide))) ?_
       refine go ?_
       by_cases h_19 : (l.getD k2 x0).t.state = 1
       · refine go ?_
         refine kG 19 rfl (by kernel_rfl) (NP.th (NP.bl (NP.th (NP.th (NP.bl (NP.bl (NP.th (NP.th (NP.bl (NP.th NP.body)))))))))) (by kernel_rfl) (by kernel_rfl) (by kernel_rfl) rfl rfl rfl (cB (dT h_19)) (jj (vs := [.slice (l.getD j x0).x.a2 (l.getD j x0).t.rd.length (l.getD j x0).x.c2, .slice (l.getD j x0).x.a3 (l.getD j x0).t.wr.length (l.getD j x0).x.c3]) hs_1 nM rfl kt ku (flat_part encX_len x0 l j 6 2 (by omega) (by decide)) rfl (by decide)) ?_
         refine go ?_
         refine kG 24 rfl (by kernel_rfl) (NP.th (NP.bl (NP.th (NP.th (NP.bl (NP.bl (NP.th (NP.th (NP.bl (NP.th NP.body)))))))))) (by kernel_rfl) (by kernel_rfl) (by kernel_rfl) rfl rfl rfl (cB (dT h_19)) (jj (vs := [.slice (l.getD k2 x0).x.a2 (l.getD k2 x0).t.rd.length (l.getD k2 x0).x.c2, .slice (l.getD k2 x0).x.a3 (l.getD k2 x0).t.wr.length (l.getD k2 x0).x.c3]) hs_1 nM rfl kt ku (flat_part encX_len x0 l k2 6 2 (by omega) (by decide)) rfl (by decide)) ?_
         refine jB (i := 25) ?_
         refine jn rfl rfl rfl rfl (cB (dT h_19)) (jO [] Tryz.call61 rfl (Y_specClash (l.getD j x0).x.a2 (l.getD j x0).x.a3 (l.getD k2 x0).x.a2 (l.getD k2 x0).x.a3 (l.getD j x0).x.c2 (l.getD j x0).x.c3 (l.getD k2 x0).x.c2 (l.getD k2 x0).x.c3 (l.getD j x0).t.rd (l.getD j x0).t.wr (l.getD k2 x0).t.rd (l.getD k2 x0).t.wr (hz j (by omega)).1 (hz j (by omega)).2 (hz k2 (by omega)).1 (hz k2 (by omega)).2) rfl (fun w hw => ⟨hw.seeOut_ hs_9 nM, hw.seeOut_ hs_10 nM, hw.seeOut_ hs_16 nM, hw.seeOut_ hs_17 nM⟩)) ?_
         rintro _ _ ⟨_, ⟨rfl, rfl⟩, rfl⟩
         refine ⟨all_go, ?_⟩
         refine jd 26 rfl (PO.pickT (v := .bool (clashT (l.getD j x0).t.rd (l.getD j x0).t.wr (l.getD k2 x0).t.rd (l.getD k2 x0).t.wr)) (cB (dT h_19)) rfl) ?_
         refine go ?_
         rcases Bool.eq_false_or_eq_true (clashT (l.getD j x0).t.rd (l.getD j x0).t.wr (l.getD k2 x0).t.rd (l.getD k2 x0).t.wr) with h_20 | h_20
         · refine go ?_
           refine jE (.inl rfl) rfl (jC (v := .bool false) rfl) (List.nil_sublist _) ?_
           exact ⟨cB ((apart_map l).trans (rall_false hlt (rall_false hlt2 (by simp [-List.getD_eq_getElem?_getD, bothLive, (dT h_12), h_12, (dT h_19), h_19, h_20])))).symm, rfl⟩
         refine go ?_
         refine jV (j - (k2 + 1)) (by omega) ⟨k2 + 1, by omega, (fun i hi => if h : i = k2 then h ▸ (by simp [-List.getD_eq_getElem?_getD, bothLive, (dT h_12), h_12, (dT h_19), h_19, h_20]) else hM i (by omega)), EL.go, rfl, rfl⟩
       refine go ?_
       refine JA.takeOff 24 (b := false) rfl (by kernel_rfl) (NP.th (NP.bl (NP.th (NP.th (NP.bl (NP.bl (NP.th (NP.th (NP.bl (NP.th NP.body)))))))))) (by kernel_rfl) (by kernel_rfl) rfl rfl rfl (cB (dF h_19)) <| JA.takeOff 25 (b := false) rfl (by kernel_rfl) (NP.th (NP.bl (NP.th (NP.th (NP.bl (NP.bl (NP.th (NP.th (NP.bl (NP.th NP.body)))))))))) (by kernel_rfl) (by kernel_rfl) rfl rfl rfl (cB (dF h_19)) <| jd 26 rfl (PO.pickF (v := .bool false) (cB (dF h_19)) rfl) ?_
       refine go ?_
       refine jV (j - (k2 + 1)) (by omega) ⟨k2 + 1, by omega, (fun i hi => if h : i = k2 then h ▸ (by simp [-List.getD_eq_getElem?_getD, bothLive, (dT h_12), h_12, (dF h_19), h_19]) else hM i (by omega)), EL.go, rfl, rfl⟩
     refine go ?_
     refine JA.takeOff 24 (b := false) rfl (by kernel_rfl) (NP.th (NP.bl (NP.th (NP.th (NP.bl (NP.bl (NP.th (NP.th (NP.bl (NP.th NP.body)))))))))) (by kernel_rfl) (by kernel_rfl) rfl rfl rfl (cB rfl) <| JA.takeOff 25 (b := false) rfl (by kernel_rfl) (NP.th (NP.bl (NP.th (NP.th (NP.bl (NP.bl (NP.th (NP.th (NP.bl (NP.th NP.body)))))))))) (by kernel_rfl) (by kernel_rfl) rfl rfl rfl (cB rfl) <| jd 26 rfl (PO.pickF (v := .bool false) (cB rfl) rfl) ?_
     refine go ?_
     refine jV (j - (k2 + 1)) (by omega) ⟨k2 + 1, by omega, (fun i hi => if h : i = k2 then h ▸ (by simp [-List.getD_eq_getElem?_getD, bothLive, (dF h_12), h_12]) else hM i (by omega)), EL.go, rfl, rfl⟩
   refine go ?_
   refine jV (l.length - (j + 1)) (by omega) ⟨j + 1, by omega, (fun i hi => if h : i = j then h ▸ (rall_true fun i hi => hM i (by omega)) else hN i (by omega)), EL.go, rfl, rfl⟩
 refine go ?_
 refine jE (.inl rfl) rfl (jC (v := .bool true) rfl) (List.nil_sublist _) ?_
 exact ⟨cB ((apart_map l).trans (rall_true fun i hi => hN i (by omega))).symm, rfl⟩
end Go.Proofs.YthlfmbbaomdciaaGreatDoor
namespace Go.Proofs.YthlfmbbaomdciaaGreatDoor
open Go Go.RowKit
/-- The place of the first of which P says yes, or -1. -/
def idxT (P : TD → Prop) [DecidablePred P] (l : List TD) : Int := idxI (fun t => decide (P t)) l
abbrev findT (l : List TD) (id : Int) : Int := idxT (fun t => t.id = id) l
theorem findAt_map {α β : Type} {f : α → β} {p : β → Bool} : ∀ l : List α, findAt p (l.map f) = findAt (fun x => p (f x)) l
 | [] => rfl
 | x :: l => by simp only [List.map_cons, findAt, findAt_map l]
theorem idxT_none {P : TD → Prop} [DecidablePred P] {l : List TX} {j : Nat} (hj : l.length ≤ j) (hN : ∀ i, i < j → ¬ P (l.getD i x0).t) : idxT P (l.map TX.t) = -1 := by
 have := idxI_none (p := fun x : TX => decide (P x.t)) x0 hj (fun i hi => decide_eq_false (hN i hi))
 unfold idxT idxI at *
 rw [findAt_map, List.length_map]
 exact this
theorem idxT_found {P : TD → Prop} [DecidablePred P] {l : List TX} {j : Nat} (hj : j < l.length) (hN : ∀ i, i < j → ¬ P (l.getD i x0).t) (h : P (l.getD j x0).t) : idxT P (l.map TX.t) = ((j : Nat) : Int) := by
 have := idxI_found (p := fun x : TX => decide (P x.t)) x0 hj (fun i hi => decide_eq_false (hN i hi)) (decide_eq_true h)
 unfold idxT idxI at *
 rw [findAt_map, List.length_map]
 exact this
theorem idxT_lo (P : TD → Prop) [DecidablePred P] (l : List TD) : -1 ≤ idxT P l ∧ idxT P l < ((l.length : Nat) : Int) := by
 unfold idxT
 rcases idxI_lo (fun t => decide (P t)) l with ⟨h, _⟩ | ⟨h, h2⟩ <;> rw [h] <;> omega
/-- The numbers of those of which P says yes. -/
def idsT (P : TD → Bool) (l : List TD) : List Int := (l.filter P).map TD.id
theorem idsT_on {P : TD → Bool} {l : List TX} {j : Nat} {o : List Int} (h : j < l.length) (ho : o = idsT P ((l.take j).map TX.t)) (hp : P (l.getD j x0).t = true) : o ++ [(l.getD j x0).t.id] = idsT P ((l.take (j + 1)).map TX.t) := by
 rw [take_snoc x0 h, List.map_append, idsT, List.filter_append, List.map_append, ← idsT, ← ho]
 simp only [List.map_cons, List.map_nil, List.filter_cons, hp, if_true, List.filter_nil]
theorem idsT_off {P : TD → Bool} {l : List TX} {j : Nat} {o : List Int} (h : j < l.length) (ho : o = idsT P ((l.take j).map TX.t)) (hp : P (l.getD j x0).t = false) : o = idsT P ((l.take (j + 1)).map TX.t) := by
 rw [take_snoc x0 h, List.map_append, idsT, List.filter_append, List.map_append, ← idsT, ← ho]
 simp only [List.map_cons, List.map_nil, List.filter_cons, hp, Bool.false_eq_true, if_false, List.filter_nil, List.append_nil]
theorem idsT_all {P : TD → Bool} {l : List TX} {j : Nat} {o : List Int} (ho : o = idsT P ((l.take j).map TX.t)) (h : l.length ≤ j) : o = idsT P (l.map TX.t) := by
 rwa [List.take_of_length_le h] at ho
theorem idsT_len (P : TD → Bool) (l : List TD) : (idsT P l).length ≤ l.length := by
 rw [idsT, List.length_map]
 exact List.length_filter_le ..
def liveP (t : TD) : Bool := decide (t.state = 1)
def clashP (r w : List Str) (but : Int) (t : TD) : Bool := decide (t.state = 1 ∧ ¬ t.id = but ∧ clashT t.rd t.wr r w = true)
/-- One that lives and is named is dropped. -/
def TD.dropIf (ids : List Int) (t : TD) : TD := if t.state = 1 ∧ t.id ∈ ids then ⟨t.id, t.age, t.proc, t.began, t.calls, t.ans, t.rd, t.wr, t.marks, 3⟩ else t
theorem dropIf_on {ids : List Int} {t : TD} (h : t.state = 1) (h2 : t.id ∈ ids) : t.dropIf ids = ⟨t.id, t.age, t.proc, t.began, t.calls, t.ans, t.rd, t.wr, t.marks, 3⟩ := if_pos ⟨h, h2⟩
theorem dropIf_off {ids : List Int} {t : TD} (h : ¬ (t.state = 1 ∧ t.id ∈ ids)) : t.dropIf ids = t := if_neg h
theorem dropIf_rw (ids : List Int) (t : TD) : (t.dropIf ids).rd = t.rd ∧ (t.dropIf ids).wr = t.wr ∧ (t.dropIf ids).id = t.id := by
 unfold TD.dropIf
 split <;> exact ⟨rfl, rfl, rfl⟩
theorem dropIf_lim {ids : List Int} {t : TD} {n : Nat} (h : t.lim n) : (t.dropIf ids).lim n := by
 unfold TD.dropIf
 split
 · exact ⟨h.l0, h.l1, h.l2, h.l3, h.l4⟩
 · exact h
/-- The first i of a list turned by f. -/
def mapTo (f : TD → TD) : Nat → List TD → List TD
 | 0, l => l
 | _ + 1, [] => []
 | i + 1, x :: l => f x :: mapTo f i l
theorem mapTo_len (f : TD → TD) : ∀ (i : Nat) (l : List TD), (mapTo f i l).length = l.length
 | 0, _ => rfl
 | _ + 1, [] => rfl
 | i + 1, x :: l => congrArg (· + 1) (mapTo_len f i l)
theorem mapTo_set (f : TD → TD) (d : TD) : ∀ (i : Nat) (l : List TD), i < l.length → (mapTo f i l).set i (f ((mapTo f i l).getD i d)) = mapTo f (i + 1) l
 | _, [], h => absurd h (Nat.not_lt_zero _)
 | 0, x :: l, _ => rfl
 | i + 1, x :: l, h => congrArg (f x :: ·) (mapTo_set f d i l (Nat.lt_of_succ_lt_succ h))
theorem mapTo_all (f : TD → TD) : ∀ (i : Nat) (l : List TD), l.length ≤ i → mapTo f i l = l.map f
 | 0, [], _ => rfl
 | 0, _ :: _, h => absurd h (Nat.not_succ_le_zero _)
 | _ + 1, [], _ => rfl
 | i + 1, x :: l, h => congrArg (f x :: ·) (mapTo_all f i l (Nat.le_of_succ_le_succ h))
theorem getD_mapX {v : List TX} {j : Nat} : (v.map TX.t).getD j x0.t = (v.getD j x0).t := getD_map'
theorem drop_on {ids : List Int} {v y : List TX} {j : Nat} {x : TA} (h : j < y.length) (e : v.map TX.t = mapTo (TD.dropIf ids) j (y.map TX.t)) (h1 : (v.getD j x0).t.state = 1) (h2 : (v.getD j x0).t.id ∈ ids) :
   (v.set j (⟨x, ⟨(v.getD j x0).t.id, (v.getD j x0).t.age, (v.getD j x0).t.proc, (v.getD j x0).t.began, (v.getD j x0).t.calls, (v.getD j x0).t.ans, (v.getD j x0).t.rd, (v.getD j x0).t.wr, (v.getD j x0).t.marks, 3⟩⟩ : TX)).map TX.t = mapTo (TD.dropIf ids) (j + 1) (y.map TX.t) := by
 rw [← mapTo_set (TD.dropIf ids) x0.t j (y.map TX.t) (by rw [List.length_map]; exact h), ← e, List.map_set, getD_mapX, dropIf_on h1 h2]
theorem drop_off {ids : List Int} {v y : List TX} {j : Nat} (h : j < y.length) (e : v.map TX.t = mapTo (TD.dropIf ids) j (y.map TX.t)) (h1 : ¬ ((v.getD j x0).t.state = 1 ∧ (v.getD j x0).t.id ∈ ids)) :
   v.map TX.t = mapTo (TD.dropIf ids) (j + 1) (y.map TX.t) := by
 rw [← mapTo_set (TD.dropIf ids) x0.t j (y.map TX.t) (by rw [List.length_map]; exact h), ← e, getD_mapX, dropIf_off h1]
 have hl : j < (v.map TX.t).length := by rw [e, mapTo_len, List.length_map]; exact h
 have : (v.getD j x0).t = (v.map TX.t)[j] := by
   rw [← getD_mapX, List.getD_eq_getElem?_getD, List.getElem?_eq_getElem hl]; rfl
 rw [this, List.set_getElem_self]
theorem drop_all {ids : List Int} {v y : List TX} {j : Nat} (e : v.map TX.t = mapTo (TD.dropIf ids) j (y.map TX.t)) (h : y.length ≤ j) : v.map TX.t = (y.map TX.t).map (TD.dropIf ids) := by
 rw [e, mapTo_all _ _ _ (by rw [List.length_map]; exact h)]
theorem drop_len {f : TD → TD} {v : List TX} {l : List TD} (e : v.map TX.t = l.map f) : v.length = l.length := by
 have := congrArg List.length e
 simpa only [List.length_map] using this
theorem drop_get {ids : List Int} {v y : List TX} (e : v.map TX.t = (y.map TX.t).map (TD.dropIf ids)) {j : Nat} (h : j < y.length) : (v.getD j x0).t = (y.getD j x0).t.dropIf ids := by
 have hl := drop_len e
 rw [List.length_map] at hl
 have h1 := map_getD (f := TX.t) x0 (s := v) (j := j) (by omega)
 rw [e, List.map_map, map_getD (f := TD.dropIf ids ∘ TX.t) x0 h] at h1
 exact (Option.some.inj h1).symm
/-- Who was named does not live. -/
theorem drop_dead {ids : List Int} {v y : List TX} (e : v.map TX.t = (y.map TX.t).map (TD.dropIf ids)) {j k : Nat} (h : j < v.length) (hk : k < ids.length) (h1 : (v.getD j x0).t.id = ids.getD k 0) (h2 : (v.getD j x0).t.state = 1) : False := by
 have hl := drop_len e
 rw [List.length_map] at hl
 rw [drop_get e (by omega)] at h1 h2
 by_cases hd : (y.getD j x0).t.state = 1 ∧ (y.getD j x0).t.id ∈ ids
 · rw [dropIf_on hd.1 hd.2] at h2
   exact absurd h2 (by show ¬ (3 : Int) = 1; decide)
 · rw [dropIf_off hd] at h1 h2
   exact hd ⟨h2, by rw [h1]; exact getD_mem hk⟩
/-- When all that clash are dropped, none clashes. -/
theorem clash_none {r w : List Str} {but : Int} {v y : List TX} (e : v.map TX.t = (y.map TX.t).map (TD.dropIf (idsT (clashP r w but) (y.map TX.t)))) : idsT (clashP r w but) (v.map TX.t) = [] := by
 rw [e, idsT, List.map_eq_nil_iff, List.filter_eq_nil_iff]
 intro t ht hp
 obtain ⟨u, hu, rfl⟩ := List.mem_map.1 ht
 have hp' := of_decide_eq_true hp
 by_cases hd : u.state = 1 ∧ u.id ∈ idsT (clashP r w but) (y.map TX.t)
 · rw [dropIf_on hd.1 hd.2] at hp'
   exact absurd hp'.1 (by show ¬ (3 : Int) = 1; decide)
 · rw [dropIf_off hd] at hp'
   exact hd ⟨hp'.1, List.mem_map.2 ⟨u, List.mem_filter.2 ⟨hu, decide_eq_true hp'⟩, rfl⟩⟩
theorem clash_len {r w : List Str} {but : Int} {v y : List TX} (e : v.map TX.t = (y.map TX.t).map (TD.dropIf (idsT (clashP r w but) (y.map TX.t)))) : (idsT (clashP r w but) (v.map TX.t)).length = 0 := by rw [clash_none e]; rfl
theorem clashP_on {r w : List Str} {but : Int} {t : TD} (h1 : t.state = 1) (h2 : ¬ t.id = but) (h3 : clashT t.rd t.wr r w = true) : clashP r w but t = true := decide_eq_true ⟨h1, h2, h3⟩
theorem clashP_off1 {r w : List Str} {but : Int} {t : TD} (h : ¬ t.state = 1) : clashP r w but t = false := decide_eq_false fun q => h q.1
theorem clashP_off2 {r w : List Str} {but : Int} {t : TD} (h : t.id = but) : clashP r w but t = false := decide_eq_false fun q => q.2.1 h
theorem clashP_off3 {r w : List Str} {but : Int} {t : TD} (h : clashT t.rd t.wr r w = false) : clashP r w but t = false := decide_eq_false fun q => by rw [h] at q; exact absurd q.2.2 (by decide)
theorem clashP_of {r w : List Str} {but : Int} {t : TD} (h1 : t.state = 1) (h2 : ¬ t.id = but) : clashT t.rd t.wr r w = clashP r w but t := by
 cases h : clashT t.rd t.wr r w
 · exact (clashP_off3 h).symm
 · exact (clashP_on h1 h2 h).symm
/-- Whether a number stands in a list. -/
def hasI (s : List Int) (n : Int) : Bool := s.any fun q => decide (n = q)
theorem hasI_iff {s : List Int} {n : Int} : hasI s n = true ↔ n ∈ s := by
 unfold hasI
 rw [List.any_eq_true]
 constructor
 · rintro ⟨x, hx, h⟩
   rw [of_decide_eq_true h]
   exact hx
 · exact fun h => ⟨n, h, decide_eq_true rfl⟩
theorem hasI_at {s : List Int} {n : Int} {j : Nat} (h : j < s.length) (e : s.getD j 0 = n) : hasI s n = true := hasI_iff.2 (e ▸ getD_mem h)
theorem hasI_none {s : List Int} {n : Int} {j : Nat} (h : s.length ≤ j) (hN : ∀ i, i < j → ¬ s.getD i 0 = n) : hasI s n = false := by
 cases hh : hasI s n
 · rfl
 · obtain ⟨i, hi, e⟩ := List.getElem_of_mem (hasI_iff.1 hh)
   exact absurd (by rw [← e, List.getD_eq_getElem?_getD, List.getElem?_eq_getElem hi]; rfl) (hN i (by omega))
theorem dropN {ids : List Int} {t : TD} (h : hasI ids t.id = false) : ¬ (t.state = 1 ∧ t.id ∈ ids) := fun q => by rw [hasI_iff.2 q.2] at h; exact absurd h (by decide)
def okL2 (l : List TX) : Prop := ∀ j, j < l.length → okS (l.getD j x0).t.rd ∧ okS (l.getD j x0).t.wr
theorem okL2.drop {ids : List Int} {v y : List TX} (h : okL2 y) (e : v.map TX.t = (y.map TX.t).map (TD.dropIf ids)) : okL2 v := fun j hj => by
 have hl := drop_len e
 rw [List.length_map] at hl
 rw [drop_get e (by omega), (dropIf_rw ids _).1, (dropIf_rw ids _).2.1]
 exact h j (by omega)
theorem lim_drop {ids : List Int} {v y : List TX} {n : Nat} (h : ∀ q ∈ y, q.t.lim n) (e : v.map TX.t = (y.map TX.t).map (TD.dropIf ids)) : ∀ q ∈ v, q.t.lim n := fun q hq => by
 have hm := List.mem_map_of_mem (f := TX.t) hq
 rw [e, List.map_map] at hm
 obtain ⟨u, hu, he⟩ := List.mem_map.1 hm
 rw [← he]
 exact dropIf_lim (h u hu)
theorem flatMap_sameX {v : List TX} {j : Nat} {y : TX} (hj : j < v.length) (h : rdsX (v.getD j x0) = rdsX y) : v.flatMap rdsX = (v.set j y).flatMap rdsX := by
 rw [flatMap_at x0 hj, flatMap_setAt hj, h]
def apR (rs : List RD) (D : List Nat) : Prop := ∀ r ∈ rs, ∀ b, r.v.ownBlock = some b → b ∉ D
theorem apR.head {r : RD} {rs : List RD} {D : List Nat} (h : apR (r :: rs) D) : ∀ b, r.v.ownBlock = some b → b ∉ D := h r (List.mem_cons_self ..)
theorem apR.tail {r : RD} {rs : List RD} {D : List Nat} (h : apR (r :: rs) D) : apR rs D := fun q hq => h q (List.mem_cons_of_mem _ hq)
theorem apR.elem {f : TX → List RD} {l : List TX} {D : List Nat} (h : apR (l.flatMap f) D) {j : Nat} (hj : j < l.length) : apR (f (l.getD j x0)) D := fun q hq => h q (List.mem_flatMap.2 ⟨_, getD_mem hj, hq⟩)
theorem ap2 {v : Value} {k1 k2 t1 t2 : Nat} {c1 c2 : List Value} (h1 : ∀ b, v.ownBlock = some b → b ≠ k1) (h2 : ∀ b, v.ownBlock = some b → b ≠ k2) : ∀ b, v.ownBlock = some b → b ∉ idsOf [bk k1 t1 c1, bk k2 t2 c2] := fun b hb hm => by
 have hm : b ∈ [k1, k2] := hm
 rcases List.mem_cons.1 hm with rfl | hm
 · exact h1 _ hb rfl
 · exact h2 _ hb (List.mem_singleton.1 hm)
theorem apR.two {rs : List RD} {k1 k2 t1 t2 : Nat} {c1 c2 : List Value} (h1 : ∀ r ∈ rs, ∀ b, r.v.ownBlock = some b → b ≠ k1) (h2 : ∀ r ∈ rs, ∀ b, r.v.ownBlock = some b → b ≠ k2) : apR rs (idsOf [bk k1 t1 c1, bk k2 t2 c2]) := fun r hr => ap2 (h1 r hr) (h2 r hr)
theorem St.apartFA {w0 w : World} {L : List Res} {rs : List RD} (hw : St w0 [] L w) (j : Nat) {kb t' : Nat} {cs' : List Value} (hs : SeesA w0 rs) (hL : L[j]? = some (bk kb t' cs')) : ∀ r ∈ rs, ∀ b, r.v.ownBlock = some b → b ≠ kb := fun r hr => hw.apartF j (hs r hr) hL List.not_mem_nil
theorem apX {q : TX} {D : List Nat} (h : apR (rdsX q) D) : (∀ b, (Value.slice q.x.a2 q.t.rd.length q.x.c2).ownBlock = some b → b ∉ D) ∧ (∀ b, (Value.slice q.x.a3 q.t.wr.length q.x.c3).ownBlock = some b → b ∉ D) := ⟨h.tail.tail.head, h.tail.tail.tail.head⟩
end Go.Proofs.YthlfmbbaomdciaaGreatDoor
