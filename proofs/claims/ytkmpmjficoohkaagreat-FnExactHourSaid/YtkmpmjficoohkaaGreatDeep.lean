/-
  Nested rows: lists of structs whose fields are slices with rows of their own. No program in sight.
-/
import Derived.Test.YtkmpmjficoohkaaGreatFlat
import Derived.Test.YtkmpmjficoohkaaGreatDatT
set_option linter.unusedSimpArgs false
set_option linter.unusedVariables false
set_option linter.unnecessarySimpa false
namespace Go.Proofs.YtkmpmjficoohkaaGreat
open Go Go.RowKit
/-- A told row can be read; each of some. -/
def RD.sees (w : World) (r : RD) : Prop := Sees w r.v r.k r.n r.cs
def SeesA (w : World) (rs : List RD) : Prop := ∀ r ∈ rs, r.sees w
section
variable {w0 w : World} {D : List Nat} {L F : List Res} {rs A B C : List RD} {r : RD}
theorem SeesA.nil : SeesA w [] := fun _ h => by cases h
theorem SeesA.cons (h : r.sees w) (h' : SeesA w rs) : SeesA w (r :: rs) := fun q hq => by
  rcases List.mem_cons.1 hq with rfl | hq
  · exact h
  · exact h' q hq
theorem SeesA.head (h : SeesA w (r :: rs)) : r.sees w := h r (List.mem_cons_self ..)
theorem SeesA.tail (h : SeesA w (r :: rs)) : SeesA w rs := fun q hq => h q (List.mem_cons_of_mem _ hq)
theorem SeesA.left (h : SeesA w (A ++ B)) : SeesA w A := fun q hq => h q (List.mem_append_left _ hq)
theorem SeesA.right (h : SeesA w (A ++ B)) : SeesA w B := fun q hq => h q (List.mem_append_right _ hq)
theorem SeesA.app (h : SeesA w A) (h' : SeesA w B) : SeesA w (A ++ B) := fun q hq => by
  rcases List.mem_append.1 hq with hq | hq
  · exact h q hq
  · exact h' q hq
theorem SeesA.elem {α : Type} {f : α → List RD} {l : List α} (h : SeesA w (l.flatMap f)) {j : Nat} (d : α) (hj : j < l.length) : SeesA w (f (l.getD j d)) := fun q hq => h q (List.mem_flatMap.2 ⟨_, getD_mem hj, hq⟩)
theorem ownsR_sees {t k n : Nat} {v : Value} {cs : List Value} (h : World.ownsR w 0 t k v n cs) : Sees w v k n cs := by
  refine ⟨h.1, ?_⟩
  rcases h.2 with ⟨hv, rfl⟩ | ⟨g, cap, cur, hv, _, hg, h1, h2, h3, h4⟩
  · exact .inl ⟨hv, rfl⟩
  · subst hv
    refine .inr ⟨g, 0, cap, rfl, h1, h2, hg.lt, fun j u hj => ?_⟩
    obtain ⟨g', hg', hcell⟩ := row_cell h hj
    simp only [Option.some.injEq, Addr.mk.injEq, and_true] at hg'
    rw [Nat.zero_add, hg']
    exact hcell
theorem St.seeRows (hw : St w0 D L w) (i : Nat) (hL : L[i]? = some (.rows rs)) : SeesA w rs := fun r hr => ownsR_sees (hw.get hL r hr)
theorem St.seeRow (hw : St w0 D L w) (i : Nat) {v : Value} {t k n : Nat} {cs : List Value} (hL : L[i]? = some (.row v t k n cs)) : Sees w v k n cs := ownsR_sees (hw.get hL)
theorem St.seeOutA (hw : St w0 D L w) (hs : SeesA w0 rs) (hD : ∀ r ∈ rs, ∀ b, r.v.ownBlock = some b → b ∉ D) : SeesA w rs := fun r hr => hw.seeOut_ (hs r hr) (hD r hr)
theorem nMA : ∀ r ∈ rs, ∀ b, r.v.ownBlock = some b → b ∉ ([] : List Nat) := fun _ _ _ _ => List.not_mem_nil
/-- It can be read, or it is empty, wherever it points. -/
def SeesE (w : World) (v : Value) (k m : Nat) (cs : List Value) : Prop := Sees w v k m cs ∨ ((∃ a, v = .slice a 0 0) ∧ m = 0 ∧ cs = [])
theorem SeesE.full {v : Value} {k m : Nat} {cs : List Value} (h : SeesE w v k m cs) (h0 : 0 < m) : Sees w v k m cs := by
  rcases h with h | ⟨_, h, _⟩
  · exact h
  · omega
def SeesAE (w : World) (rs : List RD) : Prop := ∀ r ∈ rs, SeesE w r.v r.k r.n r.cs
theorem SeesAE.nil : SeesAE w [] := fun _ h => by cases h
theorem SeesAE.cons (h : SeesE w r.v r.k r.n r.cs) (h' : SeesAE w rs) : SeesAE w (r :: rs) := fun q hq => by
  rcases List.mem_cons.1 hq with rfl | hq
  · exact h
  · exact h' q hq
theorem SeesAE.head (h : SeesAE w (r :: rs)) : SeesE w r.v r.k r.n r.cs := h r (List.mem_cons_self ..)
theorem SeesAE.tail (h : SeesAE w (r :: rs)) : SeesAE w rs := fun q hq => h q (List.mem_cons_of_mem _ hq)
theorem SeesAE.left (h : SeesAE w (A ++ B)) : SeesAE w A := fun q hq => h q (List.mem_append_left _ hq)
theorem SeesAE.right (h : SeesAE w (A ++ B)) : SeesAE w B := fun q hq => h q (List.mem_append_right _ hq)
theorem SeesAE.app (h : SeesAE w A) (h' : SeesAE w B) : SeesAE w (A ++ B) := fun q hq => by
  rcases List.mem_append.1 hq with hq | hq
  · exact h q hq
  · exact h' q hq
theorem SeesAE.elem {α : Type} {f : α → List RD} {l : List α} (h : SeesAE w (l.flatMap f)) {j : Nat} (d : α) (hj : j < l.length) : SeesAE w (f (l.getD j d)) := fun q hq => h q (List.mem_flatMap.2 ⟨_, getD_mem hj, hq⟩)
theorem St.seeOutE {v : Value} {k m : Nat} {cs : List Value} (hw : St w0 D L w) (hs : SeesE w0 v k m cs) (hD : ∀ b, v.ownBlock = some b → b ∉ D) : SeesE w v k m cs := by
  rcases hs with hs | hs
  · exact .inl (hw.seeOut_ hs hD)
  · exact .inr hs
theorem St.seeOutAE (hw : St w0 D L w) (hs : SeesAE w0 rs) (hD : ∀ r ∈ rs, ∀ b, r.v.ownBlock = some b → b ∉ D) : SeesAE w rs := fun r hr => hw.seeOutE (hs r hr) (hD r hr)
/- the owned rows, parted and joined -/
theorem St.openR (i : Nat) (hp : pick [i] L = some ([.rows A], F)) (hw : St w0 D L w) : St w0 D (A.map RD.res ++ F) w := St.openRows (hw.perm (pick_perm [i] hp).symm)
theorem St.closeR (is : List Nat) (hp : pick is L = some (A.map RD.res, F)) (hw : St w0 D L w) : St w0 D (.rows A :: F) w := St.closeRows (hw.perm (pick_perm is hp).symm)
theorem St.splitR (i : Nat) (hp : pick [i] L = some ([.rows rs], F)) (e : rs = A ++ (B ++ C)) (hw : St w0 D L w) : St w0 D (.rows A :: .rows B :: .rows C :: F) w := by
  subst e
  have h1 := (hw.perm (pick_perm [i] hp).symm).rowsApp
  have h2 : St w0 D (.rows (B ++ C) :: .rows A :: F) w := h1.perm (List.Perm.swap _ _ _)
  have h3 := h2.rowsApp
  exact h3.perm ((List.Perm.swap _ _ _).trans (List.Perm.cons _ (List.Perm.swap _ _ _)))
theorem St.addR (is : List Nat) (hp : pick is L = some ([.rows A, .rows B], F)) (e : rs = A ++ B) (hw : St w0 D L w) : St w0 D (.rows rs :: F) w := by
  subst e
  exact (hw.perm (pick_perm is hp).symm).appRows
theorem St.joinR (is : List Nat) (hp : pick is L = some ([.rows A, .rows B, .rows C], F)) (e : rs = A ++ (B ++ C)) (hw : St w0 D L w) : St w0 D (.rows rs :: F) w := by
  subst e
  have h1 := hw.perm (pick_perm is hp).symm
  have h2 : St w0 D (.rows B :: .rows C :: .rows A :: F) w := h1.perm ((List.Perm.cons _ (List.Perm.swap _ _ _)).trans (List.Perm.swap _ _ _))
  have h3 := h2.appRows
  exact (h3.perm (List.Perm.swap _ _ _)).appRows
end
section
variable {P : Program} {ops : Array Oper} {Q : Exit → Act → World → Prop} {n : Nat} {w0 : World} {D : List Nat} {L L' : List Res} {e : Env}
theorem JL.ghost {l : List Oper} (g : ∀ w, St w0 D L w → St w0 D L' w) (h : JL P ops Q n w0 D L' l e) : JL P ops Q n w0 D L l e := fun w hw => h w (g w hw)
theorem JC.ghost {c : Code} (g : ∀ w, St w0 D L w → St w0 D L' w) (h : JC P Q n w0 D L' c e) : JC P Q n w0 D L c e := fun w hw => h w (g w hw)
theorem JQ.ghost {x : Exit} (g : ∀ w, St w0 D L w → St w0 D L' w) (h : JQ Q x n w0 D L' e) : JQ Q x n w0 D L e := fun w hw => h w (g w hw)
theorem St.eqL {w : World} (hL : L = L') (hw : St w0 D L w) : St w0 D L' w := hL ▸ hw
/-- A contract, told otherwise. -/
theorem Ct.conv {f : FuncId} {args : List Value} {A : List Res} {Pre Pre' : World → Prop} {Post Post' : Value → List Res → Prop} (h : Ct P f args A Pre Post) (h1 : ∀ w, Has A w → Pre' w → Pre w)
    (h2 : ∀ w0 v A' w, Post v A' → St w0 (idsOf A) A' w → ∃ A'', Post' v A'' ∧ St w0 (idsOf A) A'' w) : Ct P f args A Pre' Post' := fun w hA hp =>
  (h w hA (h1 w hA hp)).mono fun e w' he => by
    obtain ⟨v, A', rfl, hpost, hst⟩ := he
    obtain ⟨A'', hp', hst'⟩ := h2 w v A' w' hpost hst
    exact ⟨v, A'', rfl, hp', hst'⟩
section
variable {d : Option Tmp} {ty : TypeId} {pos : String} {aft : Array Edge} {gd : Option (Nat × Bool)}
theorem equal_bool {t : TypeId} (ht : P.underlying t = some .bool) (a b : Bool) (w : World) : (Op.equal t (.bool a) (.bool b)).run P w = .ok (decide (a = b)) w := by
  have h : ∀ d : Nat, (Op.equalIn (d + 1) t (.bool a) (.bool b)).run P w = .ok (decide (a = b)) w := fun d => by
    cases a <;> cases b <;> simp [Op.equalIn, run_underlying ht]
  simp only [Op.equal, Op.maxDepth, h 9999]
theorem PO.eqlB {x y : Operand} {a b : Bool} {t u : TypeId} (ht : P.underlying t = some .bool) (hx : rd n e x = .bool a) (hy : rd n e y = .bool b) : PO P n e ⟨d, .binOp .eql t x y u, ty, pos, aft, gd⟩ (.bool (decide (a = b))) := fun w => by
  simp [execOp, hx, hy, eqGuard, binOp, equal_bool ht]
theorem PO.neqB {x y : Operand} {a b : Bool} {t u : TypeId} (ht : P.underlying t = some .bool) (hx : rd n e x = .bool a) (hy : rd n e y = .bool b) : PO P n e ⟨d, .binOp .neq t x y u, ty, pos, aft, gd⟩ (.bool (!decide (a = b))) := fun w => by
  simp [execOp, hx, hy, eqGuard, binOp, equal_bool ht]
end
end
/- a row one of whose elements is told cell by cell -/
section
variable {α : Type} {enc : α → List Value} {k : Nat} {Q R : List α} {j : Nat} {cs : List Value}
def mid (enc : α → List Value) (Q : List α) (cs : List Value) (R : List α) : List Value := Q.flatMap enc ++ (cs ++ R.flatMap enc)
theorem mid_at (hk : ∀ x, (enc x).length = k) (hc : cs.length = k) (hQ : Q.length = j) (f : Nat) (hf : f < k) : (mid enc Q cs R)[j * k + f]? = cs[f]? := by
  have hl := flat_length hk Q
  unfold mid
  rw [List.getElem?_append_right (by rw [hl, hQ]; omega), hl, hQ, Nat.add_sub_cancel_left, List.getElem?_append_left (by omega)]
theorem mid_part (hk : ∀ x, (enc x).length = k) (hc : cs.length = k) (hQ : Q.length = j) (f m : Nat) (hf : f + m ≤ k) : ((mid enc Q cs R).drop (j * k + f)).take m = (cs.drop f).take m := by
  have hl := flat_length hk Q
  unfold mid
  rw [List.drop_append, List.drop_of_length_le (by rw [hl, hQ]; omega), List.nil_append, hl, hQ, Nat.add_sub_cancel_left, List.drop_append_of_le_length (by omega), List.take_append_of_le_length (by rw [List.length_drop]; omega)]
theorem mid_set (hk : ∀ x, (enc x).length = k) (hc : cs.length = k) (hQ : Q.length = j) (f : Nat) (vs : List Value) (hf : f + vs.length ≤ k) :
    (mid enc Q cs R).take (j * k + f) ++ vs ++ (mid enc Q cs R).drop (j * k + f + vs.length) = mid enc Q (cs.take f ++ vs ++ cs.drop (f + vs.length)) R := by
  have hl := flat_length hk Q
  unfold mid
  rw [List.take_append, List.take_of_length_le (by rw [hl, hQ]; omega), hl, hQ, Nat.add_sub_cancel_left, List.take_append_of_le_length (by omega), Nat.add_assoc, List.drop_append, List.drop_of_length_le (by rw [hl, hQ]; omega), List.nil_append, hl, hQ, Nat.add_sub_cancel_left, List.drop_append_of_le_length (by omega)]
  simp only [List.append_assoc]
theorem mid_len (hk : ∀ x, (enc x).length = k) (hc : cs.length = k) : (mid enc Q cs R).length = (Q.length + 1 + R.length) * k := by
  unfold mid
  rw [List.length_append, List.length_append, flat_length hk, flat_length hk, hc, Nat.add_mul, Nat.add_mul, Nat.one_mul, Nat.add_assoc]
theorem mid_fit (hk : ∀ x, (enc x).length = k) (hc : cs.length = k) (hQ : Q.length = j) {f m : Nat} (hf : f + m ≤ k) : j * k + f + m ≤ (mid enc Q cs R).length := by
  rw [mid_len hk hc, hQ, Nat.add_assoc j, Nat.add_mul, Nat.add_mul, Nat.one_mul]
  omega
theorem flat_atE (hk : ∀ x, (enc x).length = k) (d : α) (xs : List α) (i f : Nat) (hi : i < xs.length) (hf : f < k) {x : α} (hx : xs.getD i d = x) (hc : enc x = cs) : (xs.flatMap enc)[i * k + f]? = cs[f]? := by
  rw [flat_at hk d xs i f hi hf, hx, hc]
theorem mid_open {l : List α} (d : α) (hj : j < l.length) : (Q ++ l.drop j).flatMap enc = mid enc Q (enc (l.getD j d)) (l.drop (j + 1)) := by
  unfold mid
  rw [List.flatMap_append, drop_at (getD_some (d := d) hj), List.flatMap_cons]
theorem mid_close {q : α} : mid enc Q (enc q) R = ((Q ++ [q]) ++ R).flatMap enc := by
  unfold mid
  rw [List.flatMap_append, List.flatMap_append, List.flatMap_cons, List.flatMap_nil, List.append_nil, List.append_assoc]
theorem flatMap_snoc {β : Type} {f : α → List β} {l : List α} {y : α} : (l ++ [y]).flatMap f = l.flatMap f ++ f y := by
  rw [List.flatMap_append, List.flatMap_cons, List.flatMap_nil, List.append_nil]
theorem flatMap_mid {β : Type} {f : α → List β} {l : List α} (d : α) (hj : j < l.length) : (Q ++ l.drop j).flatMap f = Q.flatMap f ++ (f (l.getD j d) ++ (l.drop (j + 1)).flatMap f) := by
  rw [List.flatMap_append, drop_at (getD_some (d := d) hj), List.flatMap_cons]
theorem flatMap_mid2 {β : Type} {f : α → List β} {q : α} : ((Q ++ [q]) ++ R).flatMap f = Q.flatMap f ++ (f q ++ R.flatMap f) := by
  rw [List.flatMap_append, List.flatMap_append, List.flatMap_cons, List.flatMap_nil, List.append_nil, List.append_assoc]
theorem flatMap_at {β : Type} {f : α → List β} {l : List α} (d : α) (hj : j < l.length) : l.flatMap f = (l.take j).flatMap f ++ (f (l.getD j d) ++ (l.drop (j + 1)).flatMap f) := by
  have := flatMap_mid (Q := l.take j) (f := f) d hj
  rwa [List.take_append_drop] at this
theorem flatMap_setAt {β : Type} {f : α → List β} {l : List α} {y : α} (hj : j < l.length) : (l.set j y).flatMap f = (l.take j).flatMap f ++ (f y ++ (l.drop (j + 1)).flatMap f) := by
  rw [List.set_eq_take_append_cons_drop, if_pos hj, List.flatMap_append, List.flatMap_cons]
/- marks of elements that take as many as they are great -/
def markV (mk : α → Nat → α) (ct : α → Nat) : List α → Nat → List α
  | [], _ => []
  | x :: l, m => mk x m :: markV mk ct l (m + ct x)
def cntV (ct : α → Nat) : List α → Nat
  | [] => 0
  | x :: l => ct x + cntV ct l
variable {mk : α → Nat → α} {ct : α → Nat}
theorem markV_len : ∀ (l : List α) (m : Nat), (markV mk ct l m).length = l.length
  | [], _ => rfl
  | _ :: l, m => by simp [markV, markV_len l]
theorem cntV_app : ∀ (a b : List α), cntV ct (a ++ b) = cntV ct a + cntV ct b
  | [], b => by simp [cntV]
  | x :: a, b => by simp [cntV, cntV_app a b, Nat.add_assoc]
theorem take_snoc {l : List α} (d : α) (hj : j < l.length) : l.take (j + 1) = l.take j ++ [l.getD j d] := take_at (getD_some (d := d) hj)
theorem cntV_step {l : List α} (d : α) (hj : j < l.length) : cntV ct (l.take (j + 1)) = cntV ct (l.take j) + ct (l.getD j d) := by
  rw [take_snoc d hj, cntV_app]; simp [cntV]
theorem cntV_le {l : List α} (d : α) (hj : j < l.length) : cntV ct (l.take j) + ct (l.getD j d) ≤ cntV ct l := by
  rw [← cntV_step d hj]
  conv => rhs; rw [← List.take_append_drop (j + 1) l]
  rw [cntV_app]
  omega
theorem cntV_all {l : List α} (hj : l.length ≤ j) : cntV ct (l.take j) = cntV ct l := by rw [List.take_of_length_le hj]
theorem markV_get (d : α) : ∀ (l : List α) (m j : Nat), j < l.length → (markV mk ct l m).getD j d = mk (l.getD j d) (m + cntV ct (l.take j))
  | [], m, j, h => by simp at h
  | x :: l, m, 0, _ => by simp [markV, cntV]
  | x :: l, m, j + 1, h => by
    have := markV_get d l (m + ct x) j (by simpa using h)
    simp only [markV, List.getD_cons_succ, this, List.take_succ_cons, cntV, Nat.add_assoc]
theorem markV_step {l : List α} {m : Nat} (d : α) (hj : j < l.length) : (markV mk ct l m).take (j + 1) = (markV mk ct l m).take j ++ [mk (l.getD j d) (m + cntV ct (l.take j))] := by
  rw [take_snoc d (by rw [markV_len]; exact hj), markV_get d l m j hj]
theorem markV_all {l : List α} {m : Nat} (hj : l.length ≤ j) : (markV mk ct l m).take j = markV mk ct l m := List.take_of_length_le (by rw [markV_len]; exact hj)
theorem map_take_succ {β : Type} {f : α → β} {l y : List α} {x : α} (d : α) (h : y.map f = (l.take j).map f) (hj : j < l.length) (hx : f x = f (l.getD j d)) : (y ++ [x]).map f = (l.take (j + 1)).map f := by
  simp only [take_snoc d hj, List.map_append, h, List.map_cons, hx, List.map_nil]
theorem map_len {β : Type} {f : α → β} {l y : List α} (h : y.map f = (l.take j).map f) (hj : j ≤ l.length) : y.length = j := by
  have := congrArg List.length h
  rw [List.length_map, List.length_map, List.length_take] at this
  omega
theorem map_all {β : Type} {f : α → β} {l y : List α} (h : y.map f = (l.take j).map f) (hj : l.length ≤ j) : y.map f = l.map f := by
  rw [h, List.take_of_length_le hj]
end
/- ghosts on rows told cell by cell -/
section
variable {α : Type} {enc : α → List Value} {k : Nat} {Q R l : List α} {j : Nat} {cs : List Value} {w0 w : World} {D : List Nat} {L F : List Res} {A : List RD} {r : RD} {v : Value} {t n : Nat}
theorem St.midR (i : Nat) (hp : pick [i] L = some ([.row v t k n ((Q ++ l.drop j).flatMap enc)], F)) (d : α) (hj : j < l.length) (hw : St w0 D L w) : St w0 D (.row v t k n (mid enc Q (enc (l.getD j d)) (l.drop (j + 1))) :: F) w := by
  have h := hw.perm (pick_perm [i] hp).symm
  rw [mid_open d hj] at h
  exact h
theorem St.unmid (i : Nat) (hp : pick [i] L = some ([.row v t k n (mid enc Q cs R)], F)) {q : α} (hq : enc q = cs) (hw : St w0 D L w) : St w0 D (.row v t k n (((Q ++ [q]) ++ R).flatMap enc) :: F) w := by
  have h := hw.perm (pick_perm [i] hp).symm
  rw [← hq, mid_close] at h
  exact h
theorem St.headR (i : Nat) (hp : pick [i] L = some ([.rows (r :: A)], F)) (hw : St w0 D L w) : St w0 D (r.res :: .rows A :: F) w := by
  have h := (hw.perm (pick_perm [i] hp).symm).openRows
  have h2 : St w0 D (A.map RD.res ++ (r.res :: F)) w := h.perm (by simp only [List.map_cons]; exact List.perm_middle)
  exact (h2.closeRows).perm (List.Perm.swap _ _ _)
theorem St.consR (is : List Nat) (hp : pick is L = some ([r.res, .rows A], F)) (hw : St w0 D L w) : St w0 D (.rows (r :: A) :: F) w := by
  have h : St w0 D (.rows A :: r.res :: F) w := (hw.perm (pick_perm is hp).symm).perm (List.Perm.swap _ _ _)
  have h2 := h.openRows
  exact St.closeRows (h2.perm (by simp only [List.map_cons]; exact (List.perm_middle).symm))
theorem St.nilR {α : Type} {f : α → List RD} (is : List Nat) {B F : List Res} (hp : pick is L = some (B, F)) (hw : St w0 D L w) : St w0 D (.rows (([] : List α).flatMap f) :: (B ++ F)) w := St.rowsNil (hw.perm (pick_perm is hp).symm)
theorem St.rowsNil' {α : Type} {f : α → List RD} {s : Res} (hw : St w0 D [s] w) : St w0 D [s, .rows (([] : List α).flatMap f)] w := (St.rowsNil hw).perm (List.Perm.swap _ _ _)
theorem St.rowsEq (i : Nat) {B : List RD} (hp : pick [i] L = some ([.rows A], F)) (e : A = B) (hw : St w0 D L w) : St w0 D (.rows B :: F) w := by
  subst e
  exact hw.perm (pick_perm [i] hp).symm
end
end Go.Proofs.YtkmpmjficoohkaaGreat
