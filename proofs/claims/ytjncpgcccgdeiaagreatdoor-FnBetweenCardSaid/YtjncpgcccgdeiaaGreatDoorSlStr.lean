/-
  Texts of the walk, joined: what each one proves stands at its theorems.
-/
import Derived.Test.YtjncpgcccgdeiaaGreatDoorDatT
import Derived.Lib.SmallJoins
import Derived.Shelf.LaysM
import Derived.Shelf.LaysC
import Derived.Shelf.Strconv.Itoa3
import Derived.Shelf.Strconv.AtoiAll
import Derived.Shelf.Strconv.ErrVarAll
import Derived.Shelf.Hex.More
import Derived.Shelf.Hex.DecodeOwns
import Derived.Test.YtjncpgcccgdeiaaGreatDoorProg
import Derived.Lib.Strings
import Derived.Lib.MinMax
import Derived.Lib.HexFns2
import Derived.Lib.ConvBytes
import Derived.Lib.AppendStr
set_option linter.unusedSimpArgs false
set_option linter.unusedVariables false
set_option linter.unnecessarySimpa false
namespace Go.Proofs.YtjncpgcccgdeiaaGreatDoor
open Go Go.RowKit
/-- A told row can be read; each of some. -/
def RD.sees (w : World) (r : RD) : Prop := Sees w r.v r.k r.n r.cs
def SeesA (w : World) (rs : List RD) : Prop := ∀ r ∈ rs, r.sees w
section
variable {w0 w : World} {D : List Nat} {L F : List Res} {rs A B C : List RD} {r : RD}
theorem SeesA.nil : SeesA w [] := fun _ h => by cases h
theorem SeesA.cons (h : r.sees w) (h' : SeesA w rs) : SeesA w (r :: rs) := fun q hq => by
  rcases List.mem_cons.1 hq with rfl | hq
  · exact h
  · exact h' q hq
theorem SeesA.head (h : SeesA w (r :: rs)) : r.sees w := h r (List.mem_cons_self ..)
theorem SeesA.tail (h : SeesA w (r :: rs)) : SeesA w rs := fun q hq => h q (List.mem_cons_of_mem _ hq)
theorem SeesA.left (h : SeesA w (A ++ B)) : SeesA w A := fun q hq => h q (List.mem_append_left _ hq)
theorem SeesA.elem {α : Type} {f : α → List RD} {l : List α} (h : SeesA w (l.flatMap f)) {j : Nat} (d : α) (hj : j < l.length) : SeesA w (f (l.getD j d)) := fun q hq => h q (List.mem_flatMap.2 ⟨_, getD_mem hj, hq⟩)
theorem ownsR_sees {t k n : Nat} {v : Value} {cs : List Value} (h : World.ownsR w 0 t k v n cs) : Sees w v k n cs := by
  refine ⟨h.1, ?_⟩
  rcases h.2 with ⟨hv, rfl⟩ | ⟨g, cap, cur, hv, _, hg, h1, h2, h3, h4⟩
  · exact .inl ⟨hv, rfl⟩
  · subst hv
    refine .inr ⟨g, 0, cap, rfl, h1, h2, hg.lt, fun j u hj => ?_⟩
    obtain ⟨g', hg', hcell⟩ := row_cell h hj
    simp only [Option.some.injEq, Addr.mk.injEq, and_true] at hg'
    rw [Nat.zero_add, hg']
    exact hcell
theorem St.seeRows (hw : St w0 D L w) (i : Nat) (hL : L[i]? = some (.rows rs)) : SeesA w rs := fun r hr => ownsR_sees (hw.get hL r hr)
theorem St.seeOutA (hw : St w0 D L w) (hs : SeesA w0 rs) (hD : ∀ r ∈ rs, ∀ b, r.v.ownBlock = some b → b ∉ D) : SeesA w rs := fun r hr => hw.seeOut_ (hs r hr) (hD r hr)
theorem nMA : ∀ r ∈ rs, ∀ b, r.v.ownBlock = some b → b ∉ ([] : List Nat) := fun _ _ _ _ => List.not_mem_nil
/-- It can be read, or it is empty, wherever it points. -/
def SeesE (w : World) (v : Value) (k m : Nat) (cs : List Value) : Prop := Sees w v k m cs ∨ ((∃ a, v = .slice a 0 0) ∧ m = 0 ∧ cs = [])
def SeesAE (w : World) (rs : List RD) : Prop := ∀ r ∈ rs, SeesE w r.v r.k r.n r.cs
theorem SeesAE.nil : SeesAE w [] := fun _ h => by cases h
theorem SeesAE.cons (h : SeesE w r.v r.k r.n r.cs) (h' : SeesAE w rs) : SeesAE w (r :: rs) := fun q hq => by
  rcases List.mem_cons.1 hq with rfl | hq
  · exact h
  · exact h' q hq
theorem SeesAE.head (h : SeesAE w (r :: rs)) : SeesE w r.v r.k r.n r.cs := h r (List.mem_cons_self ..)
theorem SeesAE.tail (h : SeesAE w (r :: rs)) : SeesAE w rs := fun q hq => h q (List.mem_cons_of_mem _ hq)
theorem SeesAE.left (h : SeesAE w (A ++ B)) : SeesAE w A := fun q hq => h q (List.mem_append_left _ hq)
theorem SeesAE.elem {α : Type} {f : α → List RD} {l : List α} (h : SeesAE w (l.flatMap f)) {j : Nat} (d : α) (hj : j < l.length) : SeesAE w (f (l.getD j d)) := fun q hq => h q (List.mem_flatMap.2 ⟨_, getD_mem hj, hq⟩)
/- the owned rows, parted and joined -/
theorem St.openR (i : Nat) (hp : pick [i] L = some ([.rows A], F)) (hw : St w0 D L w) : St w0 D (A.map RD.res ++ F) w := St.openRows (hw.perm (pick_perm [i] hp).symm)
theorem St.closeR (is : List Nat) (hp : pick is L = some (A.map RD.res, F)) (hw : St w0 D L w) : St w0 D (.rows A :: F) w := St.closeRows (hw.perm (pick_perm is hp).symm)
theorem St.splitR (i : Nat) (hp : pick [i] L = some ([.rows rs], F)) (e : rs = A ++ (B ++ C)) (hw : St w0 D L w) : St w0 D (.rows A :: .rows B :: .rows C :: F) w := by
  subst e
  have h1 := (hw.perm (pick_perm [i] hp).symm).rowsApp
  have h2 : St w0 D (.rows (B ++ C) :: .rows A :: F) w := h1.perm (List.Perm.swap _ _ _)
  have h3 := h2.rowsApp
  exact h3.perm ((List.Perm.swap _ _ _).trans (List.Perm.cons _ (List.Perm.swap _ _ _)))
theorem St.addR (is : List Nat) (hp : pick is L = some ([.rows A, .rows B], F)) (e : rs = A ++ B) (hw : St w0 D L w) : St w0 D (.rows rs :: F) w := by
  subst e
  exact (hw.perm (pick_perm is hp).symm).appRows
theorem St.joinR (is : List Nat) (hp : pick is L = some ([.rows A, .rows B, .rows C], F)) (e : rs = A ++ (B ++ C)) (hw : St w0 D L w) : St w0 D (.rows rs :: F) w := by
  subst e
  have h1 := hw.perm (pick_perm is hp).symm
  have h2 : St w0 D (.rows B :: .rows C :: .rows A :: F) w := h1.perm ((List.Perm.cons _ (List.Perm.swap _ _ _)).trans (List.Perm.swap _ _ _))
  have h3 := h2.appRows
  exact (h3.perm (List.Perm.swap _ _ _)).appRows
end
section
variable {P : Program} {ops : Array Oper} {Q : Exit → Act → World → Prop} {n : Nat} {w0 : World} {D : List Nat} {L L' : List Res} {e : Env}
theorem kT {c : Code} (g : ∀ w, St w0 D L w → St w0 D L' w) (h : JC P Q n w0 D L' c e) : JC P Q n w0 D L c e := fun w hw => h w (g w hw)
theorem ju {x : Exit} (g : ∀ w, St w0 D L w → St w0 D L' w) (h : JQ Q x n w0 D L' e) : JQ Q x n w0 D L e := fun w hw => h w (g w hw)
theorem St.eqL {w : World} (hL : L = L') (hw : St w0 D L w) : St w0 D L' w := hL ▸ hw
section
variable {d : Option Tmp} {ty : TypeId} {pos : String} {aft : Array Edge} {gd : Option (Nat × Bool)}
end
end
/- a row one of whose elements is told cell by cell -/
section
variable {α : Type} {enc : α → List Value} {k : Nat} {Q R : List α} {j : Nat} {cs : List Value}
def mid (enc : α → List Value) (Q : List α) (cs : List Value) (R : List α) : List Value := Q.flatMap enc ++ (cs ++ R.flatMap enc)
theorem mid_at (hk : ∀ x, (enc x).length = k) (hc : cs.length = k) (hQ : Q.length = j) (f : Nat) (hf : f < k) : (mid enc Q cs R)[j * k + f]? = cs[f]? := by
  have hl := flat_length hk Q
  unfold mid
  rw [List.getElem?_append_right (by rw [hl, hQ]; omega), hl, hQ, Nat.add_sub_cancel_left, List.getElem?_append_left (by omega)]
theorem mid_set (hk : ∀ x, (enc x).length = k) (hc : cs.length = k) (hQ : Q.length = j) (f : Nat) (vs : List Value) (hf : f + vs.length ≤ k) :
    (mid enc Q cs R).take (j * k + f) ++ vs ++ (mid enc Q cs R).drop (j * k + f + vs.length) = mid enc Q (cs.take f ++ vs ++ cs.drop (f + vs.length)) R := by
  have hl := flat_length hk Q
  unfold mid
  rw [List.take_append, List.take_of_length_le (by rw [hl, hQ]; omega), hl, hQ, Nat.add_sub_cancel_left, List.take_append_of_le_length (by omega), Nat.add_assoc, List.drop_append, List.drop_of_length_le (by rw [hl, hQ]; omega), List.nil_append, hl, hQ, Nat.add_sub_cancel_left, List.drop_append_of_le_length (by omega)]
  simp only [List.append_assoc]
theorem mid_len (hk : ∀ x, (enc x).length = k) (hc : cs.length = k) : (mid enc Q cs R).length = (Q.length + 1 + R.length) * k := by
  unfold mid
  rw [List.length_append, List.length_append, flat_length hk, flat_length hk, hc, Nat.add_mul, Nat.add_mul, Nat.one_mul, Nat.add_assoc]
theorem mid_fit (hk : ∀ x, (enc x).length = k) (hc : cs.length = k) (hQ : Q.length = j) {f m : Nat} (hf : f + m ≤ k) : j * k + f + m ≤ (mid enc Q cs R).length := by
  rw [mid_len hk hc, hQ, Nat.add_assoc j, Nat.add_mul, Nat.add_mul, Nat.one_mul]
  omega
theorem mid_open {l : List α} (d : α) (hj : j < l.length) : (Q ++ l.drop j).flatMap enc = mid enc Q (enc (l.getD j d)) (l.drop (j + 1)) := by
  unfold mid
  rw [List.flatMap_append, drop_at (getD_some (d := d) hj), List.flatMap_cons]
theorem mid_close {q : α} : mid enc Q (enc q) R = ((Q ++ [q]) ++ R).flatMap enc := by
  unfold mid
  rw [List.flatMap_append, List.flatMap_append, List.flatMap_cons, List.flatMap_nil, List.append_nil, List.append_assoc]
theorem flatMap_snoc {β : Type} {f : α → List β} {l : List α} {y : α} : (l ++ [y]).flatMap f = l.flatMap f ++ f y := by
  rw [List.flatMap_append, List.flatMap_cons, List.flatMap_nil, List.append_nil]
theorem flatMap_mid {β : Type} {f : α → List β} {l : List α} (d : α) (hj : j < l.length) : (Q ++ l.drop j).flatMap f = Q.flatMap f ++ (f (l.getD j d) ++ (l.drop (j + 1)).flatMap f) := by
  rw [List.flatMap_append, drop_at (getD_some (d := d) hj), List.flatMap_cons]
theorem flatMap_at {β : Type} {f : α → List β} {l : List α} (d : α) (hj : j < l.length) : l.flatMap f = (l.take j).flatMap f ++ (f (l.getD j d) ++ (l.drop (j + 1)).flatMap f) := by
  have := flatMap_mid (Q := l.take j) (f := f) d hj
  rwa [List.take_append_drop] at this
theorem flatMap_setAt {β : Type} {f : α → List β} {l : List α} {y : α} (hj : j < l.length) : (l.set j y).flatMap f = (l.take j).flatMap f ++ (f y ++ (l.drop (j + 1)).flatMap f) := by
  rw [List.set_eq_take_append_cons_drop, if_pos hj, List.flatMap_append, List.flatMap_cons]
/- marks of elements that take as many as they are great -/
variable {mk : α → Nat → α} {ct : α → Nat}
theorem take_snoc {l : List α} (d : α) (hj : j < l.length) : l.take (j + 1) = l.take j ++ [l.getD j d] := take_at (getD_some (d := d) hj)
theorem map_take_succ {β : Type} {f : α → β} {l y : List α} {x : α} (d : α) (h : y.map f = (l.take j).map f) (hj : j < l.length) (hx : f x = f (l.getD j d)) : (y ++ [x]).map f = (l.take (j + 1)).map f := by
  simp only [take_snoc d hj, List.map_append, h, List.map_cons, hx, List.map_nil]
theorem map_all {β : Type} {f : α → β} {l y : List α} (h : y.map f = (l.take j).map f) (hj : l.length ≤ j) : y.map f = l.map f := by
  rw [h, List.take_of_length_le hj]
end
/- ghosts on rows told cell by cell -/
section
variable {α : Type} {enc : α → List Value} {k : Nat} {Q R l : List α} {j : Nat} {cs : List Value} {w0 w : World} {D : List Nat} {L F : List Res} {A : List RD} {r : RD} {v : Value} {t n : Nat}
theorem St.midR (i : Nat) (hp : pick [i] L = some ([.row v t k n ((Q ++ l.drop j).flatMap enc)], F)) (d : α) (hj : j < l.length) (hw : St w0 D L w) : St w0 D (.row v t k n (mid enc Q (enc (l.getD j d)) (l.drop (j + 1))) :: F) w := by
  have h := hw.perm (pick_perm [i] hp).symm
  rw [mid_open d hj] at h
  exact h
theorem St.unmid (i : Nat) (hp : pick [i] L = some ([.row v t k n (mid enc Q cs R)], F)) {q : α} (hq : enc q = cs) (hw : St w0 D L w) : St w0 D (.row v t k n (((Q ++ [q]) ++ R).flatMap enc) :: F) w := by
  have h := hw.perm (pick_perm [i] hp).symm
  rw [← hq, mid_close] at h
  exact h
theorem St.headR (i : Nat) (hp : pick [i] L = some ([.rows (r :: A)], F)) (hw : St w0 D L w) : St w0 D (r.res :: .rows A :: F) w := by
  have h := (hw.perm (pick_perm [i] hp).symm).openRows
  have h2 : St w0 D (A.map RD.res ++ (r.res :: F)) w := h.perm (by simp only [List.map_cons]; exact List.perm_middle)
  exact (h2.closeRows).perm (List.Perm.swap _ _ _)
theorem St.consR (is : List Nat) (hp : pick is L = some ([r.res, .rows A], F)) (hw : St w0 D L w) : St w0 D (.rows (r :: A) :: F) w := by
  have h : St w0 D (.rows A :: r.res :: F) w := (hw.perm (pick_perm is hp).symm).perm (List.Perm.swap _ _ _)
  have h2 := h.openRows
  exact St.closeRows (h2.perm (by simp only [List.map_cons]; exact (List.perm_middle).symm))
theorem St.nilR {α : Type} {f : α → List RD} (is : List Nat) {B F : List Res} (hp : pick is L = some (B, F)) (hw : St w0 D L w) : St w0 D (.rows (([] : List α).flatMap f) :: (B ++ F)) w := St.rowsNil (hw.perm (pick_perm is hp).symm)
theorem St.rowsEq (i : Nat) {B : List RD} (hp : pick [i] L = some ([.rows A], F)) (e : A = B) (hw : St w0 D L w) : St w0 D (.rows B :: F) w := by
  subst e
  exact hw.perm (pick_perm [i] hp).symm
end
end Go.Proofs.YtjncpgcccgdeiaaGreatDoor

set_option linter.unusedSimpArgs false
set_option linter.unusedVariables false
set_option linter.unnecessarySimpa false
namespace Go.Proofs.YtjncpgcccgdeiaaGreatDoor
open Go Go.RowKit
theorem map_getD {α β : Type} {f : α → β} (d : α) {s : List α} {j : Nat} (h : j < s.length) : (s.map f)[j]? = some (f (s.getD j d)) := by
  rw [List.getElem?_map, getD_some (d := d) h]; rfl
theorem getM_eq {α β : Type} {f : α → β} {s t : List α} {j : Nat} (d : α) (h : s.map f = t.map f) (hj : j < s.length) (hl : s.length = t.length) : f (s.getD j d) = f (t.getD j d) := by
  have h1 := map_getD (f := f) d hj
  have h2 := map_getD (f := f) (s := t) d (j := j) (by omega)
  rw [h, h2] at h1
  exact (Option.some.inj h1).symm
structure SD where
  seq : Int
  cells : List Cell
  whole : Bool
structure OA where
  a0 : Option Addr
  c0 : Nat
structure OX where
  x : OA
  t : SD
def encO (p : OX) : List Value := [.int .i64 p.t.seq, .slice p.x.a0 p.t.cells.length p.x.c0, .bool p.t.whole]
def rdsO (p : OX) : List RD := [⟨.slice p.x.a0 p.t.cells.length p.x.c0, 48, 2, p.t.cells.length, p.t.cells.flatMap encC⟩]
theorem encO_len (p : OX) : (encO p).length = 3 := rfl
def o0 : OX := ⟨⟨none, 0⟩, ⟨0, [], false⟩⟩
theorem oneO (l : List OX) : ∀ u ∈ l.flatMap encO, u.oneCell' = true := flat_one (fun c u hu => by
  simp only [encO, List.mem_cons, List.not_mem_nil, or_false] at hu
  rcases hu with rfl | rfl | rfl <;> rfl) l
theorem seesO {w : World} {p : OX} (h : SeesA w (rdsO p)) : Sees w (.slice p.x.a0 p.t.cells.length p.x.c0) 2 p.t.cells.length (p.t.cells.flatMap encC) := h.head
theorem SD.same {a b : SD} : a = b ↔ a.seq = b.seq ∧ a.cells = b.cells ∧ a.whole = b.whole := by cases a; cases b; simp
instance decSD : DecidableEq SD := fun a b => decidable_of_iff _ SD.same.symm
structure SD.lim (t : SD) (n : Nat) : Prop where
  l0 : t.cells.length ≤ n
theorem SD.lim.mono {t : SD} {n m : Nat} (h : t.lim n) (hm : n ≤ m) : t.lim m := ⟨Nat.le_trans h.l0 hm⟩
structure SD.okz (t : SD) : Prop where
  k0 : okC t.cells
structure DD where
  slots : List SD
  jt : Str
  js : Int
def DD.new (s : List Cell) : DD := ⟨[⟨0, s, true⟩, ⟨0, [], false⟩], [], 0⟩
/-- A disk and where it lies. -/
structure DX where
  a : Option Addr
  c : Nat
  l : List OX
  jt : Str
  js : Int
def DX.dat (d : DX) : DD := ⟨d.l.map OX.t, d.jt, d.js⟩
def rdsOS (a : Option Addr) (c : Nat) (l : List OX) : List RD := ⟨.slice a l.length c, 60, 3, l.length, l.flatMap encO⟩ :: l.flatMap rdsO
def rdsD (d : DX) : List RD := ⟨.slice d.a d.l.length d.c, 60, 3, d.l.length, d.l.flatMap encO⟩ :: d.l.flatMap rdsO
theorem DD.same {a b : DD} : a = b ↔ a.slots = b.slots ∧ a.jt = b.jt ∧ a.js = b.js := by cases a; cases b; simp
instance decDD : DecidableEq DD := fun a b => decidable_of_iff _ DD.same.symm
structure DD.lim (d : DD) (n : Nat) : Prop where
  l0 : d.slots.length ≤ n
  l1 : ∀ s ∈ d.slots, s.lim n
structure DD.okz (d : DD) : Prop where
  k0 : d.slots.length ≤ 9223372036854775807
  k1 : ∀ s ∈ d.slots, s.okz
  k2 : d.jt.length ≤ 9223372036854775807
end Go.Proofs.YtjncpgcccgdeiaaGreatDoor

set_option linter.unusedSimpArgs false
set_option linter.unusedVariables false
set_option linter.unnecessarySimpa false
namespace Go.Proofs.YtjncpgcccgdeiaaGreatDoor
open Go Go.RowKit
attribute [local irreducible] JL JC JQ JO LO PO JA JX Ct

theorem run_ov {tS tR : TypeId} {f : FuncId} {fn : Func} {P : Program} (hf : P.funcs[f]? = some fn) (hname : (fn.name == "runtime.NumGoroutine") = false) (hb : fn.body.isNone = true) (hn : Extern.findNext fn = none)
    (he : Extern.find fn = some (Extern.SlicesOverlaps.overlaps #[tS, tS] #[tR])) : ∀ args w, (callFunc f args).run P w = ((Extern.SlicesOverlaps.overlaps #[tS, tS] #[tR] args).run P w).andThen fun v w' => .ok (.value v) w' :=
  fun args w => run_callFunc_extern hf hname hb hn he args w

theorem C_cloneC (a : Option Addr) (c : Nat) (s : List Cell) (hn : s.length ≤ 1000000000000) :
    Ct Tryz.prog 74 [.slice a s.length c] [] (fun w_ => Sees w_ (.slice a s.length c) 2 s.length (s.flatMap encC)) (fun v A' => ∃ a' c', v = .slice a' s.length c' ∧ A' = [.row (.slice a' s.length c') 48 2 s.length (s.flatMap encC)]) := by
  refine Ct.intro Tryz.func74 rfl Tryz.ntmps74 (lb rfl) fun w0 hpre => ?_
  have hs_a : Sees w0 _ _ _ _ := hpre
  refine jC <| jF <| jY rfl (jG (v := .slice none 0 0) rfl) <| jE <| jB <| jC <| jC <| jF <| jY rfl (jD (v := .slice a s.length c) rfl) <| jY rfl (PO.eqNil kf rfl rfl) ?_
  refine jE <| jB ?_
  rcases Bool.eq_false_or_eq_true (a.isNone) with h_1 | h_1
  · refine jW (cB h_1) <| jC <| jF <| jY rfl (jG (v := .slice none 0 0) rfl) <| jE <| jB <| jN <| jX <| JQ.nilrow 48 2 <| jV (.inl rfl) rfl (jJ (v := .slice none 0 0) rfl) (List.Sublist.refl _) ?_
    have ha : a = none := by simpa using h_1
    have hz : s.length = 0 := sees_none (ha ▸ hpre)
    have hs0 : s = [] := List.length_eq_zero_iff.1 hz
    subst hs0
    exact ⟨none, 0, rfl, rfl⟩
  refine jR (cB h_1) <| jT <| jB <| jC <| jF ?_
  refine jH rfl (kH (ps := []) (cur := #[]) kf kh kw rfl (by kernel_rfl) (by decide) (by decide)) ?_
  rintro _ _ ⟨a_2, rfl, rfl⟩
  refine jY rfl (jD (v := .slice a s.length c) rfl) ?_
  refine jH rfl (kU 0 (q := s.length) (news := s.flatMap encC) (n' := s.length) (cs' := s.flatMap encC) rfl kf kf ky rfl (by' := 32) rfl rfl rfl rfl rfl (fun w hw => Src.sees (hw.seeOut_ hs_a nM) (oneC _)) (by (try simp only [LE]); omega) (by (try simp only [LE]); omega) (by (try simp only [List.length_take, List.length_drop]); first | rfl | omega) rfl) ?_
  rintro _ _ ⟨a_3, c_4, rfl, rfl⟩
  refine jY rfl (jG (v := .slice a_3 s.length c_4) rfl) <| jE <| jB <| jN <| jV (.inl rfl) rfl (jJ (v := .slice a_3 s.length c_4) rfl) (List.Sublist.refl _) ?_
  exact ⟨_, _, rfl, rfl⟩

theorem C_idxC (fp : FuncId) (hcf : ∀ args w, (callFunc fp args).run Tryz.prog w = .ok (.enter fp args) w) (kb : Nat) (key : Str) (p : Cell → Bool) (hp : ∀ x : Cell, Ct Tryz.prog fp [.agg #[str x.1, str x.2], .pointer (some ⟨kb, 0, none⟩)] [bk kb 9 [str key]] (fun _ => True) (fun v A' => v = .bool (p x) ∧ A' = [bk kb 9 [str key]])) (a : Option Addr) (c : Nat) (s : List Cell) (hn : s.length ≤ 1000000000000) :
    Ct Tryz.prog 126 [.slice a s.length c, .func (.func fp) #[] #[.pointer (some ⟨kb, 0, none⟩)]] [bk kb 9 [str key]] (fun w_ => Sees w_ (.slice a s.length c) 2 s.length (s.flatMap encC) ∧ (∀ b, (Value.slice a s.length c).ownBlock = some b → b ≠ kb)) (fun v A' => v = .int .i64 (idxI p s) ∧ A' = [bk kb 9 [str key]]) := by
  refine Ct.intro Tryz.func126 rfl Tryz.ntmps126 (lb rfl) fun w0 hpre => ?_
  have hs_a : Sees w0 _ _ _ _ := hpre.1
  refine jC <| jF <| jY rfl (jG (v := iv 0) rfl) <| jE <| jB <| jC <| jC <| jF <| jY rfl (jD (v := .slice a s.length c) rfl) <| jY rfl (jr kf rfl) ?_
  refine jY rfl (jD (v := iv 0) rfl) <| jE <| jB <| jf <| kD (fun k_ e_ L_ => ∃ j : Nat, (j ≤ s.length) ∧ (∀ i, i < j → p (s.getD i c0) = false) ∧ e_ 0 = .slice a s.length c ∧ e_ 1 = .func (.func fp) #[] #[.pointer (some ⟨kb, 0, none⟩)] ∧ e_ 7 = nv s.length ∧ e_ 8 = nv j ∧ L_ = [bk kb 9 [str key]] ∧ k_ = s.length - j) _ ⟨0, by omega, (fun i hi => absurd hi (Nat.not_lt_zero i)), rfl, rfl, rfl, rfl, rfl, rfl⟩ ?_
  rintro _ e_1 _ ⟨j, hj, hN, he_2, he_3, he_4, he_5, rfl, rfl⟩
  refine jC <| jF <| jY rfl (jl he_5 he_4) <| jE <| jB <| jC ?_
  by_cases h_6 : ((j : Nat) : Int) < ((s.length : Nat) : Int)
  · have hlt : j < s.length := by omega
    refine jW (cB (dT h_6)) <| jT <| jB <| jC <| jf <| jC <| jF <| jY rfl (jD (v := nv j) he_5) <| jY rfl (jG (v := nv j) rfl) <| jE ?_
    refine jB <| jC <| jF <| jY rfl (jD (v := .func (.func fp) #[] #[.pointer (some ⟨kb, 0, none⟩)]) he_3) <| jY rfl (jD (v := .slice a s.length c) he_2) <| jY rfl (jD (v := nv j) rfl) ?_
    obtain ⟨hr_7, hr_7b, -⟩ := sees_some hs_a (by omega)
    refine jY rfl (jk (i := j) kf kh hr_7 hr_7b rfl rfl (by omega)) <| JL.ld rfl (kX (vs := [str ((s.getD j c0).1), str ((s.getD j c0).2)]) hs_a (notin_bk hpre.2) rfl gG kh (atC (by omega)) rfl (by decide)) ?_
    refine jH rfl (JO.callV [0] hcf rfl (hp (s.getD j c0)) rfl rfl (fun _ _ => trivial)) ?_
    rintro _ _ ⟨_, ⟨rfl, rfl⟩, rfl⟩
    refine jE <| jB ?_
    rcases Bool.eq_false_or_eq_true (p (s.getD j c0)) with h_8 | h_8
    · have hpj := h_8
      refine jW (cB h_8) <| jC <| jF <| jY rfl (jD (v := nv j) rfl) <| jY rfl (jG (v := nv j) rfl) <| jE <| jB <| jN <| jv <| jX ?_
      refine jX <| jv <| jX <| jV (.inl rfl) rfl (jJ (v := nv j) rfl) (List.Sublist.refl _) ?_
      refine ⟨?_, rfl⟩
      rw [idxI_found c0 hlt hN hpj]
    have hpj := h_8
    refine jR (cB h_8) <| jT <| jm <| jB <| jF <| jY rfl (jc (c := ((j + 1 : Nat) : Int)) he_5 rfl (wr (by omega))) <| jY rfl (jD (v := iv ((j + 1 : Nat) : Int)) rfl) <| jE ?_
    refine jq (s.length - (j + 1)) (by omega) ⟨j + 1, by omega, (fun i hi => if h : i = j then h ▸ hpj else hN i (by omega)), he_2, he_3, he_4, rfl, rfl, rfl⟩
  refine jR (cB (dF h_6)) <| jx <| jb <| jb <| jy <| jB <| jC <| jF <| jY rfl (jG (v := iv (-1)) rfl) <| jE ?_
  refine jB <| jN <| jV (.inl rfl) rfl (jJ (v := iv (-1)) rfl) (List.Sublist.refl _) ?_
  refine ⟨?_, rfl⟩
  rw [idxI_none c0 (by omega) hN]

theorem C_insC (a va : Option Addr) (c : Nat) (s : List Cell) (i : Nat) (x : Cell) (hi : i ≤ s.length) (hn : s.length ≤ 1000000000000) (hcl : (s.flatMap encC).length = s.length * 2) :
    Ct Tryz.prog 128 [.slice a s.length c, .int .i64 ((i : Nat) : Int), .slice va 1 1] [Res.row (.slice a s.length c) 48 2 s.length (s.flatMap encC), Res.row (.slice va 1 1) 48 2 1 ([x].flatMap encC)] (fun _ => True) (fun v A' => ∃ a' c', v = .slice a' (insertAt i x s).length c' ∧ A' = [.row (.slice a' (insertAt i x s).length c') 48 2 (insertAt i x s).length ((insertAt i x s).flatMap encC)]) := by
  refine Ct.intro Tryz.func128 rfl Tryz.ntmps128 (lb rfl) fun w0 hpre => ?_
  refine jC <| jF <| jY rfl (jG (v := .slice none 0 0) rfl) <| jE <| jB <| jC <| jF <| jY rfl (jD (v := .slice a s.length c) rfl) <| jY rfl (jD (v := nv i) rfl) ?_
  refine kN fun hst => ?_
  obtain ⟨hf_1m, hf_1x, hf_1s, hf_1l⟩ := fits_of hst (i := 0) rfl
  refine jY rfl (PO.sliceVl (i := i) kf kh hf_1s rfl rfl (by omega)) <| jE <| jB <| jC <| jF <| jY rfl (jD (v := .slice va 1 1) rfl) <| jY rfl (jr kf rfl) <| jY rfl (jG (v := nv 1) rfl) <| jE <| jB ?_
  refine jC <| jC <| jF <| jY rfl (jD (v := nv 1) rfl) <| jY rfl (kO rfl rfl) <| jE <| jB ?_
  by_cases h_2 : ((1 : Nat) : Int) = 0
  · exfalso; omega
  refine jR (cB (dF h_2)) <| jT <| jB <| jC <| jF <| jY rfl (jD (v := .slice a s.length c) rfl) <| jY rfl (jr kf rfl) <| jY rfl (jG (v := nv s.length) rfl) <| jE <| jB ?_
  refine jC <| jC <| jF <| jY rfl (jD (v := nv i) rfl) <| jY rfl (jD (v := nv s.length) rfl) <| jY rfl (kO rfl rfl) <| jE <| jB ?_
  by_cases h_3 : ((i : Nat) : Int) = ((s.length : Nat) : Int)
  · refine jW (cB (dT h_3)) <| jC <| jF <| jY rfl (jD (v := .slice a s.length c) rfl) <| jY rfl (jD (v := .slice va 1 1) rfl) ?_
    refine jH rfl (kU 0 (q := 1) (news := [x].flatMap encC) (n' := (s ++ [x]).length) (cs' := (s ++ [x]).flatMap encC) rfl kf kf ky rfl (by' := 32) rfl rfl rfl rfl rfl (fun w hw => Src.sees (hw.see (i := 1) rfl) (oneC _)) (by (try simp only [LE]); omega) (by (try simp only [LE]); omega) (by simp only [List.length_append, List.length_take, List.length_drop, List.length_cons, List.length_nil] <;> first | rfl | omega) (by simp only [List.flatMap_append])) ?_
    rintro _ _ ⟨a_4, c_5, rfl, rfl⟩
    refine jY rfl (jG (v := .slice a_4 ((s ++ [x]).length) c_5) rfl) <| jE <| jB <| jN <| jX <| jV (.inl rfl) rfl (jJ (v := .slice a_4 ((s ++ [x]).length) c_5) rfl) (sL [Res.row (.slice a_4 ((s ++ [x]).length) c_5) 48 2 ((s ++ [x]).length) ((s ++ [x]).flatMap encC)] [Res.row (.slice va 1 1) 48 2 1 ([x].flatMap encC)]) ?_
    have hin : i = s.length := by omega
    exact ⟨_, _, by rw [ins_end hin], by rw [ins_end hin]⟩
  refine jR (cB (dF h_3)) <| jT <| jB <| jC <| jC <| jF <| jY rfl (jD (v := nv s.length) rfl) <| jY rfl (jD (v := nv 1) rfl) <| jY rfl (jc (c := ((s.length + 1 : Nat) : Int)) rfl rfl (wr (by omega))) <| jY rfl (jD (v := .slice a s.length c) rfl) ?_
  refine jY rfl (PO.capV kf rfl) <| jY rfl (kR rfl rfl) <| jE <| jB ?_
  by_cases h_6 : ((c : Nat) : Int) < ((s.length + 1 : Nat) : Int)
  · refine jW (cB (dT h_6)) <| jC <| jF <| jY rfl (jD (v := .slice a s.length c) rfl) <| jY rfl (jD (v := nv i) rfl) <| jY rfl (PO.sliceVh (j := i) kf kh hf_1s rfl rfl (by omega)) <| jY rfl (jD (v := nv s.length) rfl) <| jY rfl (jD (v := nv 1) rfl) <| jY rfl (jc (c := ((s.length + 1 : Nat) : Int)) rfl rfl (wr (by omega))) <| jY rfl (jD (v := nv i) rfl) ?_
    refine jY rfl (kZ (c := ((s.length + 1 - i : Nat) : Int)) rfl rfl (wr (by omega))) ?_
    refine jH rfl (JO.appendMake' 0 (i := i) (r := s.length + 1 - i) (by' := 32) (n' := s.length + 1) rfl kf gC ky rfl (by decide) rfl rfl rfl rfl rfl (by omega) (by omega) (by omega) (by omega) (by decide) (by omega)) ?_
    rintro _ _ ⟨a_7, c_8, zs_9, rfl, hzs_9c, hzs_9, rfl⟩
    refine jY rfl (jG (v := .slice a_7 (s.length + 1) c_8) rfl) <| jE <| jB <| jC <| jF <| jY rfl (jD (v := .slice a_7 (s.length + 1) c_8) rfl) <| jY rfl (jD (v := nv i) rfl) ?_
    refine kN fun hst => ?_
    obtain ⟨hf_10m, hf_10x, hf_10s, hf_10l⟩ := fits_of hst (i := 0) rfl
    refine jY rfl (PO.sliceVl (i := i) kf kh hf_10s rfl rfl (by omega)) <| jY rfl (jD (v := .slice va 1 1) rfl) ?_
    refine jH rfl (JO.copy 0 (k := 2) (lo := i) (q := 1) (news := [str x.1, str x.2]) (cs' := ((s.flatMap encC).take (i * 2) ++ zs_9).take (i * 2) ++ [str x.1, str x.2] ++ ((s.flatMap encC).take (i * 2) ++ zs_9).drop (i * 2 + [str x.1, str x.2].length)) rfl kf kh rfl rfl (by show min _ _ = _; omega) (by omega) (by omega) (by decide) (by omega) (fun w hw => Fst.sees (hw.see (i := 2) rfl) (Nat.le_refl _)) rfl (oneC [x]) (rfl)) ?_
    rintro _ _ rfl
    refine jE <| jB <| jC <| kJ [] 0 mixed (by simp) <| kV 0 rfl (by kernel_rfl) (NP.th (NP.th NP.body)) (by kernel_rfl) (by kernel_rfl) rfl (jD (v := .slice a_7 (s.length + 1) c_8) rfl) <| kV 1 rfl (by kernel_rfl) (NP.th (NP.th NP.body)) (by kernel_rfl) (by kernel_rfl) rfl (jD (v := nv i) rfl) <| kV 2 rfl (by kernel_rfl) (NP.th (NP.th NP.body)) (by kernel_rfl) (by kernel_rfl) rfl (jD (v := nv 1) rfl) <| kV 3 rfl (by kernel_rfl) (NP.th (NP.th NP.body)) (by kernel_rfl) (by kernel_rfl) rfl (jc (c := ((i + 1 : Nat) : Int)) rfl rfl (wr (by omega))) <| kV 4 rfl (by kernel_rfl) (NP.th (NP.th NP.body)) (by kernel_rfl) (by kernel_rfl) rfl (PO.sliceVl (i := (i + 1)) kf kh hf_10s rfl rfl (by omega)) <| kV 5 rfl (by kernel_rfl) (NP.th (NP.th NP.body)) (by kernel_rfl) (by kernel_rfl) rfl (jD (v := .slice a s.length c) rfl) ?_
    refine kV 6 rfl (by kernel_rfl) (NP.th (NP.th NP.body)) (by kernel_rfl) (by kernel_rfl) rfl (jD (v := nv i) rfl) <| kV 7 rfl (by kernel_rfl) (NP.th (NP.th NP.body)) (by kernel_rfl) (by kernel_rfl) rfl (PO.sliceVl (i := i) kf kh hf_1s rfl rfl (by omega)) <| JA.one (i := 8) (by kernel_rfl) ?_
    refine JX.last rfl rfl (by decide) (by kernel_rfl) (JO.copy 0 (k := 2) (lo := (i + 1)) (q := s.length - i) (news := (s.flatMap encC).drop (i * 2)) (cs' := (insertAt i x s).flatMap encC) rfl kf kh rfl rfl (by show min _ _ = _; omega) (by omega) (by omega) (by decide) (by omega) (fun w hw => Fst.mid (hw.see (i := 1) rfl) (by omega) (by omega) (tail1 hcl)) (by rw [List.length_drop, hcl]; omega) (fun u hu => oneC s u (List.mem_of_mem_drop hu)) ((by rw [show (i + 1) * 2 = i * 2 + 2 by omega]; exact (ins_grow (k := 2) (by rw [hcl]; omega) (by rw [hcl]; omega) rfl).trans insC))) ?_
    rintro _ _ rfl
    refine jB <| jC <| jF <| jY rfl (jD (v := .slice a_7 (s.length + 1) c_8) rfl) <| jY rfl (jG (v := .slice a_7 (s.length + 1) c_8) rfl) <| jE <| jB <| jN <| jX <| jV (.inl rfl) rfl (jJ (v := .slice a_7 (s.length + 1) c_8) rfl) (sL [Res.row (.slice a_7 (s.length + 1) c_8) 48 2 (s.length + 1) ((insertAt i x s).flatMap encC)] [Res.row (.slice a s.length c) 48 2 s.length (s.flatMap encC), Res.row (.slice va 1 1) 48 2 1 ([x].flatMap encC)]) ?_
    exact ⟨_, _, by rw [insertAt_length i x s hi], by rw [insertAt_length i x s hi]⟩
  refine jR (cB (dF h_6)) <| jT <| jB <| jC <| jF <| jY rfl (jD (v := .slice a s.length c) rfl) <| jY rfl (jD (v := nv s.length) rfl) <| jY rfl (jD (v := nv 1) rfl) <| jY rfl (jc (c := ((s.length + 1 : Nat) : Int)) rfl rfl (wr (by omega))) <| jY rfl (PO.sliceVh (j := (s.length + 1)) kf kh hf_1s rfl rfl (by omega)) ?_
  refine jY rfl (jG (v := .slice a (s.length + 1) c) rfl) <| jE <| jB <| jC <| jC ?_
  refine JC.widen 0 1 (m := s.length) rfl (by omega) fun zs_11 hzs_11 => ?_
  refine jF <| jY rfl (jD (v := .slice va 1 1) rfl) <| jY rfl (jD (v := .slice a (s.length + 1) c) rfl) <| jY rfl (jD (v := nv i) rfl) <| jY rfl (jD (v := nv 1) rfl) <| jY rfl (jc (c := ((i + 1 : Nat) : Int)) rfl rfl (wr (by omega))) <| jY rfl (PO.sliceVl (i := (i + 1)) kf kh hf_1s rfl rfl (by omega)) ?_
  refine jH rfl (JO.overlaps 1 0 (by decide) (k := 2) (lo := i + 1) rfl rfl (run_ov (tS := 49) (tR := 4) Tryz.func153 (by kernel_rfl) (by kernel_rfl) (by kernel_rfl) (by kernel_rfl)) kf kh rfl rfl (by decide) (by omega) (by decide) (by decide)) ?_
  rintro _ _ ⟨rfl, rfl⟩
  refine jY rfl (jp rfl) <| jE <| jB <| jW (cB rfl) <| jC <| kJ [] 0 mixed (by simp) <| kV 0 rfl (by kernel_rfl) (NP.th (NP.th NP.body)) (by kernel_rfl) (by kernel_rfl) rfl (jD (v := .slice a (s.length + 1) c) rfl) <| kV 1 rfl (by kernel_rfl) (NP.th (NP.th NP.body)) (by kernel_rfl) (by kernel_rfl) rfl (jD (v := nv i) rfl) <| kV 2 rfl (by kernel_rfl) (NP.th (NP.th NP.body)) (by kernel_rfl) (by kernel_rfl) rfl (jD (v := nv 1) rfl) <| kV 3 rfl (by kernel_rfl) (NP.th (NP.th NP.body)) (by kernel_rfl) (by kernel_rfl) rfl (jc (c := ((i + 1 : Nat) : Int)) rfl rfl (wr (by omega))) ?_
  refine kV 4 rfl (by kernel_rfl) (NP.th (NP.th NP.body)) (by kernel_rfl) (by kernel_rfl) rfl (PO.sliceVl (i := (i + 1)) kf kh hf_1s rfl rfl (by omega)) <| kV 5 rfl (by kernel_rfl) (NP.th (NP.th NP.body)) (by kernel_rfl) (by kernel_rfl) rfl (jD (v := .slice a (s.length + 1) c) rfl) <| kV 6 rfl (by kernel_rfl) (NP.th (NP.th NP.body)) (by kernel_rfl) (by kernel_rfl) rfl (jD (v := nv i) rfl) <| kV 7 rfl (by kernel_rfl) (NP.th (NP.th NP.body)) (by kernel_rfl) (by kernel_rfl) rfl (PO.sliceVl (i := i) kf kh hf_1s rfl rfl (by omega)) <| JA.one (i := 8) (by kernel_rfl) ?_
  refine JX.last rfl rfl (by decide) (by kernel_rfl) (JO.copy 0 (k := 2) (lo := (i + 1)) (q := s.length - i) (news := (s.flatMap encC).drop (i * 2)) (cs' := ((s.flatMap encC ++ zs_11)).take (i * 2 + 2) ++ (s.flatMap encC).drop (i * 2) ++ ((s.flatMap encC ++ zs_11)).drop (i * 2 + 2 + ((s.flatMap encC).drop (i * 2)).length)) rfl kf kh rfl rfl (by show min _ _ = _; omega) (by omega) (by omega) (by decide) (by omega) (fun w hw => Fst.mid (hw.see (i := 0) rfl) (by omega) (by omega) (tail2 hcl hi)) (by rw [List.length_drop, hcl]; omega) (fun u hu => oneC s u (List.mem_of_mem_drop hu)) ((by rw [show (i + 1) * 2 = i * 2 + 2 by omega]))) ?_
  rintro _ _ rfl
  refine jB <| jC <| jF <| jY rfl (jD (v := .slice a (s.length + 1) c) rfl) <| jY rfl (jD (v := nv i) rfl) <| jY rfl (PO.sliceVl (i := i) kf kh hf_1s rfl rfl (by omega)) <| jY rfl (jD (v := .slice va 1 1) rfl) ?_
  refine jH rfl (JO.copy 0 (k := 2) (lo := i) (q := 1) (news := [str x.1, str x.2]) (cs' := (insertAt i x s).flatMap encC) rfl kf kh rfl rfl (by show min _ _ = _; omega) (by omega) (by omega) (by decide) (by omega) (fun w hw => Fst.sees (hw.see (i := 1) rfl) (Nat.le_refl _)) rfl (oneC [x]) ((ins_room (k := 2) (by rw [hcl]; omega) (by omega) rfl).trans insC)) ?_
  rintro _ _ rfl
  refine jE <| jB <| jC <| jF <| jY rfl (jD (v := .slice a (s.length + 1) c) rfl) <| jY rfl (jG (v := .slice a (s.length + 1) c) rfl) <| jE <| jB <| jN <| jX ?_
  refine jV (.inl rfl) rfl (jJ (v := .slice a (s.length + 1) c) rfl) (sL [Res.row (.slice a (s.length + 1) c) 48 2 (s.length + 1) ((insertAt i x s).flatMap encC)] [Res.row (.slice va 1 1) 48 2 1 ([x].flatMap encC)]) ?_
  exact ⟨_, _, by rw [insertAt_length i x s hi], by rw [insertAt_length i x s hi]⟩

theorem C_delC (fp : FuncId) (hcf : ∀ args w, (callFunc fp args).run Tryz.prog w = .ok (.enter fp args) w) (kb : Nat) (key : Str) (p : Cell → Bool) (hp : ∀ x : Cell, Ct Tryz.prog fp [.agg #[str x.1, str x.2], .pointer (some ⟨kb, 0, none⟩)] [bk kb 9 [str key]] (fun _ => True) (fun v A' => v = .bool (p x) ∧ A' = [bk kb 9 [str key]])) (a : Option Addr) (c : Nat) (s : List Cell) (hn : s.length ≤ 1000000000000) :
    Ct Tryz.prog 124 [.slice a s.length c, .func (.func fp) #[] #[.pointer (some ⟨kb, 0, none⟩)]] [bk kb 9 [str key], Res.row (.slice a s.length c) 48 2 s.length (s.flatMap encC)] (fun _ => True) (fun v A' => ∃ a' c', v = .slice a' (s.filter (fun c => !p c)).length c' ∧ A' = [bk kb 9 [str key], .row (.slice a' (s.filter (fun c => !p c)).length c') 48 2 (s.filter (fun c => !p c)).length ((s.filter (fun c => !p c)).flatMap encC)]) := by
  refine Ct.intro Tryz.func124 rfl Tryz.ntmps124 (lb rfl) fun w0 hpre => ?_
  refine jC <| jF <| jY rfl (jG (v := .slice none 0 0) rfl) <| jE <| jB <| jC <| jF <| jY rfl (jD (v := .slice a s.length c) rfl) <| jY rfl (jD (v := .func (.func fp) #[] #[.pointer (some ⟨kb, 0, none⟩)]) rfl) ?_
  refine jH rfl (jI [0] Tryz.call126 rfl (C_idxC fp hcf kb key p hp a c s (by omega)) rfl (fun w hw => ⟨hw.see (i := 1) rfl, hw.apartO 1 0 rfl rfl rfl⟩)) ?_
  rintro _ _ ⟨_, ⟨rfl, rfl⟩, rfl⟩
  have hix0 := idxI_lo p s
  have hfl0 := findAt_le p s
  refine jY rfl (jG (v := iv (idxI p s)) rfl) <| jE <| jB <| jC <| jC <| jF <| jY rfl (jD (v := iv (idxI p s)) rfl) <| jY rfl (kO rfl rfl) <| jE <| jB ?_
  by_cases h_1 : (idxI p s) = (-1)
  · have hfe : findAt p s = s.length := by omega
    refine jW (cB (dT h_1)) <| jC <| jF <| jY rfl (jD (v := .slice a s.length c) rfl) <| jY rfl (jG (v := .slice a s.length c) rfl) <| jE <| jB <| jN <| jX <| jV (.inl rfl) rfl (jJ (v := .slice a s.length c) rfl) (List.Sublist.refl _) ?_
    exact ⟨_, _, by rw [del_none hfe], by rw [del_none hfe]; rfl⟩
  have hfl : findAt p s < s.length := by omega
  have hie : idxI p s = ((findAt p s : Nat) : Int) := by omega
  refine jR (cB (dF h_1)) <| jT <| jB <| jC <| jC <| jF <| jY rfl (jD (v := iv ((findAt p s : Nat) : Int)) (congrArg (Value.int .i64) hie)) <| jY rfl (jc (c := (((findAt p s) + 1 : Nat) : Int)) rfl rfl (wr (by omega))) <| jY rfl (jG (v := iv (((findAt p s) + 1 : Nat) : Int)) rfl) <| jE ?_
  refine jB <| jf <| kD (fun k_ e_ L_ => ∃ i : Nat, ∃ j : Nat, ∃ X : List Cell, (j ≤ s.length) ∧ (i < j) ∧ (X.length = s.length) ∧ (X.take i = (s.take j).filter (fun c => !p c)) ∧ (X.drop j = s.drop j) ∧ e_ 0 = .slice a s.length c ∧ e_ 1 = .func (.func fp) #[] #[.pointer (some ⟨kb, 0, none⟩)] ∧ e_ 4 = .slice none 0 0 ∧ e_ 5 = nv i ∧ e_ 6 = nv j ∧ L_ = [bk kb 9 [str key], Res.row (.slice a s.length c) 48 2 s.length (X.flatMap encC)] ∧ k_ = s.length - j) _ ⟨findAt p s, (findAt p s + 1), s, by omega, by omega, rfl, (del_start hfl), rfl, rfl, rfl, rfl, (congrArg (Value.int .i64) hie), rfl, rfl, rfl⟩ ?_
  rintro _ e_2 _ ⟨i, j, X, hj, hij, hX, hXi, hXj, he_3, he_4, he_5, he_6, he_7, rfl, rfl⟩
  refine jC <| jC <| jF <| jY rfl (jD (v := nv j) he_7) <| jY rfl (jD (v := .slice a s.length c) he_3) <| jY rfl (jr kf rfl) <| jY rfl (jl rfl rfl) <| jE <| jB ?_
  by_cases h_8 : ((j : Nat) : Int) < ((s.length : Nat) : Int)
  · have hlt : j < s.length := by omega
    refine jW (cB (dT h_8)) <| jT <| jB <| jC <| jf <| jC <| jF <| jY rfl (jD (v := .slice a s.length c) he_3) <| jY rfl (jD (v := nv j) he_7) ?_
    refine kN fun hst => ?_
    obtain ⟨hr_9, hr_9b, -⟩ := row_some 1 rfl (by omega) hst
    refine jY rfl (jk (i := j) kf kh hr_9 hr_9b rfl rfl (by omega)) <| JL.ld rfl (LO.loadRK 1 (vs := [str ((X.getD j c0).1), str ((X.getD j c0).2)]) rfl rfl gG kh (atC (by omega)) rfl (by decide)) ?_
    refine jH rfl (jo (z := .agg #[str [], str []]) (cs := [str [], str []]) kw rfl) ?_
    rintro _ _ ⟨b_10, rfl, rfl⟩
    refine jH rfl (ja 0 (vs := [str ((X.getD j c0).1), str ((X.getD j c0).2)]) (cs' := [str ((X.getD j c0).1), str ((X.getD j c0).2)]) rfl rfl rfl rfl kh rfl rfl (lb rfl) rfl) ?_
    rintro _ _ rfl
    refine jE <| jB <| jC <| jF <| jY rfl (jD (v := .func (.func fp) #[] #[.pointer (some ⟨kb, 0, none⟩)]) he_4) <| JL.ld rfl (jO 0 (vs := [str ((X.getD j c0).1), str ((X.getD j c0).2)]) rfl rfl gG kh rfl rfl) ?_
    refine jH rfl (JO.callV [1] hcf rfl (hp (X.getD j c0)) rfl rfl (fun _ _ => trivial)) ?_
    rintro _ _ ⟨_, ⟨rfl, rfl⟩, rfl⟩
    refine jY rfl (jp rfl) <| jE <| jB ?_
    rcases Bool.eq_false_or_eq_true (p (X.getD j c0)) with h_11 | h_11
    · have hpj := h_11
      refine jR (cB (cN h_11)) <| jT <| jm <| jB <| jF <| jY rfl (jD (v := nv j) he_7) <| jY rfl (jc (c := ((j + 1 : Nat) : Int)) rfl rfl (wr (by omega))) <| jY rfl (jG (v := iv ((j + 1 : Nat) : Int)) rfl) <| jE <| kB [0, 1] (A := [bk kb 9 [str key], Res.row (.slice a s.length c) 48 2 s.length (X.flatMap encC)]) rfl ?_
      refine jq (s.length - (j + 1)) (by omega) ⟨i, j + 1, X, by omega, by omega, hX, (del_skip c0 hXj hlt hpj hXi), (drop_more hXj), he_3, he_4, he_5, he_6, rfl, rfl, rfl⟩
    have hpj := h_11
    refine jW (cB (cN h_11)) <| jC <| jF <| jY rfl (jD (v := .slice a s.length c) he_3) <| jY rfl (jD (v := nv i) he_6) <| JL.ld rfl (jO 1 (vs := [str ((X.getD j c0).1), str ((X.getD j c0).2)]) rfl rfl gG kh rfl rfl) <| jY rfl (jk (i := i) kf kh hr_9 hr_9b rfl rfl (by omega)) ?_
    refine jH rfl (JO.storeR 2 (vs := [str ((X.getD j c0).1), str ((X.getD j c0).2)]) (cs' := (X.set i ((X.getD j c0).1, (X.getD j c0).2)).flatMap encC) rfl rfl rfl rfl kh rfl rfl (by decide) (by rw [lenC]; omega) (setC (by omega))) ?_
    rintro _ _ rfl
    refine jE <| jB <| jF <| jY rfl (jD (v := nv i) he_6) <| jY rfl (jc (c := ((i + 1 : Nat) : Int)) rfl rfl (wr (by omega))) <| jY rfl (jG (v := iv ((i + 1 : Nat) : Int)) rfl) <| jE <| jm <| jB <| jF ?_
    refine jY rfl (jD (v := nv j) he_7) <| jY rfl (jc (c := ((j + 1 : Nat) : Int)) rfl rfl (wr (by omega))) <| jY rfl (jG (v := iv ((j + 1 : Nat) : Int)) rfl) <| jE <| kB [0, 1] (A := [bk kb 9 [str key], Res.row (.slice a s.length c) 48 2 s.length ((X.set i ((X.getD j c0).1, (X.getD j c0).2)).flatMap encC)]) rfl ?_
    refine jq (s.length - (j + 1)) (by omega) ⟨i + 1, j + 1, X.set i (X.getD j c0), by omega, by omega, (by rw [List.length_set]; exact hX), (del_keep c0 hXj hlt hX hij hpj hXi), (del_keepD hXj hij _), he_3, he_4, he_5, rfl, rfl, rfl, rfl⟩
  refine jR (cB (dF h_8)) <| jx <| jb <| jb <| jy <| jB <| jC <| jF <| jY rfl (jD (v := .slice a s.length c) he_3) <| jY rfl (jD (v := nv i) he_6) ?_
  refine kN fun hst => ?_
  obtain ⟨hf_12m, hf_12x, hf_12s, hf_12l⟩ := fits_of hst (i := 1) rfl
  refine jY rfl (PO.sliceVl (i := i) kf kh hf_12s rfl rfl (by omega)) ?_
  refine jH rfl (JO.clear 1 (k := 2) (lo := i) (z := .agg #[str [], str []]) rfl kf kw rfl (by decide) rfl (by decide) (by omega) (by omega)) ?_
  rintro _ _ ⟨zs_13, hzs_13, rfl⟩
  refine jE <| jB <| jC <| JC.narrow 1 i (cs' := (s.filter (fun c => !p c)).flatMap encC) rfl (by omega) (by rw [takeC (by omega), del_done (by omega) hXi]) <| jF <| jY rfl (jD (v := .slice a s.length c) he_3) <| jY rfl (jD (v := nv i) he_6) <| jY rfl (PO.sliceVh (j := i) kf kh hf_12s rfl rfl (by omega)) <| jY rfl (jG (v := .slice a i c) rfl) <| jE ?_
  refine jB <| jN <| jV (.inl rfl) rfl (jJ (v := .slice a i c) rfl) (List.Sublist.refl _) ?_
  have hln := del_len hX (by omega) (del_done (by omega) hXi)
  exact ⟨_, _, by rw [hln], by rw [hln]; rfl⟩

end Go.Proofs.YtjncpgcccgdeiaaGreatDoor

set_option linter.unusedSimpArgs false
set_option linter.unusedVariables false
set_option linter.unnecessarySimpa false
namespace Go.Proofs.YtjncpgcccgdeiaaGreatDoor
open Go Go.RowKit

@[reducible] def rC (a : Option Addr) (c : Nat) (s : List Cell) : Res := .row (.slice a s.length c) 48 2 s.length (s.flatMap encC)
@[reducible] def rS (a : Option Addr) (c : Nat) (l : List Str) : Res := .row (.slice a l.length c) 9 1 l.length (l.map str)
@[reducible] def rI (a : Option Addr) (c : Nat) (l : List Int) : Res := .row (.slice a l.length c) 3 1 l.length (l.map (Value.int .i64))

theorem Ct.weak {P : Program} {f : FuncId} {args : List Value} {A : List Res} {Pre Pre' : World → Prop} {Post Post' : Value → List Res → Prop} (h : Ct P f args A Pre Post) (hp : ∀ w, Pre' w → Pre w) (hq : ∀ v A', Post v A' → Post' v A') : Ct P f args A Pre' Post' :=
  fun w hA hw => (h w hA (hp w hw)).mono fun _ _ ⟨v, A', he, hv, hs⟩ => ⟨v, A', he, hq v A' hv, hs⟩

/-- A nil slice is a row that nobody owns a block for. -/
theorem St.nilRow {w0 w : World} {D : List Nat} {L : List Res} (hw : St w0 D L w) (t k : Nat) : St w0 D (.row (.slice none 0 0) t k 0 [] :: L) w := by
  have e : idsOf (.row (.slice none 0 0) t k 0 [] :: L) = idsOf L := by rw [idsOf_cons]; simp [Res.ids, Value.ownBlock]
  refine ⟨⟨fun r hr => ?_, by rw [e]; exact hw.nodup, by rw [e]; exact hw.low, hw.room, hw.glob⟩, hw.os, hw.tape, hw.output, hw.size, by rw [e]; exact hw.fresh, hw.keep⟩
  simp only [List.mem_cons] at hr
  rcases hr with rfl | hr
  · exact ⟨by simp, .inl ⟨rfl, rfl⟩⟩
  · exact hw.holds r hr
theorem JL.nilRow {P : Program} {ops : Array Oper} {Q : Exit → Act → World → Prop} {n : Nat} {w0 : World} {D : List Nat} {L : List Res} {e : Env} {l : List Oper} (t k : Nat) (h : JL P ops Q n w0 D (.row (.slice none 0 0) t k 0 [] :: L) l e) : JL P ops Q n w0 D L l e := fun w hw => h w (hw.nilRow t k)
theorem JC.nilRow {P : Program} {Q : Exit → Act → World → Prop} {n : Nat} {w0 : World} {D : List Nat} {L : List Res} {e : Env} {c : Code} (t k : Nat) (h : JC P Q n w0 D (.row (.slice none 0 0) t k 0 [] :: L) c e) : JC P Q n w0 D L c e := fun w hw => h w (hw.nilRow t k)

theorem JQ.nilRow {Q : Exit → Act → World → Prop} {x : Exit} {n : Nat} {w0 : World} {D : List Nat} {L : List Res} {e : Env} (t k : Nat) (h : JQ Q x n w0 D (.row (.slice none 0 0) t k 0 [] :: L) e) : JQ Q x n w0 D L e := fun w hw => h w (hw.nilRow t k)
theorem JA.nilRow {P : Program} {ops : Array Oper} {Q : Exit → Act → World → Prop} {n : Nat} {w0 : World} {D : List Nat} {L M : List Res} {e : Env} {z fuel : Nat} {listed : Array Bool} (t k : Nat) (h : JA P ops Q n w0 D M z fuel listed (.row (.slice none 0 0) t k 0 [] :: L) e) : JA P ops Q n w0 D M z fuel listed L e := fun w hw hq => h w (hw.nilRow t k) hq

section
variable {P : Program} {ops : Array Oper} {Q : Exit → Act → World → Prop} {n : Nat} {w0 : World} {D : List Nat} {L M : List Res} {e : Env} {z fuel : Nat} {listed : Array Bool}
/-- A guard that was itself not asked. -/
theorem kP {o : Oper} {rest : List Oper} {j : Nat} {b : Bool} {t : Tmp} (hg : o.guard = some (j, b)) (hj : (ops[j]?).bind (·.dst) = some t) (ht : Nat.blt t n = true) (hv : e t = undef)
    (h : JL P ops Q n w0 D L rest (updO e o.dst undef)) : JL P ops Q n w0 D L (o :: rest) e := fun w hw => by
  have hlt : t < n := (Nat.blt_eq (x := t) (y := n)) ▸ ht
  have hy : yielded ops (act n e).tmps j = none := by simp [yielded, hj, act, hlt, hv, undef]
  refine wpList_step fun K hK => ?_
  rw [if_neg (by simp [Region.wanted, hg, hy]), act_put]
  exact hK _ _ (h w hw)
theorem kE (i : Nat) {oi : Oper} {j : Nat} {b : Bool} {t : Tmp} (hi : ops[i]? = some oi) (hs : Region.noSelect ops = true) (hQ : NP Q) (hf : Region.free .any ops listed i = true) (hr : (Region.ready .any ops listed).contains i = true)
    (hg : oi.guard = some (j, b)) (hj : (ops[j]?).bind (·.dst) = some t) (ht : Nat.blt t n = true) (hv : e t = undef) (h : JA P ops Q n w0 D M z fuel (listed.setIfInBounds i true) L (updO e oi.dst undef)) :
    JA P ops Q n w0 D M z (fuel + 1) listed L e := fun w hw hq => by
  have hlt : t < n := (Nat.blt_eq (x := t) (y := n)) ▸ ht
  have hyy : yielded ops (act n e).tmps j = none := by simp [yielded, hj, act, hlt, hv, undef]
  exact anyC.firstP hi hs hQ fuel listed (act n e) w (Region.free_spec hi hf) (by simpa using hr) (.inr ⟨by simp [Region.wanted, hg, hyy], rfl⟩) (by rw [act_put]; exact h w hw hq)
end
end Go.Proofs.YtjncpgcccgdeiaaGreatDoor

set_option linter.unusedSimpArgs false
set_option linter.unusedVariables false
set_option linter.unnecessarySimpa false
namespace Go.Proofs.YtjncpgcccgdeiaaGreatDoor
open Go Go.RowKit

theorem Has.below {w w' : World} (h : Has [] w) (hb : Below w.heap.size w w') : St w (idsOf []) [] w' :=
  ⟨⟨fun _ hr => by simp at hr, by simp [idsOf], fun _ hi => by simp [idsOf] at hi, Nat.le_trans h.room hb.size, h.glob.keep fun k hk => hb.block k (Nat.lt_of_lt_of_le hk h.room)⟩, hb.os, hb.tape, hb.output, hb.size, fun _ hi => by simp [idsOf] at hi, fun k hk _ => hb.block k hk⟩
theorem below_grow (w : World) (k : Nat) (os : Array Obj) : Below w.heap.size w (Sort.grow (w.drewN k) os) :=
  ⟨rfl, rfl, rfl, by simp [Sort.grow, World.drewN], fun j hj => by
    simp only [Sort.grow, World.drewN]
    rw [Array.getElem?_append_left hj]⟩

end Go.Proofs.YtjncpgcccgdeiaaGreatDoor

namespace Go.Proofs
open Go.Shelf
def Tryz.laysM171_ren : Go.Shelf.Ren := ⟨fun | 171 => 83 | 243 => 122 | 246 => 152 | 283 => 175 | 284 => 176 | 285 => 177 | 286 => 178 | 129 => 196 | 317 => 195 | 318 => 197 | 319 => 198 | 320 => 199 | 337 => 206 | 338 => 207 | n => n, fun | 3 => 3 | 9 => 9 | 2 => 2 | 4 => 4 | 171 => 171 | 0 => 0 | 53 => 172 | 37 => 39 | 5 => 5 | 173 => 175 | 212 => 186 | 51 => 187 | 20 => 20 | 213 => 188 | 46 => 151 | 232 => 208 | 233 => 209 | n => n, fun | 17 => 2 | 18 => 7 | 19 => 8 | n => n⟩
theorem Tryz.laysM171 : Go.Proofs.LaysM.n171 Tryz.prog Tryz.laysM171_ren := {
  mixed := by kernel_rfl
  f129 := Tryz.func196.trans (congrArg some (by kernel_rfl))
  f171 := Tryz.func83.trans (congrArg some (by kernel_rfl))
  f243 := Tryz.func122.trans (congrArg some (by kernel_rfl))
  f246 := Tryz.func152.trans (congrArg some (by kernel_rfl))
  f283 := Tryz.func175.trans (congrArg some (by kernel_rfl))
  f284 := Tryz.func176.trans (congrArg some (by kernel_rfl))
  f285 := Tryz.func177.trans (congrArg some (by kernel_rfl))
  f286 := Tryz.func178.trans (congrArg some (by kernel_rfl))
  f317 := Tryz.func195.trans (congrArg some (by kernel_rfl))
  f318 := Tryz.func197.trans (congrArg some (by kernel_rfl))
  f319 := Tryz.func198.trans (congrArg some (by kernel_rfl))
  f320 := Tryz.func199.trans (congrArg some (by kernel_rfl))
  f337 := Tryz.func206.trans (congrArg some (by kernel_rfl))
  f338 := Tryz.func207.trans (congrArg some (by kernel_rfl))
  t0 := Tryz.underlying0
  a0 := Tryz.isAgg0
  z0 := Tryz.sizeOf0
  v0 := Tryz.zeroValue0
  t2 := Tryz.underlying2
  a2 := Tryz.isAgg2
  z2 := Tryz.sizeOf2
  v2 := Tryz.zeroValue2
  t3 := Tryz.underlying3
  a3 := Tryz.isAgg3
  z3 := Tryz.sizeOf3
  v3 := Tryz.zeroValue3
  t4 := Tryz.underlying4
  a4 := Tryz.isAgg4
  z4 := Tryz.sizeOf4
  v4 := Tryz.zeroValue4
  t5 := Tryz.underlying5
  a5 := Tryz.isAgg5
  z5 := Tryz.sizeOf5
  v5 := Tryz.zeroValue5
  t9 := Tryz.underlying9
  a9 := Tryz.isAgg9
  z9 := Tryz.sizeOf9
  v9 := Tryz.zeroValue9
  t20 := Tryz.underlying20
  a20 := Tryz.isAgg20
  z20 := Tryz.sizeOf20
  v20 := Tryz.zeroValue20
  t37 := Tryz.underlying39
  a37 := Tryz.isAgg39
  z37 := Tryz.sizeOf39
  v37 := Tryz.zeroValue39
  t46 := Tryz.underlying151
  a46 := Tryz.isAgg151
  z46 := Tryz.sizeOf151
  v46 := Tryz.zeroValue151
  t51 := Tryz.underlying187
  a51 := Tryz.isAgg187
  z51 := Tryz.sizeOf187
  v51 := Tryz.zeroValue187
  t53 := Tryz.underlying172
  a53 := Tryz.isAgg172
  z53 := Tryz.sizeOf172
  v53 := Tryz.zeroValue172
  t171 := Tryz.underlying171
  a171 := Tryz.isAgg171
  z171 := Tryz.sizeOf171
  v171 := Tryz.zeroValue171
  t173 := Tryz.underlying175
  a173 := Tryz.isAgg175
  z173 := Tryz.sizeOf175
  v173 := Tryz.zeroValue175
  t212 := Tryz.underlying186
  a212 := Tryz.isAgg186
  z212 := Tryz.sizeOf186
  v212 := Tryz.zeroValue186
  t213 := Tryz.underlying188
  a213 := Tryz.isAgg188
  z213 := Tryz.sizeOf188
  t232 := Tryz.underlying208
  a232 := Tryz.isAgg208
  z232 := Tryz.sizeOf208
  v232 := Tryz.zeroValue208
  t233 := Tryz.underlying209
  a233 := Tryz.isAgg209
  z233 := Tryz.sizeOf209
  v233 := Tryz.zeroValue209
  g17 := by kernel_rfl
  g18 := by kernel_rfl
  g19 := by kernel_rfl
  i0 := by kernel_rfl
  i2 := by kernel_rfl
  i3 := by kernel_rfl
  i4 := by kernel_rfl
  i5 := by kernel_rfl
  i9 := by kernel_rfl
  i20 := by kernel_rfl
  i37 := by kernel_rfl
  i46 := by kernel_rfl
  i51 := by kernel_rfl
  i53 := by kernel_rfl
  i171 := by kernel_rfl
  i173 := by kernel_rfl
  i212 := by kernel_rfl
  i232 := by kernel_rfl
  i233 := by kernel_rfl
  m17 := by kernel_rfl
  m18 := by kernel_rfl
  m19 := by kernel_rfl }
open Go.RowKit Go.Sort Go.Lib in
theorem Tryz.strconv_Itoa (n : Int) (h0 : -9223372036854775808 ≤ n) (h1 : n ≤ 9223372036854775807) (w : World) (htab : Lib.TabIs Tryz.prog w "internal/strconv.uint64pow10" .u64 Lib.pow10Tab) :
    Calls Tryz.prog 83 #[.int .i64 n] w fun e w' => e = .returned (.string ⟨(Lib.itoa n).toArray⟩) ∧ ∃ k os, w' = grow (w.drewN k) os := Any.strconv_Itoa Tryz.laysM171 n h0 h1 w htab
def Tryz.laysC172_ren : Go.Shelf.Ren := ⟨fun | 172 => 145 | 244 => 167 | 245 => 168 | 247 => 186 | 279 => 187 | 280 => 188 | 281 => 189 | 282 => 190 | 287 => 201 | 316 => 202 | 171 => 83 | 205 => 203 | 321 => 208 | 322 => 209 | 243 => 122 | 246 => 152 | 283 => 175 | 284 => 176 | 285 => 177 | 286 => 178 | 129 => 196 | 317 => 195 | 318 => 197 | 319 => 198 | 320 => 199 | 337 => 206 | 338 => 207 | n => n, fun | 9 => 9 | 3 => 3 | 75 => 95 | 76 => 96 | 4 => 4 | 5 => 5 | 167 => 178 | 37 => 39 | 0 => 0 | 85 => 179 | 2 => 2 | 168 => 181 | 53 => 172 | 175 => 196 | 46 => 151 | 210 => 199 | 127 => 135 | 145 => 207 | 143 => 205 | 21 => 21 | 171 => 171 | 173 => 175 | 212 => 186 | 51 => 187 | 20 => 20 | 213 => 188 | 232 => 208 | 233 => 209 | 80 => 101 | n => n, fun | 15 => 5 | 16 => 6 | 17 => 2 | 18 => 7 | 19 => 8 | n => n⟩
theorem Tryz.laysC172 : Go.Proofs.LaysC.n172 Tryz.prog Tryz.laysC172_ren := {
  mixed := by kernel_rfl
  f129 := Tryz.func196.trans (congrArg some (by kernel_rfl))
  f171 := Tryz.func83.trans (congrArg some (by kernel_rfl))
  f172 := Tryz.func145.trans (congrArg some (by kernel_rfl))
  f205 := Tryz.func203.trans (congrArg some (by kernel_rfl))
  f243 := Tryz.func122.trans (congrArg some (by kernel_rfl))
  f244 := Tryz.func167.trans (congrArg some (by kernel_rfl))
  f245 := Tryz.func168.trans (congrArg some (by kernel_rfl))
  f246 := Tryz.func152.trans (congrArg some (by kernel_rfl))
  f247 := Tryz.func186.trans (congrArg some (by kernel_rfl))
  f279 := Tryz.func187.trans (congrArg some (by kernel_rfl))
  f280 := Tryz.func188.trans (congrArg some (by kernel_rfl))
  f281 := Tryz.func189.trans (congrArg some (by kernel_rfl))
  f282 := Tryz.func190.trans (congrArg some (by kernel_rfl))
  f283 := Tryz.func175.trans (congrArg some (by kernel_rfl))
  f284 := Tryz.func176.trans (congrArg some (by kernel_rfl))
  f285 := Tryz.func177.trans (congrArg some (by kernel_rfl))
  f286 := Tryz.func178.trans (congrArg some (by kernel_rfl))
  f287 := Tryz.func201.trans (congrArg some (by kernel_rfl))
  f316 := Tryz.func202.trans (congrArg some (by kernel_rfl))
  f317 := Tryz.func195.trans (congrArg some (by kernel_rfl))
  f318 := Tryz.func197.trans (congrArg some (by kernel_rfl))
  f319 := Tryz.func198.trans (congrArg some (by kernel_rfl))
  f320 := Tryz.func199.trans (congrArg some (by kernel_rfl))
  f321 := Tryz.func208.trans (congrArg some (by kernel_rfl))
  f322 := Tryz.func209.trans (congrArg some (by kernel_rfl))
  f337 := Tryz.func206.trans (congrArg some (by kernel_rfl))
  f338 := Tryz.func207.trans (congrArg some (by kernel_rfl))
  t0 := Tryz.underlying0
  a0 := Tryz.isAgg0
  z0 := Tryz.sizeOf0
  v0 := Tryz.zeroValue0
  t2 := Tryz.underlying2
  a2 := Tryz.isAgg2
  z2 := Tryz.sizeOf2
  v2 := Tryz.zeroValue2
  t3 := Tryz.underlying3
  a3 := Tryz.isAgg3
  z3 := Tryz.sizeOf3
  v3 := Tryz.zeroValue3
  t4 := Tryz.underlying4
  a4 := Tryz.isAgg4
  z4 := Tryz.sizeOf4
  v4 := Tryz.zeroValue4
  t5 := Tryz.underlying5
  a5 := Tryz.isAgg5
  z5 := Tryz.sizeOf5
  v5 := Tryz.zeroValue5
  t9 := Tryz.underlying9
  a9 := Tryz.isAgg9
  z9 := Tryz.sizeOf9
  v9 := Tryz.zeroValue9
  t20 := Tryz.underlying20
  a20 := Tryz.isAgg20
  z20 := Tryz.sizeOf20
  v20 := Tryz.zeroValue20
  t21 := Tryz.underlying21
  a21 := Tryz.isAgg21
  z21 := Tryz.sizeOf21
  v21 := Tryz.zeroValue21
  t37 := Tryz.underlying39
  a37 := Tryz.isAgg39
  z37 := Tryz.sizeOf39
  v37 := Tryz.zeroValue39
  t46 := Tryz.underlying151
  a46 := Tryz.isAgg151
  z46 := Tryz.sizeOf151
  v46 := Tryz.zeroValue151
  t51 := Tryz.underlying187
  a51 := Tryz.isAgg187
  z51 := Tryz.sizeOf187
  v51 := Tryz.zeroValue187
  t53 := Tryz.underlying172
  a53 := Tryz.isAgg172
  z53 := Tryz.sizeOf172
  v53 := Tryz.zeroValue172
  t75 := Tryz.underlying95
  a75 := Tryz.isAgg95
  z75 := Tryz.sizeOf95
  v75 := Tryz.zeroValue95
  t76 := Tryz.underlying96
  a76 := Tryz.isAgg96
  z76 := Tryz.sizeOf96
  v76 := Tryz.zeroValue96
  t85 := Tryz.underlying179
  a85 := Tryz.isAgg179
  z85 := Tryz.sizeOf179
  v85 := Tryz.zeroValue179
  t127 := Tryz.underlying135
  a127 := Tryz.isAgg135
  z127 := Tryz.sizeOf135
  v127 := Tryz.zeroValue135
  t143 := Tryz.underlying205
  a143 := Tryz.isAgg205
  z143 := Tryz.sizeOf205
  v143 := Tryz.zeroValue205
  t145 := Tryz.underlying207
  a145 := Tryz.isAgg207
  z145 := Tryz.sizeOf207
  v145 := Tryz.zeroValue207
  t167 := Tryz.underlying178
  a167 := Tryz.isAgg178
  z167 := Tryz.sizeOf178
  v167 := Tryz.zeroValue178
  t168 := Tryz.underlying181
  a168 := Tryz.isAgg181
  z168 := Tryz.sizeOf181
  v168 := Tryz.zeroValue181
  t171 := Tryz.underlying171
  a171 := Tryz.isAgg171
  z171 := Tryz.sizeOf171
  v171 := Tryz.zeroValue171
  t173 := Tryz.underlying175
  a173 := Tryz.isAgg175
  z173 := Tryz.sizeOf175
  v173 := Tryz.zeroValue175
  t175 := Tryz.underlying196
  a175 := Tryz.isAgg196
  z175 := Tryz.sizeOf196
  v175 := Tryz.zeroValue196
  t210 := Tryz.underlying199
  a210 := Tryz.isAgg199
  z210 := Tryz.sizeOf199
  v210 := Tryz.zeroValue199
  t212 := Tryz.underlying186
  a212 := Tryz.isAgg186
  z212 := Tryz.sizeOf186
  v212 := Tryz.zeroValue186
  t213 := Tryz.underlying188
  a213 := Tryz.isAgg188
  z213 := Tryz.sizeOf188
  t232 := Tryz.underlying208
  a232 := Tryz.isAgg208
  z232 := Tryz.sizeOf208
  v232 := Tryz.zeroValue208
  t233 := Tryz.underlying209
  a233 := Tryz.isAgg209
  z233 := Tryz.sizeOf209
  v233 := Tryz.zeroValue209
  g15 := by kernel_rfl
  g16 := by kernel_rfl
  g17 := by kernel_rfl
  g18 := by kernel_rfl
  g19 := by kernel_rfl
  t80 := Tryz.underlying101
  a80 := Tryz.isAgg101
  z80 := Tryz.sizeOf101
  v80 := Tryz.zeroValue101
  i0 := by kernel_rfl
  i2 := by kernel_rfl
  i3 := by kernel_rfl
  i4 := by kernel_rfl
  i5 := by kernel_rfl
  i9 := by kernel_rfl
  i20 := by kernel_rfl
  i21 := by kernel_rfl
  i37 := by kernel_rfl
  i46 := by kernel_rfl
  i51 := by kernel_rfl
  i53 := by kernel_rfl
  i75 := by kernel_rfl
  i76 := by kernel_rfl
  i80 := by kernel_rfl
  i85 := by kernel_rfl
  i127 := by kernel_rfl
  i143 := by kernel_rfl
  i145 := by kernel_rfl
  i167 := by kernel_rfl
  i168 := by kernel_rfl
  i171 := by kernel_rfl
  i173 := by kernel_rfl
  i175 := by kernel_rfl
  i210 := by kernel_rfl
  i212 := by kernel_rfl
  i232 := by kernel_rfl
  i233 := by kernel_rfl
  m15 := by kernel_rfl
  m16 := by kernel_rfl
  m17 := by kernel_rfl
  m18 := by kernel_rfl
  m19 := by kernel_rfl
  c0 := by kernel_rfl
  c2 := by kernel_rfl
  c3 := by kernel_rfl
  c4 := by kernel_rfl
  c5 := by kernel_rfl
  c9 := by kernel_rfl
  c20 := by kernel_rfl
  c21 := by kernel_rfl
  c37 := by kernel_rfl
  c46 := by kernel_rfl
  c51 := by kernel_rfl
  c53 := by kernel_rfl
  c75 := by kernel_rfl
  c76 := by kernel_rfl
  c80 := by kernel_rfl
  c85 := by kernel_rfl
  c127 := by kernel_rfl
  c143 := by kernel_rfl
  c145 := by kernel_rfl
  c167 := by kernel_rfl
  c168 := by kernel_rfl
  c171 := by kernel_rfl
  c173 := by kernel_rfl
  c175 := by kernel_rfl
  c210 := by kernel_rfl
  c212 := by kernel_rfl
  c213 := by kernel_rfl
  c232 := by kernel_rfl
  c233 := by kernel_rfl }
open Go.RowKit in
theorem Tryz.strconv_Atoi_ok (s : ByteArray) (hmax : s.size ≤ 9223372036854775806) (v : Int) (h : Lib.atoiAll s.data.toList = .ok v) (w : World) :
    Calls Tryz.prog 145 #[.string s] w fun e w' => e = .returned (.tuple #[.int .i64 v, .nilIface]) ∧ (w' = w ∨ ∃ t, w' = Lib.bytesWorld w 5 t) := Any.strconv_Atoi_ok Tryz.laysC172 s hmax v h w
open Go.RowKit in
theorem Tryz.strconv_Atoi_range_var (s : ByteArray) (hlim : s.size ≤ 281474976710656) (h : Lib.atoiAll s.data.toList = .range) (tp : TypeId) (p : Value) (w : World) (hvar : w.var? Tryz.prog "strconv.ErrRange" = some #[.iface tp p]) :
    Calls Tryz.prog 145 #[.string s] w fun e w' => ∃ N, e = .returned (.tuple #[.int .i64 (Lib.atoiSat s.data.toList), .iface 181 (.pointer (some ⟨N, 0, none⟩))]) ∧ w.heap.size ≤ N ∧ w'.heap[N]? = some (.cells #[.string ⟨#[65, 116, 111, 105]⟩, .string s, .iface tp p] 199 (0, 0)) ∧ Below w.heap.size w w' := Any.strconv_Atoi_range_var Tryz.laysC172 s hlim h tp p w hvar
def Tryz.laysPah39_ren : Go.Shelf.Ren := ⟨fun | 39 => 148 | 41 => 172 | 40 => 173 | n => n, fun | 30 => 39 | 9 => 9 | 3 => 3 | 0 => 0 | 5 => 5 | 46 => 151 | n => n, fun | n => n⟩
theorem Tryz.laysPah39 : Go.Proofs.Lays.ph39 Tryz.prog Tryz.laysPah39_ren := {
  mixed := by kernel_rfl
  f39 := Tryz.func148.trans (congrArg some (by kernel_rfl))
  f40 := Tryz.func173.trans (congrArg some (by kernel_rfl))
  f41 := Tryz.func172.trans (congrArg some (by kernel_rfl))
  t0 := Tryz.underlying0
  a0 := Tryz.isAgg0
  z0 := Tryz.sizeOf0
  v0 := Tryz.zeroValue0
  t3 := Tryz.underlying3
  a3 := Tryz.isAgg3
  z3 := Tryz.sizeOf3
  v3 := Tryz.zeroValue3
  t5 := Tryz.underlying5
  a5 := Tryz.isAgg5
  z5 := Tryz.sizeOf5
  v5 := Tryz.zeroValue5
  t9 := Tryz.underlying9
  a9 := Tryz.isAgg9
  z9 := Tryz.sizeOf9
  v9 := Tryz.zeroValue9
  t30 := Tryz.underlying39
  a30 := Tryz.isAgg39
  z30 := Tryz.sizeOf39
  v30 := Tryz.zeroValue39
  t46 := Tryz.underlying151
  a46 := Tryz.isAgg151
  z46 := Tryz.sizeOf151
  v46 := Tryz.zeroValue151
  info5 := by kernel_rfl }
open Go.RowKit Go.Lib in
theorem Tryz.hex_EncodeToString_bytes (bs os cs : Nat) (l : List UInt8) (w : World) (hsrc : ∀ i (h : i < l.length), w.cell? ⟨bs, os + i, none⟩ = some (.int .u8 ((l[i]'h).toNat : Int))) (hb : bs < w.heap.size) (hbig : 2 * l.length ≤ 281474976710656) :
    Calls Tryz.prog 148 #[.slice (some ⟨bs, os, none⟩) l.length cs] w fun e w' => e = .returned (.string ⟨(Hx.encode l).toArray⟩) ∧ Below w.heap.size w w' := Any.hex_EncodeToString_bytes Tryz.laysPah39 bs os cs l w hsrc hb hbig
open Go.RowKit Go.Lib in
theorem Tryz.hex_EncodeToString_nil (w : World) :
    Calls Tryz.prog 148 #[.slice none 0 0] w fun e w' => e = .returned (.string ⟨#[]⟩) ∧ Below w.heap.size w w' := Any.hex_EncodeToString_nil Tryz.laysPah39 w
def Tryz.laysPah43_ren : Go.Shelf.Ren := ⟨fun | 43 => 147 | 42 => 170 | 44 => 171 | n => n, fun | 9 => 9 | 30 => 39 | 35 => 95 | 3 => 3 | 38 => 96 | 4 => 4 | 0 => 0 | 5 => 5 | 47 => 184 | 46 => 151 | 45 => 101 | n => n, fun | 0 => 1 | n => n⟩
theorem Tryz.laysPah43 : Go.Proofs.Lays.ph43 Tryz.prog Tryz.laysPah43_ren := {
  mixed := by kernel_rfl
  f42 := Tryz.func170.trans (congrArg some (by kernel_rfl))
  f43 := Tryz.func147.trans (congrArg some (by kernel_rfl))
  f44 := Tryz.func171.trans (congrArg some (by kernel_rfl))
  t0 := Tryz.underlying0
  a0 := Tryz.isAgg0
  z0 := Tryz.sizeOf0
  v0 := Tryz.zeroValue0
  t3 := Tryz.underlying3
  a3 := Tryz.isAgg3
  z3 := Tryz.sizeOf3
  v3 := Tryz.zeroValue3
  t4 := Tryz.underlying4
  a4 := Tryz.isAgg4
  z4 := Tryz.sizeOf4
  v4 := Tryz.zeroValue4
  t5 := Tryz.underlying5
  a5 := Tryz.isAgg5
  z5 := Tryz.sizeOf5
  v5 := Tryz.zeroValue5
  t9 := Tryz.underlying9
  a9 := Tryz.isAgg9
  z9 := Tryz.sizeOf9
  v9 := Tryz.zeroValue9
  t30 := Tryz.underlying39
  a30 := Tryz.isAgg39
  z30 := Tryz.sizeOf39
  v30 := Tryz.zeroValue39
  t35 := Tryz.underlying95
  a35 := Tryz.isAgg95
  z35 := Tryz.sizeOf95
  v35 := Tryz.zeroValue95
  t38 := Tryz.underlying96
  a38 := Tryz.isAgg96
  z38 := Tryz.sizeOf96
  v38 := Tryz.zeroValue96
  t45 := Tryz.underlying101
  a45 := Tryz.isAgg101
  z45 := Tryz.sizeOf101
  v45 := Tryz.zeroValue101
  t46 := Tryz.underlying151
  a46 := Tryz.isAgg151
  z46 := Tryz.sizeOf151
  v46 := Tryz.zeroValue151
  t47 := Tryz.underlying184
  a47 := Tryz.isAgg184
  z47 := Tryz.sizeOf184
  v47 := Tryz.zeroValue184
  g0 := by kernel_rfl
  info5 := by kernel_rfl }
open Go.RowKit Go.Lib in
theorem Tryz.hex_DecodeString_owns (s : ByteArray) (w : World) (ev : Value) (hE : w.cell? ⟨1, 0, none⟩ = some ev) (hbig : s.size ≤ 281474976710656) :
    Calls Tryz.prog 147 #[.string s] w fun e w' => ∃ v, e = .returned (.tuple #[v, Hx.errVal 184 ev (Hx.decode s.data.toList).2]) ∧
      w'.ownsRow w.heap.size 5 1 v (Hx.decode s.data.toList).1.length ((Hx.decode s.data.toList).1.map fun b => Value.int .u8 (b.toNat : Int)) ∧ Below w.heap.size w w' := Any.hex_DecodeString_owns Tryz.laysPah43 s w ev hE hbig
end Go.Proofs

set_option linter.unusedSimpArgs false
set_option linter.unusedVariables false
set_option linter.unnecessarySimpa false
namespace Go.Proofs.YtjncpgcccgdeiaaGreatDoor
open Go Go.RowKit
/- all, any, by places -/
def rall (n : Nat) (p : Nat → Bool) : Bool := (List.range n).all p
theorem rall_true {n : Nat} {p : Nat → Bool} (h : ∀ i, i < n → p i = true) : rall n p = true := List.all_eq_true.2 fun i hi => h i (List.mem_range.1 hi)
theorem rall_false {n i : Nat} {p : Nat → Bool} (hi : i < n) (h : p i = false) : rall n p = false := by
  cases hq : rall n p with
  | false => rfl
  | true => rw [List.all_eq_true.1 hq i (List.mem_range.2 hi)] at h; cases h
theorem rall_get {n i : Nat} {p : Nat → Bool} (h : rall n p = true) (hi : i < n) : p i = true := List.all_eq_true.1 h i (List.mem_range.2 hi)
/- spans -/
theorem getD_map' {α β : Type} {f : α → β} {l : List α} {i : Nat} {d : α} : (l.map f).getD i (f d) = f (l.getD i d) := by
  rw [List.getD_eq_getElem?_getD, List.getD_eq_getElem?_getD, List.getElem?_map]
  cases l[i]? <;> rfl
end Go.Proofs.YtjncpgcccgdeiaaGreatDoor

set_option linter.unusedSimpArgs false
set_option linter.unusedVariables false
set_option linter.unnecessarySimpa false
namespace Go.Proofs.YtjncpgcccgdeiaaGreatDoor
open Go Go.RowKit
section
variable {P : Program} {ops : Array Oper} {Q : Exit → Act → World → Prop} {n : Nat} {w0 : World} {D : List Nat} {L M : List Res} {e : Env} {z fuel : Nat} {listed : Array Bool}
theorem kQ {i : Nat} {o : Oper} {Φ : Value → List Res → Prop} {j : Nat} {b : Bool} {t : Tmp} (hi : ops[i]? = some o) (hg : o.guard = some (j, b)) (hj : (ops[j]?).bind (·.dst) = some t) (ht : Nat.blt t n = true) (hv : e t = .bool b) (ho : JO P n w0 D L e o Φ)
    (h : ∀ v L', Φ v L' → (∀ r ∈ M, r ∈ L') ∧ JA P ops Q n w0 D M z fuel (listed.setIfInBounds i true) L' (updO e o.dst v)) : JX P ops Q n w0 D M z fuel listed L e i := fun w hw => by
  have hlt : t < n := (Nat.blt_eq (x := t) (y := n)) ▸ ht
  have hyy : yielded ops (act n e).tmps j = some b := by simp [yielded, hj, act, hlt, hv]
  unfold wpOp
  simp only [hi]
  rw [if_pos (by simp [Region.wanted, hg, hyy])]
  refine .inl (ho w hw _ Q fun v L' w' hΦ hw' => ?_)
  obtain ⟨h1, h2⟩ := h v L' hΦ
  have hq := hw'.qw.sub h1
  exact ⟨fun _ => .inr hq, h2 w' hw' hq⟩
end
attribute [local irreducible] JL JC JQ JO LO PO JA JX Ct


end Go.Proofs.YtjncpgcccgdeiaaGreatDoor

set_option linter.unusedSimpArgs false
set_option linter.unusedVariables false
set_option linter.unnecessarySimpa false
namespace Go.Proofs.YtjncpgcccgdeiaaGreatDoor
open Go Go.RowKit
/- texts: one of three -/
theorem bl_flip : ∀ a b : Str, (Op.bytesLess a b || decide (a = b)) = !Op.bytesLess b a
  | [], [] => rfl
  | [], _ :: _ => rfl
  | _ :: _, [] => rfl
  | x :: a, y :: b => by
    have ih := bl_flip a b
    by_cases h : x = y
    · subst h
      simp [Op.bytesLess, ← ih]
    · by_cases hl : x < y
      · have h2 : ¬ y < x := by rw [UInt8.lt_iff_toNat_lt] at *; omega
        have h3 : ¬ y = x := fun e => h e.symm
        simp [Op.bytesLess, hl, h2, h3]
      · have h2 : y < x := by
          rw [UInt8.lt_iff_toNat_lt] at *
          have : ¬ x.toNat = y.toNat := fun e => h (UInt8.toNat_inj.1 e)
          omega
        simp [Op.bytesLess, hl, h2, h]
section
variable {P : Program} {n : Nat} {e : Env} {d : Option Tmp} {ty : TypeId} {pos : String} {aft : Array Edge} {gd : Option (Nat × Bool)}
theorem PO.leqS {x y : Operand} {a b : Str} {t u : TypeId} (hx : rd n e x = str a) (hy : rd n e y = str b) : PO P n e ⟨d, .binOp .leq t x y u, ty, pos, aft, gd⟩ (.bool (!Op.bytesLess b a)) := fun w => by
  simp only [str] at hx hy
  rw [← bl_flip]
  simp [execOp, hx, hy, eqGuard, binOp, Op.stringOp, str_toList, beq_dec]
end
def within (lo n hi : Int) : Bool := decide (lo ≤ n) && decide (n ≤ hi)
/- a store -/
def storeG (s : List Cell) (i : Nat) : Bool := keyOk (s.getD i c0).1 && (within 1 (((s.getD i c0).2.length : Nat) : Int) 60 && (!decide ((0 : Int) < ((i : Nat) : Int)) || Op.bytesLess (s.getD (i - 1) c0).1 (s.getD i c0).1))
def storeOk (s : List Cell) : Bool := rall s.length (storeG s) && decide (((s.length : Nat) : Int) ≤ 900)
theorem storeOk_bad {s : List Cell} {j : Nat} (h : j < s.length) (hg : storeG s j = false) : storeOk s = false := by rw [storeOk, rall_false h hg, Bool.false_and]
theorem storeOk_end {s : List Cell} {j : Nat} (h : s.length ≤ j) (hN : ∀ i, i < j → storeG s i = true) : storeOk s = decide (((s.length : Nat) : Int) ≤ 900) := by rw [storeOk, rall_true fun i hi => hN i (by omega), Bool.true_and]
/- a disk -/
def slotG (x : SD) : Bool := !x.whole || (within 0 x.seq 99999 && storeOk x.cells)
def jourOk (t : Str) (js : Int) : Bool := decide (((t.length : Nat) : Int) ≤ 20000) && within 0 js ((t.length : Nat) : Int)
/-- The best slot among the first so many. -/
def bestF (f : Nat → SD) : Nat → Int
  | 0 => -1
  | j + 1 => if (f j).whole = true ∧ (bestF f j < 0 ∨ (f (bestF f j).toNat).seq < (f j).seq) then ((j : Nat) : Int) else bestF f j
theorem bestF_lo (f : Nat → SD) : ∀ j, -1 ≤ bestF f j ∧ bestF f j < ((j : Nat) : Int)
  | 0 => by simp [bestF]
  | j + 1 => by
    have := bestF_lo f j
    unfold bestF
    split <;> omega
theorem bestF_any (f : Nat → SD) : ∀ j, decide (0 ≤ bestF f j) = !rall j fun i => !(f i).whole
  | 0 => rfl
  | j + 1 => by
    have ih := bestF_any f j
    unfold bestF
    by_cases hw : (f j).whole = true
    · rw [rall_false (i := j) (by omega) (by rw [hw]; rfl)]
      split
      · exact decide_eq_true (by omega)
      · rename_i h
        have : ¬ bestF f j < 0 := fun hh => h ⟨hw, .inl hh⟩
        exact decide_eq_true (by omega)
    · rw [if_neg (fun h => hw h.1), ih]
      have hw' : (f j).whole = false := by simpa using hw
      congr 1
      cases hr : rall j fun i => !(f i).whole with
      | false =>
        symm
        cases hr2 : rall (j + 1) fun i => !(f i).whole with
        | false => rfl
        | true => rw [rall_true (n := j) fun i hi => rall_get hr2 (by omega)] at hr; cases hr
      | true =>
        symm
        refine rall_true fun i hi => ?_
        by_cases h : i = j
        · subst h; rw [hw']; rfl
        · exact rall_get hr (by omega)
def diskOkF (n : Nat) (f : Nat → SD) (t : Str) (js : Int) : Bool := decide (((n : Nat) : Int) = 2) && ((!rall n fun i => !(f i).whole) && (rall n (fun i => slotG (f i)) && jourOk t js))
def diskOk (d : DD) : Bool := diskOkF d.slots.length (fun i => d.slots.getD i o0.t) d.jt d.js
def bestD (d : DD) : Int := bestF (fun i => d.slots.getD i o0.t) d.slots.length
theorem diskOk_dat (d : DX) : diskOk d.dat = diskOkF d.l.length (fun i => (d.l.getD i o0).t) d.jt d.js := by
  simp only [diskOk, DX.dat, List.length_map, getD_map']
theorem bestD_dat (d : DX) : bestD d.dat = bestF (fun i => (d.l.getD i o0).t) d.l.length := by
  simp only [bestD, DX.dat, List.length_map, getD_map']
theorem diskOkF_len {n : Nat} {f : Nat → SD} {t : Str} {js : Int} (h : ¬ ((n : Nat) : Int) = 2) : diskOkF n f t js = false := by rw [diskOkF, decide_eq_false h, Bool.false_and]
theorem diskOkF_none {n : Nat} {f : Nat → SD} {t : Str} {js : Int} (hn : ((n : Nat) : Int) = 2) (h0 : (f 0).whole = false) (h1 : (f 1).whole = false) : diskOkF n f t js = false := by
  rw [diskOkF, rall_true (p := fun i => !(f i).whole), Bool.not_true, Bool.false_and, Bool.and_false]
  intro i hi
  have : i = 0 ∨ i = 1 := by omega
  rcases this with rfl | rfl
  · rw [h0]; rfl
  · rw [h1]; rfl
theorem diskOkF_slot {n i : Nat} {f : Nat → SD} {t : Str} {js : Int} (hi : i < n) (h : slotG (f i) = false) : diskOkF n f t js = false := by
  rw [diskOkF, rall_false (p := fun i => slotG (f i)) hi h, Bool.false_and, Bool.and_false, Bool.and_false]
theorem diskOkF_end {n i j : Nat} {f : Nat → SD} {t : Str} {js : Int} (hn : ((n : Nat) : Int) = 2) (hi : i < 2) (hw : (f i).whole = true) (hj : n ≤ j) (hN : ∀ i, i < j → slotG (f i) = true) : diskOkF n f t js = jourOk t js := by
  rw [diskOkF, decide_eq_true hn, rall_false (p := fun i => !(f i).whole) (i := i) (by omega) (by rw [hw]; rfl), rall_true (p := fun i => slotG (f i)) fun i hi => hN i (by omega)]
  simp only [Bool.true_and, Bool.not_false]
theorem DX.okz_get {d : DX} (h : d.dat.okz) : ∀ j, j < d.l.length → (d.l.getD j o0).t.okz := fun j hj => h.k1 _ (List.mem_map.2 ⟨_, getD_mem hj, rfl⟩)
end Go.Proofs.YtjncpgcccgdeiaaGreatDoor

set_option linter.unusedSimpArgs false
set_option linter.unusedVariables false
set_option linter.unnecessarySimpa false
namespace Go.Proofs.YtjncpgcccgdeiaaGreatDoor
open Go Go.RowKit
section
variable {P : Program} {n : Nat} {e : Env} {d : Option Tmp} {ty : TypeId} {pos : String} {aft : Array Edge} {gd : Option (Nat × Bool)}
theorem PO.min2D {x y : Operand} {a b c : Int} {ts : Array TypeId} (hx : rd n e x = .int .i64 a) (hy : rd n e y = .int .i64 b) (hc : min a b = c) : PO P n e ⟨d, .call ⟨.builtin .min, #[x, y], ts⟩, ty, pos, aft, gd⟩ (.int .i64 c) := fun w => by
  subst hc
  simp [execOp, resolve, invoke, builtin, hx, hy, Lib.run_min_ints]
theorem PO.max2D {x y : Operand} {a b c : Int} {ts : Array TypeId} (hx : rd n e x = .int .i64 a) (hy : rd n e y = .int .i64 b) (hc : max a b = c) : PO P n e ⟨d, .call ⟨.builtin .max, #[x, y], ts⟩, ty, pos, aft, gd⟩ (.int .i64 c) := fun w => by
  subst hc
  simp [execOp, resolve, invoke, builtin, hx, hy, Lib.run_max_ints]
end
end Go.Proofs.YtjncpgcccgdeiaaGreatDoor

set_option linter.unusedSimpArgs false
set_option linter.unusedVariables false
set_option linter.unnecessarySimpa false
namespace Go.Proofs.YtjncpgcccgdeiaaGreatDoor
open Go Go.RowKit
attribute [local irreducible] JL JC JQ JO LO PO JA JX Ct

theorem Y_within (n lo hi : Int) :
    Ct Tryz.prog 76 [.int .i64 n, .int .i64 lo, .int .i64 hi] [] (fun _ => True) (fun v A' => v = .bool (within lo n hi) ∧ A' = []) := by
  refine Ct.intro Tryz.func76 rfl Tryz.ntmps76 (lb rfl) fun w0 hpre => ?_
  refine jC <| jF <| jA (jG (v := .bool false) rfl) <| jE <| jB <| jC <| jF <| jA (jD (v := iv n) rfl) <| jA (jD (v := iv lo) rfl) <| jA (PO.geq rfl rfl) ?_
  refine jA (jD (v := .bool (decide (lo ≤ n))) rfl) ?_
  by_cases h_1 : lo ≤ n
  · refine jM rfl rfl rfl (cB (dT h_1)) (jP (jU (jD (v := iv n) rfl))) ?_
    rintro _ _ ⟨rfl, rfl⟩
    refine jM rfl rfl rfl (cB (dT h_1)) (jP (jU (jD (v := iv hi) rfl))) ?_
    rintro _ _ ⟨rfl, rfl⟩
    refine jM rfl rfl rfl (cB (dT h_1)) (jP (jU (PO.leq rfl rfl))) ?_
    rintro _ _ ⟨rfl, rfl⟩
    refine jA (jh (v := .bool (decide (n ≤ hi))) (cB (dT h_1)) rfl) <| jA (jG (v := .bool (decide (n ≤ hi))) rfl) <| jE <| jB <| jN <| jV (.inl rfl) rfl (jJ (v := .bool (decide (n ≤ hi))) rfl) (List.nil_sublist _) ?_
    refine ⟨?_, rfl⟩
    unfold within
    simp_all <;> omega
  refine jS (b := false) rfl rfl rfl (cB (dF h_1)) <| jS (b := false) rfl rfl rfl (cB (dF h_1)) <| jS (b := false) rfl rfl rfl (cB (dF h_1)) <| jA (ji (v := .bool false) (cB (dF h_1)) rfl) <| jA (jG (v := .bool false) rfl) <| jE <| jB <| jN <| jV (.inl rfl) rfl (jJ (v := .bool false) rfl) (List.nil_sublist _) ?_
  refine ⟨?_, rfl⟩
  unfold within
  simp_all <;> omega

theorem Y_implKeyOk (key : Str) (hk : key.length ≤ 9223372036854775807) :
    Ct Tryz.prog 78 [str key] [] (fun _ => True) (fun v A' => v = .bool (keyOk key) ∧ A' = []) := by
  refine Ct.intro Tryz.func78 rfl Tryz.ntmps78 (lb rfl) fun w0 hpre => ?_
  refine jC <| jF <| jA (jG (v := .bool false) rfl) <| jE <| jB <| jC <| jC <| jF <| jA (jD (v := str key) rfl) <| jA (kF kg rfl) ?_
  refine jA (jD (v := iv 0) rfl) <| jE <| jB <| jf <| kD (fun k_ e_ L_ => ∃ j : Nat, (j ≤ key.length) ∧ (∀ i, i < j → i < key.length → keyByte (key.getD i 0) = true) ∧ e_ 0 = str key ∧ e_ 5 = iv (key.length : Int) ∧ e_ 6 = nv j ∧ L_ = [] ∧ k_ = key.length - j) _ ⟨0, by omega, (fun i hi => absurd hi (Nat.not_lt_zero i)), rfl, rfl, rfl, rfl, rfl⟩ ?_
  rintro _ e_1 _ ⟨j, hj, hN, he_2, he_3, he_4, rfl, rfl⟩
  refine jC <| jF <| jA (jl he_4 he_3) <| jE <| jB <| jC ?_
  by_cases h_5 : ((j : Nat) : Int) < (key.length : Int)
  · have hlt : j < key.length := by omega
    refine jW (cB (dT h_5)) <| jT <| jB <| jC <| jf <| jC <| jF <| jA (jD (v := nv j) he_4) <| jA (jG (v := nv j) rfl) <| jE ?_
    refine jB <| jC <| jF <| jA (jD (v := str key) he_2) <| jA (jD (v := nv j) rfl) <| jA (PO.indexS (i := j) (c := key.getD j 0) kg rfl rfl (getD_some (by omega))) ?_
    have hu_6 := UInt8.toNat_lt (key.getD j 0)
    refine jA (jl rfl rfl) <| jA (jD (v := .bool (decide (((key.getD j 0).toNat : Int) < 33))) rfl) ?_
    by_cases h_7 : ((key.getD j 0).toNat : Int) < 33
    · refine jS (b := true) rfl rfl rfl (cB (dT h_7)) <| jS (b := true) rfl rfl rfl (cB (dT h_7)) <| jS (b := true) rfl rfl rfl (cB (dT h_7)) <| jS (b := true) rfl rfl rfl (cB (dT h_7)) <| jA (jh (v := .bool true) (cB (dT h_7)) rfl) <| jA (jD (v := .bool true) rfl) <| jS (b := true) rfl rfl rfl (cB rfl) <| jS (b := true) rfl rfl rfl (cB rfl) <| jS (b := true) rfl rfl rfl (cB rfl) <| jS (b := true) rfl rfl rfl (cB rfl) ?_
      refine jA (jh (v := .bool true) (cB rfl) rfl) <| jE <| jB <| jW (cB rfl) <| jC <| jF <| jA (jG (v := .bool false) rfl) <| jE <| jB <| jN ?_
      refine jv <| jX <| jX <| jv <| jX <| jV (.inl rfl) rfl (jJ (v := .bool false) rfl) (List.nil_sublist _) ?_
      refine ⟨?_, rfl⟩
      rw [keyOk_bad (j := j) (by omega) (by clear hN; simp only [keyByte, within, Bool.and_eq_true, Bool.and_eq_false_iff, decide_eq_true_eq, decide_eq_false_iff_not, Bool.not_eq_true', Bool.not_eq_false'] at *; omega)]
    refine jM rfl rfl rfl (cB (dF h_7)) (jP (jU (jD (v := str key) he_2))) ?_
    rintro _ _ ⟨rfl, rfl⟩
    refine jM rfl rfl rfl (cB (dF h_7)) (jP (jU (jD (v := nv j) rfl))) ?_
    rintro _ _ ⟨rfl, rfl⟩
    refine jM rfl rfl rfl (cB (dF h_7)) (jP (jU (PO.indexS (i := j) (c := key.getD j 0) kg rfl rfl (getD_some (by omega))))) ?_
    rintro _ _ ⟨rfl, rfl⟩
    have hu_8 := UInt8.toNat_lt (key.getD j 0)
    refine jM rfl rfl rfl (cB (dF h_7)) (jP (jU (kR rfl rfl))) ?_
    rintro _ _ ⟨rfl, rfl⟩
    refine jA (ji (v := .bool (decide (126 < ((key.getD j 0).toNat : Int)))) (cB (dF h_7)) rfl) <| jA (jD (v := .bool (decide (126 < ((key.getD j 0).toNat : Int)))) rfl) ?_
    by_cases h_9 : 126 < ((key.getD j 0).toNat : Int)
    · refine jS (b := true) rfl rfl rfl (cB (dT h_9)) <| jS (b := true) rfl rfl rfl (cB (dT h_9)) <| jS (b := true) rfl rfl rfl (cB (dT h_9)) <| jS (b := true) rfl rfl rfl (cB (dT h_9)) <| jA (jh (v := .bool true) (cB (dT h_9)) rfl) <| jE <| jB <| jW (cB rfl) <| jC <| jF ?_
      refine jA (jG (v := .bool false) rfl) <| jE <| jB <| jN <| jv <| jX <| jX <| jv <| jX <| jV (.inl rfl) rfl (jJ (v := .bool false) rfl) (List.nil_sublist _) ?_
      refine ⟨?_, rfl⟩
      rw [keyOk_bad (j := j) (by omega) (by clear hN; simp only [keyByte, within, Bool.and_eq_true, Bool.and_eq_false_iff, decide_eq_true_eq, decide_eq_false_iff_not, Bool.not_eq_true', Bool.not_eq_false'] at *; omega)]
    refine jM rfl rfl rfl (cB (dF h_9)) (jP (jU (jD (v := str key) he_2))) ?_
    rintro _ _ ⟨rfl, rfl⟩
    refine jM rfl rfl rfl (cB (dF h_9)) (jP (jU (jD (v := nv j) rfl))) ?_
    rintro _ _ ⟨rfl, rfl⟩
    refine jM rfl rfl rfl (cB (dF h_9)) (jP (jU (PO.indexS (i := j) (c := key.getD j 0) kg rfl rfl (getD_some (by omega))))) ?_
    rintro _ _ ⟨rfl, rfl⟩
    have hu_10 := UInt8.toNat_lt (key.getD j 0)
    refine jM rfl rfl rfl (cB (dF h_9)) (jP (jU (kO rfl rfl))) ?_
    rintro _ _ ⟨rfl, rfl⟩
    refine jA (ji (v := .bool (decide (((key.getD j 0).toNat : Int) = 42))) (cB (dF h_9)) rfl) <| jE <| jB ?_
    by_cases h_11 : ((key.getD j 0).toNat : Int) = 42
    · refine jW (cB (dT h_11)) <| jC <| jF <| jA (jG (v := .bool false) rfl) <| jE <| jB <| jN <| jv <| jX <| jX ?_
      refine jv <| jX <| jV (.inl rfl) rfl (jJ (v := .bool false) rfl) (List.nil_sublist _) ?_
      refine ⟨?_, rfl⟩
      rw [keyOk_bad (j := j) (by omega) (by clear hN; simp only [keyByte, within, Bool.and_eq_true, Bool.and_eq_false_iff, decide_eq_true_eq, decide_eq_false_iff_not, Bool.not_eq_true', Bool.not_eq_false'] at *; omega)]
    refine jR (cB (dF h_11)) <| jT <| jm <| jB <| jF <| jA (jc (c := ((j + 1 : Nat) : Int)) he_4 rfl (wr (by omega))) <| jA (jD (v := iv ((j + 1 : Nat) : Int)) rfl) <| jE ?_
    refine jq (key.length - (j + 1)) (by omega) ⟨j + 1, by omega, (fun i hi hl => if h : i = j then h ▸ (by clear hN; simp only [keyByte, within, Bool.and_eq_true, Bool.and_eq_false_iff, decide_eq_true_eq, decide_eq_false_iff_not, Bool.not_eq_true', Bool.not_eq_false'] at *; omega : keyByte (key.getD j 0) = true) else hN i (by omega) hl), he_2, he_3, rfl, rfl, rfl⟩
  refine jR (cB (dF h_5)) <| jx <| jb <| jb <| jy <| jB <| jC <| jF <| jA (jD (v := str key) he_2) <| jA (kF kg rfl) ?_
  refine jH rfl (jI [] Tryz.call76 rfl (Y_within (key.length : Int) 1 40) rfl (fun _ _ => trivial)) ?_
  rintro _ _ ⟨_, ⟨rfl, rfl⟩, rfl⟩
  refine jA (jG (v := .bool (within 1 (key.length : Int) 40)) rfl) <| jE <| jB <| jN <| jV (.inl rfl) rfl (jJ (v := .bool (within 1 (key.length : Int) 40)) rfl) (List.nil_sublist _) ?_
  refine ⟨?_, rfl⟩
  rw [keyOk_good (j := j) (by omega) hN]
  exact cB (by unfold within; congr 1 <;> exact decide_eq_decide.2 (by omega))

theorem Y_implbro (x : Int) (y : Nat) :
    Ct Tryz.prog 123 [.int .i64 x, .int .i64 0, .int .i64 ((y : Nat) : Int)] [] (fun _ => True) (fun v A' => v = .int .i64 ((bro x y : Nat) : Int) ∧ A' = []) := by
  refine Ct.intro Tryz.func123 rfl Tryz.ntmps123 (lb rfl) fun w0 hpre => ?_
  refine jC <| jF <| jA (jG (v := iv 0) rfl) <| jE <| jB <| jC <| jF <| jA (jD (v := iv 0) rfl) <| jA (jD (v := iv x) rfl) <| jA (jD (v := nv y) rfl) ?_
  refine jA (PO.min2D (c := min x ((y : Nat) : Int)) rfl rfl rfl) <| jA (PO.max2D (c := max 0 (min x ((y : Nat) : Int))) rfl rfl rfl) <| jA (jG (v := iv (max 0 (min x ((y : Nat) : Int)))) rfl) <| jE <| jB <| jN <| jV (.inl rfl) rfl (jJ (v := iv (max 0 (min x ((y : Nat) : Int)))) rfl) (List.nil_sublist _) ?_
  refine ⟨?_, rfl⟩
  exact congrArg (Value.int .i64) (by unfold bro; first | omega | (simp only [Int.min_def, Int.max_def]; omega) | grind)

set_option maxRecDepth 4000 in
set_option maxHeartbeats 1000000 in
theorem Y_implStoreOk (a : Option Addr) (c : Nat) (s : List Cell) (hs : okC s) :
    Ct Tryz.prog 85 [.slice a s.length c] [] (fun w_ => Sees w_ (.slice a s.length c) 2 s.length (s.flatMap encC)) (fun v A' => v = .bool (storeOk s) ∧ A' = []) := by
  refine Ct.intro Tryz.func85 rfl Tryz.ntmps85 (lb rfl) fun w0 hpre => ?_
  have hs_a : Sees w0 _ _ _ _ := hpre
  have hsl := hs.1
  refine jC <| jF <| jA (jG (v := .bool false) rfl) <| jE <| jB <| jC <| jC <| jF <| jA (jD (v := .slice a s.length c) rfl) <| jA (jr kf rfl) ?_
  refine jA (jD (v := iv 0) rfl) <| jE <| jB <| jf <| kD (fun k_ e_ L_ => ∃ j : Nat, (j ≤ s.length) ∧ (∀ i, i < j → storeG s i = true) ∧ e_ 0 = .slice a s.length c ∧ e_ 5 = .slice a s.length c ∧ e_ 6 = nv s.length ∧ e_ 7 = nv j ∧ L_ = [] ∧ k_ = s.length - j) _ ⟨0, by omega, (fun i hi => absurd hi (Nat.not_lt_zero i)), rfl, rfl, rfl, rfl, rfl, rfl⟩ ?_
  rintro _ e_1 _ ⟨j, hj, hN, he_2, he_3, he_4, he_5, rfl, rfl⟩
  refine jC <| jF <| jA (jl he_5 he_4) <| jE <| jB <| jC ?_
  by_cases h_6 : ((j : Nat) : Int) < ((s.length : Nat) : Int)
  · have hlt : j < s.length := by omega
    refine jW (cB (dT h_6)) <| jT <| jB <| jC <| jf <| jC <| jF <| jA (jD (v := nv j) he_5) ?_
    obtain ⟨hr_7, hr_7b, -⟩ := sees_some hs_a (by omega)
    refine jA (jk (i := j) kf kh hr_7 hr_7b he_3 he_5 (by omega)) <| jK (kX (vs := [str ((s.getD j c0).1), str ((s.getD j c0).2)]) hs_a nM rfl gG kh (atC (by omega)) rfl (by decide)) ?_
    refine jH rfl (jo (z := .agg #[str [], str []]) (cs := [str [], str []]) kw rfl) ?_
    rintro _ _ ⟨b_8, rfl, rfl⟩
    refine jA (jG (v := nv j) rfl) ?_
    refine jH rfl (ja 0 (vs := [str ((s.getD j c0).1), str ((s.getD j c0).2)]) (cs' := [str ((s.getD j c0).1), str ((s.getD j c0).2)]) rfl rfl rfl rfl kh rfl rfl (lb rfl) rfl) ?_
    rintro _ _ rfl
    refine jE <| jB <| jC <| kJ [bk b_8 48 [str ((s.getD j c0).1), str ((s.getD j c0).2)]] 1000 mixed (by simp) <| jL 0 rfl (jQ fo48_0 rfl) <| jw 1 rfl (jZ 0 (v := str ((s.getD j c0).1)) rfl rfl ki rfl) <| jj (i := 2) ?_
    refine jz rfl rfl (jI [] Tryz.call78 rfl (Y_implKeyOk ((s.getD j c0).1) (hs.2 j hlt).1) rfl (fun _ _ => trivial)) ?_
    rintro _ _ ⟨_, ⟨rfl, rfl⟩, rfl⟩
    refine ⟨by simp, ?_⟩
    refine jL 3 rfl (jp rfl) <| jL 4 rfl (jD (v := .bool (!(keyOk ((s.getD j c0).1)))) rfl) ?_
    rcases Bool.eq_false_or_eq_true (keyOk ((s.getD j c0).1)) with h_9 | h_9
    · refine jg 5 rfl (by kernel_rfl) (NP.th (NP.bl (NP.th (NP.th (NP.bl (NP.th NP.body)))))) (by kernel_rfl) (by kernel_rfl) rfl rfl rfl (cB (cN h_9)) (jQ fo48_1 rfl) <| kK 6 rfl (by kernel_rfl) (NP.th (NP.bl (NP.th (NP.th (NP.bl (NP.th NP.body)))))) (by kernel_rfl) (by kernel_rfl) (by kernel_rfl) rfl rfl rfl (cB (cN h_9)) (jZ 0 (v := str ((s.getD j c0).2)) rfl rfl ki rfl) <| jg 7 rfl (by kernel_rfl) (NP.th (NP.bl (NP.th (NP.th (NP.bl (NP.th NP.body)))))) (by kernel_rfl) (by kernel_rfl) rfl rfl rfl (cB (cN h_9)) (kF kg rfl) <| jj (i := 8) ?_
      refine kQ rfl rfl rfl rfl (cB (cN h_9)) (jI [] Tryz.call76 rfl (Y_within (((s.getD j c0).2).length : Int) 1 60) rfl (fun _ _ => trivial)) ?_
      rintro _ _ ⟨_, ⟨rfl, rfl⟩, rfl⟩
      refine ⟨by simp, ?_⟩
      refine jg 9 rfl (by kernel_rfl) (NP.th (NP.bl (NP.th (NP.th (NP.bl (NP.th NP.body)))))) (by kernel_rfl) (by kernel_rfl) rfl rfl rfl (cB (cN h_9)) (jp rfl) <| jL 10 rfl (ji (v := .bool (!(within 1 (((s.getD j c0).2).length : Int) 60))) (cB (cN h_9)) rfl) <| jL 11 rfl (jD (v := .bool (!(within 1 (((s.getD j c0).2).length : Int) 60))) rfl) ?_
      rcases Bool.eq_false_or_eq_true (within 1 (((s.getD j c0).2).length : Int) 60) with h_10 | h_10
      · refine jg 12 rfl (by kernel_rfl) (NP.th (NP.bl (NP.th (NP.th (NP.bl (NP.th NP.body)))))) (by kernel_rfl) (by kernel_rfl) rfl rfl rfl (cB (cN h_10)) (jD (v := nv j) rfl) <| jg 13 rfl (by kernel_rfl) (NP.th (NP.bl (NP.th (NP.th (NP.bl (NP.th NP.body)))))) (by kernel_rfl) (by kernel_rfl) rfl rfl rfl (cB (cN h_10)) (kR rfl rfl) <| jg 14 rfl (by kernel_rfl) (NP.th (NP.bl (NP.th (NP.th (NP.bl (NP.th NP.body)))))) (by kernel_rfl) (by kernel_rfl) rfl rfl rfl (cB (cN h_10)) (jD (v := .bool (decide (0 < ((j : Nat) : Int)))) rfl) ?_
        by_cases h_11 : 0 < ((j : Nat) : Int)
        · refine jg 15 rfl (by kernel_rfl) (NP.th (NP.bl (NP.th (NP.th (NP.bl (NP.th NP.body)))))) (by kernel_rfl) (by kernel_rfl) rfl rfl rfl (cB (dT h_11)) (jQ fo48_0 rfl) <| kK 16 rfl (by kernel_rfl) (NP.th (NP.bl (NP.th (NP.th (NP.bl (NP.th NP.body)))))) (by kernel_rfl) (by kernel_rfl) (by kernel_rfl) rfl rfl rfl (cB (dT h_11)) (jZ 0 (v := str ((s.getD j c0).1)) rfl rfl ki rfl) <| jg 17 rfl (by kernel_rfl) (NP.th (NP.bl (NP.th (NP.th (NP.bl (NP.th NP.body)))))) (by kernel_rfl) (by kernel_rfl) rfl rfl rfl (cB (dT h_11)) (jD (v := .slice a s.length c) he_2) <| jg 18 rfl (by kernel_rfl) (NP.th (NP.bl (NP.th (NP.th (NP.bl (NP.th NP.body)))))) (by kernel_rfl) (by kernel_rfl) rfl rfl rfl (cB (dT h_11)) (jD (v := nv j) rfl) <| jg 19 rfl (by kernel_rfl) (NP.th (NP.bl (NP.th (NP.th (NP.bl (NP.th NP.body)))))) (by kernel_rfl) (by kernel_rfl) rfl rfl rfl (cB (dT h_11)) (kZ (c := ((j - 1 : Nat) : Int)) rfl rfl (wr (by omega))) <| jg 20 rfl (by kernel_rfl) (NP.th (NP.bl (NP.th (NP.th (NP.bl (NP.th NP.body)))))) (by kernel_rfl) (by kernel_rfl) rfl rfl rfl (cB (dT h_11)) (jk (i := (j - 1)) kf kh hr_7 hr_7b rfl rfl (by omega)) <| jg 21 rfl (by kernel_rfl) (NP.th (NP.bl (NP.th (NP.th (NP.bl (NP.th NP.body)))))) (by kernel_rfl) (by kernel_rfl) rfl rfl rfl (cB (dT h_11)) (kL fo48_0 hr_7 rfl) <| kK 22 rfl (by kernel_rfl) (NP.th (NP.bl (NP.th (NP.th (NP.bl (NP.th NP.body)))))) (by kernel_rfl) (by kernel_rfl) (by kernel_rfl) rfl rfl rfl (cB (dT h_11)) (kY (v := str ((s.getD (j - 1) c0).1)) hs_a nM rfl ki (atC1 (by omega))) <| jg 23 rfl (by kernel_rfl) (NP.th (NP.bl (NP.th (NP.th (NP.bl (NP.th NP.body)))))) (by kernel_rfl) (by kernel_rfl) rfl rfl rfl (cB (dT h_11)) (PO.leqS rfl rfl) <| jg 24 rfl (by kernel_rfl) (NP.th (NP.bl (NP.th (NP.th (NP.bl (NP.th NP.body)))))) (by kernel_rfl) (by kernel_rfl) rfl rfl rfl (cB (cN h_10)) (jh (v := .bool (!(Op.bytesLess ((s.getD (j - 1) c0).1) ((s.getD j c0).1)))) (cB (dT h_11)) rfl) ?_
          refine jL 25 rfl (ji (v := .bool (!(Op.bytesLess ((s.getD (j - 1) c0).1) ((s.getD j c0).1)))) (cB (cN h_10)) rfl) <| kI (by kernel_rfl) <| jB ?_
          rcases Bool.eq_false_or_eq_true (Op.bytesLess ((s.getD (j - 1) c0).1) ((s.getD j c0).1)) with h_12 | h_12
          · refine jR (cB (cN h_12)) <| jT <| jm <| jB <| jF <| jA (jc (c := ((j + 1 : Nat) : Int)) he_5 rfl (wr (by omega))) <| jA (jD (v := iv ((j + 1 : Nat) : Int)) rfl) <| jE <| kB [] (A := []) rfl ?_
            refine jq (s.length - (j + 1)) (by omega) ⟨j + 1, by omega, (fun i hi => if h : i = j then h ▸ (by simp only [storeG, Bool.and_true, Bool.true_and, Bool.and_false, Bool.false_and, Bool.or_true, Bool.true_or, Bool.or_false, Bool.false_or, Bool.not_true, Bool.not_false, ((dT h_6)), (h_9), (h_10), ((dT h_11)), (h_12)]) else hN i (by omega)), he_2, he_3, he_4, rfl, rfl, rfl⟩
          refine jW (cB (cN h_12)) <| jC <| jF <| jA (jG (v := .bool false) rfl) <| jE <| jB <| jN <| jv <| jX <| jX ?_
          refine jv <| jX <| jV (.inl rfl) rfl (jJ (v := .bool false) rfl) (List.nil_sublist _) ?_
          exact ⟨cB (storeOk_bad hlt (by simp only [storeG, Bool.and_true, Bool.true_and, Bool.and_false, Bool.false_and, Bool.or_true, Bool.true_or, Bool.or_false, Bool.false_or, Bool.not_true, Bool.not_false, ((dT h_6)), (h_9), (h_10), ((dT h_11)), (h_12)])).symm, rfl⟩
        refine jd 15 (b := false) rfl (by kernel_rfl) (NP.th (NP.bl (NP.th (NP.th (NP.bl (NP.th NP.body)))))) (by kernel_rfl) (by kernel_rfl) rfl rfl rfl (cB (dF h_11)) <| jd 16 (b := false) rfl (by kernel_rfl) (NP.th (NP.bl (NP.th (NP.th (NP.bl (NP.th NP.body)))))) (by kernel_rfl) (by kernel_rfl) rfl rfl rfl (cB (dF h_11)) <| jd 17 (b := false) rfl (by kernel_rfl) (NP.th (NP.bl (NP.th (NP.th (NP.bl (NP.th NP.body)))))) (by kernel_rfl) (by kernel_rfl) rfl rfl rfl (cB (dF h_11)) <| jd 18 (b := false) rfl (by kernel_rfl) (NP.th (NP.bl (NP.th (NP.th (NP.bl (NP.th NP.body)))))) (by kernel_rfl) (by kernel_rfl) rfl rfl rfl (cB (dF h_11)) <| jd 19 (b := false) rfl (by kernel_rfl) (NP.th (NP.bl (NP.th (NP.th (NP.bl (NP.th NP.body)))))) (by kernel_rfl) (by kernel_rfl) rfl rfl rfl (cB (dF h_11)) <| jd 20 (b := false) rfl (by kernel_rfl) (NP.th (NP.bl (NP.th (NP.th (NP.bl (NP.th NP.body)))))) (by kernel_rfl) (by kernel_rfl) rfl rfl rfl (cB (dF h_11)) <| jd 21 (b := false) rfl (by kernel_rfl) (NP.th (NP.bl (NP.th (NP.th (NP.bl (NP.th NP.body)))))) (by kernel_rfl) (by kernel_rfl) rfl rfl rfl (cB (dF h_11)) <| jd 22 (b := false) rfl (by kernel_rfl) (NP.th (NP.bl (NP.th (NP.th (NP.bl (NP.th NP.body)))))) (by kernel_rfl) (by kernel_rfl) rfl rfl rfl (cB (dF h_11)) <| jd 23 (b := false) rfl (by kernel_rfl) (NP.th (NP.bl (NP.th (NP.th (NP.bl (NP.th NP.body)))))) (by kernel_rfl) (by kernel_rfl) rfl rfl rfl (cB (dF h_11)) <| jg 24 rfl (by kernel_rfl) (NP.th (NP.bl (NP.th (NP.th (NP.bl (NP.th NP.body)))))) (by kernel_rfl) (by kernel_rfl) rfl rfl rfl (cB (cN h_10)) (ji (v := .bool false) (cB (dF h_11)) rfl) ?_
        refine jL 25 rfl (ji (v := .bool false) (cB (cN h_10)) rfl) <| kI (by kernel_rfl) <| jB <| jR (cB rfl) <| jT <| jm <| jB <| jF <| jA (jc (c := ((j + 1 : Nat) : Int)) he_5 rfl (wr (by omega))) <| jA (jD (v := iv ((j + 1 : Nat) : Int)) rfl) ?_
        refine jE <| kB [] (A := []) rfl ?_
        refine jq (s.length - (j + 1)) (by omega) ⟨j + 1, by omega, (fun i hi => if h : i = j then h ▸ (by simp only [storeG, Bool.and_true, Bool.true_and, Bool.and_false, Bool.false_and, Bool.or_true, Bool.true_or, Bool.or_false, Bool.false_or, Bool.not_true, Bool.not_false, ((dT h_6)), (h_9), (h_10), ((dF h_11))]) else hN i (by omega)), he_2, he_3, he_4, rfl, rfl, rfl⟩
      refine jd 12 (b := true) rfl (by kernel_rfl) (NP.th (NP.bl (NP.th (NP.th (NP.bl (NP.th NP.body)))))) (by kernel_rfl) (by kernel_rfl) rfl rfl rfl (cB (cN h_10)) <| jd 13 (b := true) rfl (by kernel_rfl) (NP.th (NP.bl (NP.th (NP.th (NP.bl (NP.th NP.body)))))) (by kernel_rfl) (by kernel_rfl) rfl rfl rfl (cB (cN h_10)) <| jd 14 (b := true) rfl (by kernel_rfl) (NP.th (NP.bl (NP.th (NP.th (NP.bl (NP.th NP.body)))))) (by kernel_rfl) (by kernel_rfl) rfl rfl rfl (cB (cN h_10)) <| kE 15 rfl (by kernel_rfl) (NP.th (NP.bl (NP.th (NP.th (NP.bl (NP.th NP.body)))))) (by kernel_rfl) (by kernel_rfl) rfl rfl rfl rfl <| kE 16 rfl (by kernel_rfl) (NP.th (NP.bl (NP.th (NP.th (NP.bl (NP.th NP.body)))))) (by kernel_rfl) (by kernel_rfl) rfl rfl rfl rfl <| kE 17 rfl (by kernel_rfl) (NP.th (NP.bl (NP.th (NP.th (NP.bl (NP.th NP.body)))))) (by kernel_rfl) (by kernel_rfl) rfl rfl rfl rfl <| kE 18 rfl (by kernel_rfl) (NP.th (NP.bl (NP.th (NP.th (NP.bl (NP.th NP.body)))))) (by kernel_rfl) (by kernel_rfl) rfl rfl rfl rfl <| kE 19 rfl (by kernel_rfl) (NP.th (NP.bl (NP.th (NP.th (NP.bl (NP.th NP.body)))))) (by kernel_rfl) (by kernel_rfl) rfl rfl rfl rfl <| kE 20 rfl (by kernel_rfl) (NP.th (NP.bl (NP.th (NP.th (NP.bl (NP.th NP.body)))))) (by kernel_rfl) (by kernel_rfl) rfl rfl rfl rfl <| kE 21 rfl (by kernel_rfl) (NP.th (NP.bl (NP.th (NP.th (NP.bl (NP.th NP.body)))))) (by kernel_rfl) (by kernel_rfl) rfl rfl rfl rfl ?_
      refine kE 22 rfl (by kernel_rfl) (NP.th (NP.bl (NP.th (NP.th (NP.bl (NP.th NP.body)))))) (by kernel_rfl) (by kernel_rfl) rfl rfl rfl rfl <| kE 23 rfl (by kernel_rfl) (NP.th (NP.bl (NP.th (NP.th (NP.bl (NP.th NP.body)))))) (by kernel_rfl) (by kernel_rfl) rfl rfl rfl rfl <| jd 24 (b := true) rfl (by kernel_rfl) (NP.th (NP.bl (NP.th (NP.th (NP.bl (NP.th NP.body)))))) (by kernel_rfl) (by kernel_rfl) rfl rfl rfl (cB (cN h_10)) <| jL 25 rfl (jh (v := .bool true) (cB (cN h_10)) rfl) <| kI (by kernel_rfl) <| jB <| jW (cB rfl) <| jC <| jF <| jA (jG (v := .bool false) rfl) ?_
      refine jE <| jB <| jN <| jv <| jX <| jX <| jv <| jX <| jV (.inl rfl) rfl (jJ (v := .bool false) rfl) (List.nil_sublist _) ?_
      exact ⟨cB (storeOk_bad hlt (by simp only [storeG, Bool.and_true, Bool.true_and, Bool.and_false, Bool.false_and, Bool.or_true, Bool.true_or, Bool.or_false, Bool.false_or, Bool.not_true, Bool.not_false, ((dT h_6)), (h_9), (h_10)])).symm, rfl⟩
    refine jd 5 (b := true) rfl (by kernel_rfl) (NP.th (NP.bl (NP.th (NP.th (NP.bl (NP.th NP.body)))))) (by kernel_rfl) (by kernel_rfl) rfl rfl rfl (cB (cN h_9)) <| jd 6 (b := true) rfl (by kernel_rfl) (NP.th (NP.bl (NP.th (NP.th (NP.bl (NP.th NP.body)))))) (by kernel_rfl) (by kernel_rfl) rfl rfl rfl (cB (cN h_9)) <| jd 7 (b := true) rfl (by kernel_rfl) (NP.th (NP.bl (NP.th (NP.th (NP.bl (NP.th NP.body)))))) (by kernel_rfl) (by kernel_rfl) rfl rfl rfl (cB (cN h_9)) <| jd 8 (b := true) rfl (by kernel_rfl) (NP.th (NP.bl (NP.th (NP.th (NP.bl (NP.th NP.body)))))) (by kernel_rfl) (by kernel_rfl) rfl rfl rfl (cB (cN h_9)) <| jd 9 (b := true) rfl (by kernel_rfl) (NP.th (NP.bl (NP.th (NP.th (NP.bl (NP.th NP.body)))))) (by kernel_rfl) (by kernel_rfl) rfl rfl rfl (cB (cN h_9)) <| jL 10 rfl (jh (v := .bool true) (cB (cN h_9)) rfl) <| jL 11 rfl (jD (v := .bool true) rfl) <| jd 12 (b := true) rfl (by kernel_rfl) (NP.th (NP.bl (NP.th (NP.th (NP.bl (NP.th NP.body)))))) (by kernel_rfl) (by kernel_rfl) rfl rfl rfl (cB rfl) <| jd 13 (b := true) rfl (by kernel_rfl) (NP.th (NP.bl (NP.th (NP.th (NP.bl (NP.th NP.body)))))) (by kernel_rfl) (by kernel_rfl) rfl rfl rfl (cB rfl) <| jd 14 (b := true) rfl (by kernel_rfl) (NP.th (NP.bl (NP.th (NP.th (NP.bl (NP.th NP.body)))))) (by kernel_rfl) (by kernel_rfl) rfl rfl rfl (cB rfl) ?_
    refine kE 15 rfl (by kernel_rfl) (NP.th (NP.bl (NP.th (NP.th (NP.bl (NP.th NP.body)))))) (by kernel_rfl) (by kernel_rfl) rfl rfl rfl rfl <| kE 16 rfl (by kernel_rfl) (NP.th (NP.bl (NP.th (NP.th (NP.bl (NP.th NP.body)))))) (by kernel_rfl) (by kernel_rfl) rfl rfl rfl rfl <| kE 17 rfl (by kernel_rfl) (NP.th (NP.bl (NP.th (NP.th (NP.bl (NP.th NP.body)))))) (by kernel_rfl) (by kernel_rfl) rfl rfl rfl rfl <| kE 18 rfl (by kernel_rfl) (NP.th (NP.bl (NP.th (NP.th (NP.bl (NP.th NP.body)))))) (by kernel_rfl) (by kernel_rfl) rfl rfl rfl rfl <| kE 19 rfl (by kernel_rfl) (NP.th (NP.bl (NP.th (NP.th (NP.bl (NP.th NP.body)))))) (by kernel_rfl) (by kernel_rfl) rfl rfl rfl rfl <| kE 20 rfl (by kernel_rfl) (NP.th (NP.bl (NP.th (NP.th (NP.bl (NP.th NP.body)))))) (by kernel_rfl) (by kernel_rfl) rfl rfl rfl rfl <| kE 21 rfl (by kernel_rfl) (NP.th (NP.bl (NP.th (NP.th (NP.bl (NP.th NP.body)))))) (by kernel_rfl) (by kernel_rfl) rfl rfl rfl rfl <| kE 22 rfl (by kernel_rfl) (NP.th (NP.bl (NP.th (NP.th (NP.bl (NP.th NP.body)))))) (by kernel_rfl) (by kernel_rfl) rfl rfl rfl rfl <| kE 23 rfl (by kernel_rfl) (NP.th (NP.bl (NP.th (NP.th (NP.bl (NP.th NP.body)))))) (by kernel_rfl) (by kernel_rfl) rfl rfl rfl rfl <| jd 24 (b := true) rfl (by kernel_rfl) (NP.th (NP.bl (NP.th (NP.th (NP.bl (NP.th NP.body)))))) (by kernel_rfl) (by kernel_rfl) rfl rfl rfl (cB rfl) ?_
    refine jL 25 rfl (jh (v := .bool true) (cB rfl) rfl) <| kI (by kernel_rfl) <| jB <| jW (cB rfl) <| jC <| jF <| jA (jG (v := .bool false) rfl) <| jE <| jB <| jN ?_
    refine jv <| jX <| jX <| jv <| jX <| jV (.inl rfl) rfl (jJ (v := .bool false) rfl) (List.nil_sublist _) ?_
    exact ⟨cB (storeOk_bad hlt (by simp only [storeG, Bool.and_true, Bool.true_and, Bool.and_false, Bool.false_and, Bool.or_true, Bool.true_or, Bool.or_false, Bool.false_or, Bool.not_true, Bool.not_false, ((dT h_6)), (h_9)])).symm, rfl⟩
  refine jR (cB (dF h_6)) <| jx <| jb <| jb <| jy <| jB <| jC <| jF <| jA (jD (v := .slice a s.length c) he_2) <| jA (jr kf rfl) ?_
  refine jA (PO.leq rfl rfl) <| jA (jG (v := .bool (decide (((s.length : Nat) : Int) ≤ 900))) rfl) <| jE <| jB <| jN <| jV (.inl rfl) rfl (jJ (v := .bool (decide (((s.length : Nat) : Int) ≤ 900))) rfl) (List.nil_sublist _) ?_
  exact ⟨cB (storeOk_end (by omega) hN).symm, rfl⟩

theorem Y_implJournalOk (t : Str) (js : Int) (hl : t.length ≤ 9223372036854775807) :
    Ct Tryz.prog 75 [.agg #[str t, .int .i64 js]] [] (fun _ => True) (fun v A' => v = .bool (jourOk t js) ∧ A' = []) := by
  refine Ct.intro Tryz.func75 rfl Tryz.ntmps75 (lb rfl) fun w0 hpre => ?_
  refine jC <| jF ?_
  refine jH rfl (kG (cs := [str t, iv js]) rfl rfl) ?_
  rintro _ _ ⟨b_1, rfl, rfl⟩
  refine jA (jG (v := .bool false) rfl) <| jE <| jB <| jC <| jF <| jA (jQ fo29_0 rfl) <| jK (jZ 0 (v := str t) rfl rfl ki rfl) <| jA (kF kg rfl) <| jA (PO.leq rfl rfl) <| jA (jD (v := .bool (decide ((t.length : Int) ≤ 20000))) rfl) ?_
  by_cases h_2 : (t.length : Int) ≤ 20000
  · refine jM rfl rfl rfl (cB (dT h_2)) (jP (jU (jQ fo29_1 rfl))) ?_
    rintro _ _ ⟨rfl, rfl⟩
    refine jM rfl rfl rfl (cB (dT h_2)) (jP (jZ 0 (v := iv js) rfl rfl kq rfl)) ?_
    rintro _ _ ⟨rfl, rfl⟩
    refine jM rfl rfl rfl (cB (dT h_2)) (jP (jU (jQ fo29_0 rfl))) ?_
    rintro _ _ ⟨rfl, rfl⟩
    refine jM rfl rfl rfl (cB (dT h_2)) (jP (jZ 0 (v := str t) rfl rfl ki rfl)) ?_
    rintro _ _ ⟨rfl, rfl⟩
    refine jM rfl rfl rfl (cB (dT h_2)) (jP (jU (kF kg rfl))) ?_
    rintro _ _ ⟨rfl, rfl⟩
    refine jM rfl rfl rfl (cB (dT h_2)) (jI [] Tryz.call76 rfl (Y_within js 0 (t.length : Int)) rfl (fun _ _ => trivial)) ?_
    rintro _ _ ⟨_, ⟨rfl, rfl⟩, rfl⟩
    refine jA (jh (v := .bool (within 0 js (t.length : Int))) (cB (dT h_2)) rfl) <| jA (jG (v := .bool (within 0 js (t.length : Int))) rfl) <| jE <| jB <| jN <| jV (.inl rfl) rfl (jJ (v := .bool (within 0 js (t.length : Int))) rfl) (List.nil_sublist _) ?_
    exact ⟨cB (by simp only [jourOk, Bool.and_true, Bool.true_and, Bool.and_false, Bool.false_and, Bool.or_true, Bool.true_or, Bool.or_false, Bool.false_or, Bool.not_true, Bool.not_false, ((dT h_2))]), rfl⟩
  refine jS (b := false) rfl rfl rfl (cB (dF h_2)) <| jS (b := false) rfl rfl rfl (cB (dF h_2)) <| jS (b := false) rfl rfl rfl (cB (dF h_2)) <| jS (b := false) rfl rfl rfl (cB (dF h_2)) <| jS (b := false) rfl rfl rfl (cB (dF h_2)) <| jS (b := false) rfl rfl rfl (cB (dF h_2)) <| jA (ji (v := .bool false) (cB (dF h_2)) rfl) <| jA (jG (v := .bool false) rfl) <| jE <| jB ?_
  refine jN <| jV (.inl rfl) rfl (jJ (v := .bool false) rfl) (List.nil_sublist _) ?_
  exact ⟨cB (by simp only [jourOk, Bool.and_true, Bool.true_and, Bool.and_false, Bool.false_and, Bool.or_true, Bool.true_or, Bool.or_false, Bool.false_or, Bool.not_true, Bool.not_false, ((dF h_2))]), rfl⟩

set_option maxRecDepth 4000 in
set_option maxHeartbeats 1000000 in
theorem Y_implDiskOk (d : DX) (hz : d.dat.okz) (hl : d.l.length ≤ 1000000000) :
    Ct Tryz.prog 47 [.agg #[.slice d.a d.l.length d.c, str d.jt, .int .i64 d.js]] [] (fun w => SeesA w (rdsD d)) (fun v A' => v = .bool (diskOk d.dat) ∧ A' = []) := by
  refine Ct.intro Tryz.func47 rfl Tryz.ntmps47 (lb rfl) fun w0 hpre => ?_
  have hjl := hz.k2
  have hs_1 : Sees w0 (.slice d.a d.l.length d.c) 3 d.l.length (d.l.flatMap encO) := (hpre).head
  have hi_2 : SeesA w0 (d.l.flatMap rdsO) := (hpre).tail
  refine jC <| jF ?_
  refine jH rfl (kG (cs := [.slice d.a d.l.length d.c, str d.jt, iv d.js]) rfl rfl) ?_
  rintro _ _ ⟨b_3, rfl, rfl⟩
  refine jA (jG (v := .bool false) rfl) <| jE <| jB <| jC <| jC <| jF <| jA (jQ fo31_0 rfl) <| jK (jZ 0 (v := .slice d.a d.l.length d.c) rfl rfl ks rfl) <| jA (jr km rfl) <| jA (kS rfl rfl) ?_
  refine jA (jD (v := .bool (!(decide (((d.l.length : Nat) : Int) = 2)))) rfl) ?_
  by_cases h_4 : ((d.l.length : Nat) : Int) = 2
  · refine jM rfl rfl rfl (cB (cN (dT h_4))) (jP (jU (jQ fo31_0 rfl))) ?_
    rintro _ _ ⟨rfl, rfl⟩
    refine jM rfl rfl rfl (cB (cN (dT h_4))) (jP (jZ 0 (v := .slice d.a d.l.length d.c) rfl rfl ks rfl)) ?_
    rintro _ _ ⟨rfl, rfl⟩
    obtain ⟨hr_5, hr_5b, -⟩ := sees_some hs_1 (by omega)
    refine jM rfl rfl rfl (cB (cN (dT h_4))) (jP (jU (jk (i := 0) km kj hr_5 hr_5b rfl rfl (by omega)))) ?_
    rintro _ _ ⟨rfl, rfl⟩
    refine jM rfl rfl rfl (cB (cN (dT h_4))) (jP (jU (kL fo60_2 hr_5 rfl))) ?_
    rintro _ _ ⟨rfl, rfl⟩
    have hi_6 := SeesA.elem hi_2 o0 (show 0 < d.l.length by omega)
    have hs_7 := seesO hi_6
    refine jM rfl rfl rfl (cB (cN (dT h_4))) (jP (kY (v := .bool ((d.l.getD 0 o0).t.whole)) hs_1 nM rfl gI (flat_at encO_len o0 d.l 0 2 (by omega) (by decide)))) ?_
    rintro _ _ ⟨rfl, rfl⟩
    refine jM rfl rfl rfl (cB (cN (dT h_4))) (jP (jU (jp rfl))) ?_
    rintro _ _ ⟨rfl, rfl⟩
    refine jM rfl rfl rfl (cB (cN (dT h_4))) (jP (jU (jD (v := .bool (!((d.l.getD 0 o0).t.whole))) rfl))) ?_
    rintro _ _ ⟨rfl, rfl⟩
    rcases Bool.eq_false_or_eq_true ((d.l.getD 0 o0).t.whole) with h_8 | h_8
    · refine jS (b := false) rfl rfl rfl (cB (cN h_8)) <| jS (b := false) rfl rfl rfl (cB (cN h_8)) <| jS (b := false) rfl rfl rfl (cB (cN h_8)) <| jS (b := false) rfl rfl rfl (cB (cN h_8)) <| jS (b := false) rfl rfl rfl (cB (cN h_8)) <| jS (b := false) rfl rfl rfl (cB (cN h_8)) <| jM rfl rfl rfl (cB (cN (dT h_4))) (jP (jU (ji (v := .bool false) (cB (cN h_8)) rfl))) ?_
      rintro _ _ ⟨rfl, rfl⟩
      refine jA (ji (v := .bool false) (cB (cN (dT h_4))) rfl) <| jE <| jB <| jR (cB rfl) <| jT <| jB <| jC <| jC <| jF <| jA (jQ fo31_0 rfl) ?_
      refine jK (jZ 0 (v := .slice d.a d.l.length d.c) rfl rfl ks rfl) <| jA (jr km rfl) <| jA (jD (v := iv 0) rfl) <| jE <| jB <| jf <| kD (fun k_ e_ L_ => ∃ j : Nat, (j ≤ d.l.length) ∧ (∀ i, i < j → slotG (d.l.getD i o0).t = true) ∧ e_ 1 = .pointer (some ⟨b_3, 0, none⟩) ∧ e_ 26 = .slice d.a d.l.length d.c ∧ e_ 27 = nv d.l.length ∧ e_ 28 = nv j ∧ L_ = [bk b_3 31 [.slice d.a d.l.length d.c, str d.jt, iv d.js]] ∧ k_ = d.l.length - j) _ ⟨0, by omega, (fun i hi => absurd hi (Nat.not_lt_zero i)), rfl, rfl, rfl, rfl, rfl, rfl⟩ ?_
      rintro _ e_9 _ ⟨j, hj, hN, he_10, he_11, he_12, he_13, rfl, rfl⟩
      refine jC <| jF <| jA (jl he_13 he_12) <| jE <| jB <| jC ?_
      by_cases h_14 : ((j : Nat) : Int) < ((d.l.length : Nat) : Int)
      · have hlt : j < d.l.length := by omega
        refine jW (cB (dT h_14)) <| jT <| jB <| jC <| jf <| jC <| jF <| jA (jk (i := j) km kj hr_5 hr_5b he_11 he_13 (by omega)) ?_
        have hi_15 := SeesA.elem hi_2 o0 (show j < d.l.length by omega)
        have hs_16 := seesO hi_15
        refine jK (kX (vs := [iv ((d.l.getD j o0).t.seq), .slice ((d.l.getD j o0).x.a0) ((d.l.getD j o0).t.cells.length) ((d.l.getD j o0).x.c0), .bool ((d.l.getD j o0).t.whole)]) hs_1 nM rfl gB kj (flat_take encO_len o0 d.l j (by omega)) rfl (by decide)) ?_
        refine jH rfl (jo (z := .agg #[iv 0, .slice none 0 0, .bool false]) (cs := [iv 0, .slice none 0 0, .bool false]) gD rfl) ?_
        rintro _ _ ⟨b_17, rfl, rfl⟩
        refine jH rfl (ja 0 (vs := [iv ((d.l.getD j o0).t.seq), .slice ((d.l.getD j o0).x.a0) ((d.l.getD j o0).t.cells.length) ((d.l.getD j o0).x.c0), .bool ((d.l.getD j o0).t.whole)]) (cs' := [iv ((d.l.getD j o0).t.seq), .slice ((d.l.getD j o0).x.a0) ((d.l.getD j o0).t.cells.length) ((d.l.getD j o0).x.c0), .bool ((d.l.getD j o0).t.whole)]) rfl rfl rfl rfl kj rfl rfl (lb rfl) rfl) ?_
        rintro _ _ rfl
        refine jE <| jB <| jC <| jF <| jA (jQ fo60_2 rfl) <| jK (jZ 0 (v := .bool ((d.l.getD j o0).t.whole)) rfl rfl gI rfl) <| jA (jD (v := .bool ((d.l.getD j o0).t.whole)) rfl) ?_
        rcases Bool.eq_false_or_eq_true ((d.l.getD j o0).t.whole) with h_18 | h_18
        · refine jM rfl rfl rfl (cB h_18) (jP (jU (jQ fo60_0 rfl))) ?_
          rintro _ _ ⟨rfl, rfl⟩
          refine jM rfl rfl rfl (cB h_18) (jP (jZ 0 (v := iv ((d.l.getD j o0).t.seq)) rfl rfl kq rfl)) ?_
          rintro _ _ ⟨rfl, rfl⟩
          refine jM rfl rfl rfl (cB h_18) (jI [] Tryz.call76 rfl (Y_within ((d.l.getD j o0).t.seq) 0 99999) rfl (fun _ _ => trivial)) ?_
          rintro _ _ ⟨_, ⟨rfl, rfl⟩, rfl⟩
          refine jM rfl rfl rfl (cB h_18) (jP (jU (jp rfl))) ?_
          rintro _ _ ⟨rfl, rfl⟩
          refine jM rfl rfl rfl (cB h_18) (jP (jU (jD (v := .bool (!(within 0 ((d.l.getD j o0).t.seq) 99999))) rfl))) ?_
          rintro _ _ ⟨rfl, rfl⟩
          rcases Bool.eq_false_or_eq_true (within 0 ((d.l.getD j o0).t.seq) 99999) with h_19 | h_19
          · refine jM rfl rfl rfl (cB (cN h_19)) (jP (jU (jQ fo60_1 rfl))) ?_
            rintro _ _ ⟨rfl, rfl⟩
            refine jM rfl rfl rfl (cB (cN h_19)) (jP (jZ 0 (v := .slice ((d.l.getD j o0).x.a0) ((d.l.getD j o0).t.cells.length) ((d.l.getD j o0).x.c0)) rfl rfl kz rfl)) ?_
            rintro _ _ ⟨rfl, rfl⟩
            refine jM rfl rfl rfl (cB (cN h_19)) (jI [] Tryz.call85 rfl (Y_implStoreOk (d.l.getD j o0).x.a0 ((d.l.getD j o0).x.c0) ((d.l.getD j o0).t.cells) (DX.okz_get hz j (by omega)).k0) rfl (fun w hw => hw.seeOut_ hs_16 nM)) ?_
            rintro _ _ ⟨_, ⟨rfl, rfl⟩, rfl⟩
            refine jM rfl rfl rfl (cB (cN h_19)) (jP (jU (jp rfl))) ?_
            rintro _ _ ⟨rfl, rfl⟩
            refine jM rfl rfl rfl (cB h_18) (jP (jU (ji (v := .bool (!(storeOk ((d.l.getD j o0).t.cells)))) (cB (cN h_19)) rfl))) ?_
            rintro _ _ ⟨rfl, rfl⟩
            refine jA (jh (v := .bool (!(storeOk ((d.l.getD j o0).t.cells)))) (cB h_18) rfl) <| jE <| jB ?_
            rcases Bool.eq_false_or_eq_true (storeOk ((d.l.getD j o0).t.cells)) with h_20 | h_20
            · refine jR (cB (cN h_20)) <| jT <| jm <| jB <| jF <| jA (jc (c := ((j + 1 : Nat) : Int)) he_13 rfl (wr (by omega))) <| jA (jD (v := iv ((j + 1 : Nat) : Int)) rfl) <| jE <| kB [1] (A := [bk b_3 31 [.slice d.a d.l.length d.c, str d.jt, iv d.js]]) rfl ?_
              refine jq (d.l.length - (j + 1)) (by omega) ⟨j + 1, by omega, (fun i hi => if h : i = j then h ▸ (by simp only [slotG, Bool.and_true, Bool.true_and, Bool.and_false, Bool.false_and, Bool.or_true, Bool.true_or, Bool.or_false, Bool.false_or, Bool.not_true, Bool.not_false, ((dT h_4)), (h_8), ((dT h_14)), (h_18), (h_19), (h_20)]) else hN i (by omega)), he_10, he_11, he_12, rfl, rfl, rfl⟩
            refine jW (cB (cN h_20)) <| jC <| jF <| jA (jG (v := .bool false) rfl) <| jE <| jB <| jN <| jv <| jX <| jX ?_
            refine jv <| jX <| jV (.inl rfl) rfl (jJ (v := .bool false) rfl) (List.nil_sublist _) ?_
            refine ⟨cB ?_, rfl⟩
            rw [diskOk_dat]
            exact (diskOkF_slot (f := (fun i => (d.l.getD i o0).t)) hlt (by simp only [slotG, Bool.and_true, Bool.true_and, Bool.and_false, Bool.false_and, Bool.or_true, Bool.true_or, Bool.or_false, Bool.false_or, Bool.not_true, Bool.not_false, ((dT h_4)), (h_8), ((dT h_14)), (h_18), (h_19), (h_20)])).symm
          refine jS (b := true) rfl rfl rfl (cB (cN h_19)) <| jS (b := true) rfl rfl rfl (cB (cN h_19)) <| jS (b := true) rfl rfl rfl (cB (cN h_19)) <| jS (b := true) rfl rfl rfl (cB (cN h_19)) <| jM rfl rfl rfl (cB h_18) (jP (jU (jh (v := .bool true) (cB (cN h_19)) rfl))) ?_
          rintro _ _ ⟨rfl, rfl⟩
          refine jA (jh (v := .bool true) (cB h_18) rfl) <| jE <| jB <| jW (cB rfl) <| jC <| jF <| jA (jG (v := .bool false) rfl) <| jE <| jB <| jN ?_
          refine jv <| jX <| jX <| jv <| jX <| jV (.inl rfl) rfl (jJ (v := .bool false) rfl) (List.nil_sublist _) ?_
          refine ⟨cB ?_, rfl⟩
          rw [diskOk_dat]
          exact (diskOkF_slot (f := (fun i => (d.l.getD i o0).t)) hlt (by simp only [slotG, Bool.and_true, Bool.true_and, Bool.and_false, Bool.false_and, Bool.or_true, Bool.true_or, Bool.or_false, Bool.false_or, Bool.not_true, Bool.not_false, ((dT h_4)), (h_8), ((dT h_14)), (h_18), (h_19)])).symm
        refine jS (b := false) rfl rfl rfl (cB h_18) <| jS (b := false) rfl rfl rfl (cB h_18) <| jS (b := false) rfl rfl rfl (cB h_18) <| jS (b := false) rfl rfl rfl (cB h_18) <| jS (b := false) rfl rfl rfl (cB h_18) <| kP rfl rfl rfl rfl <| kP rfl rfl rfl rfl <| kP rfl rfl rfl rfl <| kP rfl rfl rfl rfl <| jS (b := false) rfl rfl rfl (cB h_18) ?_
        refine jA (ji (v := .bool false) (cB h_18) rfl) <| jE <| jB <| jR (cB rfl) <| jT <| jm <| jB <| jF <| jA (jc (c := ((j + 1 : Nat) : Int)) he_13 rfl (wr (by omega))) <| jA (jD (v := iv ((j + 1 : Nat) : Int)) rfl) ?_
        refine jE <| kB [1] (A := [bk b_3 31 [.slice d.a d.l.length d.c, str d.jt, iv d.js]]) rfl ?_
        refine jq (d.l.length - (j + 1)) (by omega) ⟨j + 1, by omega, (fun i hi => if h : i = j then h ▸ (by simp only [slotG, Bool.and_true, Bool.true_and, Bool.and_false, Bool.false_and, Bool.or_true, Bool.true_or, Bool.or_false, Bool.false_or, Bool.not_true, Bool.not_false, ((dT h_4)), (h_8), ((dT h_14)), (h_18)]) else hN i (by omega)), he_10, he_11, he_12, rfl, rfl, rfl⟩
      refine jR (cB (dF h_14)) <| jx <| jb <| jb <| jy <| jB <| jC <| jF <| jA (jQ fo31_1 he_10) <| jK (jO 0 (vs := [str d.jt, iv d.js]) rfl rfl kp kl rfl rfl) ?_
      refine jH rfl (jI [] Tryz.call75 rfl (Y_implJournalOk d.jt d.js hjl) rfl (fun _ _ => trivial)) ?_
      rintro _ _ ⟨_, ⟨rfl, rfl⟩, rfl⟩
      refine jA (jG (v := .bool (jourOk d.jt d.js)) rfl) <| jE <| jB <| jN <| jV (.inl rfl) rfl (jJ (v := .bool (jourOk d.jt d.js)) rfl) (List.nil_sublist _) ?_
      refine ⟨cB ?_, rfl⟩
      rw [diskOk_dat]
      first | (refine (diskOkF_end (f := (fun i => (d.l.getD i o0).t)) (i := 0) (by omega) (by omega) ?_ (by omega) hN).symm; assumption) | (refine (diskOkF_end (f := (fun i => (d.l.getD i o0).t)) (i := 1) (by omega) (by omega) ?_ (by omega) hN).symm; assumption)
    refine jM rfl rfl rfl (cB (cN h_8)) (jP (jU (jQ fo31_0 rfl))) ?_
    rintro _ _ ⟨rfl, rfl⟩
    refine jM rfl rfl rfl (cB (cN h_8)) (jP (jZ 0 (v := .slice d.a d.l.length d.c) rfl rfl ks rfl)) ?_
    rintro _ _ ⟨rfl, rfl⟩
    refine jM rfl rfl rfl (cB (cN h_8)) (jP (jU (jk (i := 1) km kj hr_5 hr_5b rfl rfl (by omega)))) ?_
    rintro _ _ ⟨rfl, rfl⟩
    refine jM rfl rfl rfl (cB (cN h_8)) (jP (jU (kL fo60_2 hr_5 rfl))) ?_
    rintro _ _ ⟨rfl, rfl⟩
    have hi_21 := SeesA.elem hi_2 o0 (show 1 < d.l.length by omega)
    have hs_22 := seesO hi_21
    refine jM rfl rfl rfl (cB (cN h_8)) (jP (kY (v := .bool ((d.l.getD 1 o0).t.whole)) hs_1 nM rfl gI (flat_at encO_len o0 d.l 1 2 (by omega) (by decide)))) ?_
    rintro _ _ ⟨rfl, rfl⟩
    refine jM rfl rfl rfl (cB (cN h_8)) (jP (jU (jp rfl))) ?_
    rintro _ _ ⟨rfl, rfl⟩
    refine jM rfl rfl rfl (cB (cN (dT h_4))) (jP (jU (jh (v := .bool (!((d.l.getD 1 o0).t.whole))) (cB (cN h_8)) rfl))) ?_
    rintro _ _ ⟨rfl, rfl⟩
    refine jA (ji (v := .bool (!((d.l.getD 1 o0).t.whole))) (cB (cN (dT h_4))) rfl) <| jE <| jB ?_
    rcases Bool.eq_false_or_eq_true ((d.l.getD 1 o0).t.whole) with h_23 | h_23
    · refine jR (cB (cN h_23)) <| jT <| jB <| jC <| jC <| jF <| jA (jQ fo31_0 rfl) <| jK (jZ 0 (v := .slice d.a d.l.length d.c) rfl rfl ks rfl) <| jA (jr km rfl) <| jA (jD (v := iv 0) rfl) ?_
      refine jE <| jB <| jf <| kD (fun k_ e_ L_ => ∃ j : Nat, (j ≤ d.l.length) ∧ (∀ i, i < j → slotG (d.l.getD i o0).t = true) ∧ e_ 1 = .pointer (some ⟨b_3, 0, none⟩) ∧ e_ 26 = .slice d.a d.l.length d.c ∧ e_ 27 = nv d.l.length ∧ e_ 28 = nv j ∧ L_ = [bk b_3 31 [.slice d.a d.l.length d.c, str d.jt, iv d.js]] ∧ k_ = d.l.length - j) _ ⟨0, by omega, (fun i hi => absurd hi (Nat.not_lt_zero i)), rfl, rfl, rfl, rfl, rfl, rfl⟩ ?_
      rintro _ e_24 _ ⟨j, hj, hN, he_25, he_26, he_27, he_28, rfl, rfl⟩
      refine jC <| jF <| jA (jl he_28 he_27) <| jE <| jB <| jC ?_
      by_cases h_29 : ((j : Nat) : Int) < ((d.l.length : Nat) : Int)
      · have hlt : j < d.l.length := by omega
        refine jW (cB (dT h_29)) <| jT <| jB <| jC <| jf <| jC <| jF <| jA (jk (i := j) km kj hr_5 hr_5b he_26 he_28 (by omega)) ?_
        have hi_30 := SeesA.elem hi_2 o0 (show j < d.l.length by omega)
        have hs_31 := seesO hi_30
        refine jK (kX (vs := [iv ((d.l.getD j o0).t.seq), .slice ((d.l.getD j o0).x.a0) ((d.l.getD j o0).t.cells.length) ((d.l.getD j o0).x.c0), .bool ((d.l.getD j o0).t.whole)]) hs_1 nM rfl gB kj (flat_take encO_len o0 d.l j (by omega)) rfl (by decide)) ?_
        refine jH rfl (jo (z := .agg #[iv 0, .slice none 0 0, .bool false]) (cs := [iv 0, .slice none 0 0, .bool false]) gD rfl) ?_
        rintro _ _ ⟨b_32, rfl, rfl⟩
        refine jH rfl (ja 0 (vs := [iv ((d.l.getD j o0).t.seq), .slice ((d.l.getD j o0).x.a0) ((d.l.getD j o0).t.cells.length) ((d.l.getD j o0).x.c0), .bool ((d.l.getD j o0).t.whole)]) (cs' := [iv ((d.l.getD j o0).t.seq), .slice ((d.l.getD j o0).x.a0) ((d.l.getD j o0).t.cells.length) ((d.l.getD j o0).x.c0), .bool ((d.l.getD j o0).t.whole)]) rfl rfl rfl rfl kj rfl rfl (lb rfl) rfl) ?_
        rintro _ _ rfl
        refine jE <| jB <| jC <| jF <| jA (jQ fo60_2 rfl) <| jK (jZ 0 (v := .bool ((d.l.getD j o0).t.whole)) rfl rfl gI rfl) <| jA (jD (v := .bool ((d.l.getD j o0).t.whole)) rfl) ?_
        rcases Bool.eq_false_or_eq_true ((d.l.getD j o0).t.whole) with h_33 | h_33
        · refine jM rfl rfl rfl (cB h_33) (jP (jU (jQ fo60_0 rfl))) ?_
          rintro _ _ ⟨rfl, rfl⟩
          refine jM rfl rfl rfl (cB h_33) (jP (jZ 0 (v := iv ((d.l.getD j o0).t.seq)) rfl rfl kq rfl)) ?_
          rintro _ _ ⟨rfl, rfl⟩
          refine jM rfl rfl rfl (cB h_33) (jI [] Tryz.call76 rfl (Y_within ((d.l.getD j o0).t.seq) 0 99999) rfl (fun _ _ => trivial)) ?_
          rintro _ _ ⟨_, ⟨rfl, rfl⟩, rfl⟩
          refine jM rfl rfl rfl (cB h_33) (jP (jU (jp rfl))) ?_
          rintro _ _ ⟨rfl, rfl⟩
          refine jM rfl rfl rfl (cB h_33) (jP (jU (jD (v := .bool (!(within 0 ((d.l.getD j o0).t.seq) 99999))) rfl))) ?_
          rintro _ _ ⟨rfl, rfl⟩
          rcases Bool.eq_false_or_eq_true (within 0 ((d.l.getD j o0).t.seq) 99999) with h_34 | h_34
          · refine jM rfl rfl rfl (cB (cN h_34)) (jP (jU (jQ fo60_1 rfl))) ?_
            rintro _ _ ⟨rfl, rfl⟩
            refine jM rfl rfl rfl (cB (cN h_34)) (jP (jZ 0 (v := .slice ((d.l.getD j o0).x.a0) ((d.l.getD j o0).t.cells.length) ((d.l.getD j o0).x.c0)) rfl rfl kz rfl)) ?_
            rintro _ _ ⟨rfl, rfl⟩
            refine jM rfl rfl rfl (cB (cN h_34)) (jI [] Tryz.call85 rfl (Y_implStoreOk (d.l.getD j o0).x.a0 ((d.l.getD j o0).x.c0) ((d.l.getD j o0).t.cells) (DX.okz_get hz j (by omega)).k0) rfl (fun w hw => hw.seeOut_ hs_31 nM)) ?_
            rintro _ _ ⟨_, ⟨rfl, rfl⟩, rfl⟩
            refine jM rfl rfl rfl (cB (cN h_34)) (jP (jU (jp rfl))) ?_
            rintro _ _ ⟨rfl, rfl⟩
            refine jM rfl rfl rfl (cB h_33) (jP (jU (ji (v := .bool (!(storeOk ((d.l.getD j o0).t.cells)))) (cB (cN h_34)) rfl))) ?_
            rintro _ _ ⟨rfl, rfl⟩
            refine jA (jh (v := .bool (!(storeOk ((d.l.getD j o0).t.cells)))) (cB h_33) rfl) <| jE <| jB ?_
            rcases Bool.eq_false_or_eq_true (storeOk ((d.l.getD j o0).t.cells)) with h_35 | h_35
            · refine jR (cB (cN h_35)) <| jT <| jm <| jB <| jF <| jA (jc (c := ((j + 1 : Nat) : Int)) he_28 rfl (wr (by omega))) <| jA (jD (v := iv ((j + 1 : Nat) : Int)) rfl) <| jE <| kB [1] (A := [bk b_3 31 [.slice d.a d.l.length d.c, str d.jt, iv d.js]]) rfl ?_
              refine jq (d.l.length - (j + 1)) (by omega) ⟨j + 1, by omega, (fun i hi => if h : i = j then h ▸ (by simp only [slotG, Bool.and_true, Bool.true_and, Bool.and_false, Bool.false_and, Bool.or_true, Bool.true_or, Bool.or_false, Bool.false_or, Bool.not_true, Bool.not_false, ((dT h_4)), (h_8), (h_23), ((dT h_29)), (h_33), (h_34), (h_35)]) else hN i (by omega)), he_25, he_26, he_27, rfl, rfl, rfl⟩
            refine jW (cB (cN h_35)) <| jC <| jF <| jA (jG (v := .bool false) rfl) <| jE <| jB <| jN <| jv <| jX <| jX ?_
            refine jv <| jX <| jV (.inl rfl) rfl (jJ (v := .bool false) rfl) (List.nil_sublist _) ?_
            refine ⟨cB ?_, rfl⟩
            rw [diskOk_dat]
            exact (diskOkF_slot (f := (fun i => (d.l.getD i o0).t)) hlt (by simp only [slotG, Bool.and_true, Bool.true_and, Bool.and_false, Bool.false_and, Bool.or_true, Bool.true_or, Bool.or_false, Bool.false_or, Bool.not_true, Bool.not_false, ((dT h_4)), (h_8), (h_23), ((dT h_29)), (h_33), (h_34), (h_35)])).symm
          refine jS (b := true) rfl rfl rfl (cB (cN h_34)) <| jS (b := true) rfl rfl rfl (cB (cN h_34)) <| jS (b := true) rfl rfl rfl (cB (cN h_34)) <| jS (b := true) rfl rfl rfl (cB (cN h_34)) <| jM rfl rfl rfl (cB h_33) (jP (jU (jh (v := .bool true) (cB (cN h_34)) rfl))) ?_
          rintro _ _ ⟨rfl, rfl⟩
          refine jA (jh (v := .bool true) (cB h_33) rfl) <| jE <| jB <| jW (cB rfl) <| jC <| jF <| jA (jG (v := .bool false) rfl) <| jE <| jB <| jN ?_
          refine jv <| jX <| jX <| jv <| jX <| jV (.inl rfl) rfl (jJ (v := .bool false) rfl) (List.nil_sublist _) ?_
          refine ⟨cB ?_, rfl⟩
          rw [diskOk_dat]
          exact (diskOkF_slot (f := (fun i => (d.l.getD i o0).t)) hlt (by simp only [slotG, Bool.and_true, Bool.true_and, Bool.and_false, Bool.false_and, Bool.or_true, Bool.true_or, Bool.or_false, Bool.false_or, Bool.not_true, Bool.not_false, ((dT h_4)), (h_8), (h_23), ((dT h_29)), (h_33), (h_34)])).symm
        refine jS (b := false) rfl rfl rfl (cB h_33) <| jS (b := false) rfl rfl rfl (cB h_33) <| jS (b := false) rfl rfl rfl (cB h_33) <| jS (b := false) rfl rfl rfl (cB h_33) <| jS (b := false) rfl rfl rfl (cB h_33) <| kP rfl rfl rfl rfl <| kP rfl rfl rfl rfl <| kP rfl rfl rfl rfl <| kP rfl rfl rfl rfl <| jS (b := false) rfl rfl rfl (cB h_33) ?_
        refine jA (ji (v := .bool false) (cB h_33) rfl) <| jE <| jB <| jR (cB rfl) <| jT <| jm <| jB <| jF <| jA (jc (c := ((j + 1 : Nat) : Int)) he_28 rfl (wr (by omega))) <| jA (jD (v := iv ((j + 1 : Nat) : Int)) rfl) ?_
        refine jE <| kB [1] (A := [bk b_3 31 [.slice d.a d.l.length d.c, str d.jt, iv d.js]]) rfl ?_
        refine jq (d.l.length - (j + 1)) (by omega) ⟨j + 1, by omega, (fun i hi => if h : i = j then h ▸ (by simp only [slotG, Bool.and_true, Bool.true_and, Bool.and_false, Bool.false_and, Bool.or_true, Bool.true_or, Bool.or_false, Bool.false_or, Bool.not_true, Bool.not_false, ((dT h_4)), (h_8), (h_23), ((dT h_29)), (h_33)]) else hN i (by omega)), he_25, he_26, he_27, rfl, rfl, rfl⟩
      refine jR (cB (dF h_29)) <| jx <| jb <| jb <| jy <| jB <| jC <| jF <| jA (jQ fo31_1 he_25) <| jK (jO 0 (vs := [str d.jt, iv d.js]) rfl rfl kp kl rfl rfl) ?_
      refine jH rfl (jI [] Tryz.call75 rfl (Y_implJournalOk d.jt d.js hjl) rfl (fun _ _ => trivial)) ?_
      rintro _ _ ⟨_, ⟨rfl, rfl⟩, rfl⟩
      refine jA (jG (v := .bool (jourOk d.jt d.js)) rfl) <| jE <| jB <| jN <| jV (.inl rfl) rfl (jJ (v := .bool (jourOk d.jt d.js)) rfl) (List.nil_sublist _) ?_
      refine ⟨cB ?_, rfl⟩
      rw [diskOk_dat]
      first | (refine (diskOkF_end (f := (fun i => (d.l.getD i o0).t)) (i := 0) (by omega) (by omega) ?_ (by omega) hN).symm; assumption) | (refine (diskOkF_end (f := (fun i => (d.l.getD i o0).t)) (i := 1) (by omega) (by omega) ?_ (by omega) hN).symm; assumption)
    refine jW (cB (cN h_23)) <| jC <| jF <| jA (jG (v := .bool false) rfl) <| jE <| jB <| jN <| jX <| jV (.inl rfl) rfl (jJ (v := .bool false) rfl) (List.nil_sublist _) ?_
    refine ⟨cB ?_, rfl⟩
    rw [diskOk_dat]
    first | exact (diskOkF_len (by omega)).symm | (refine (diskOkF_none (f := (fun i => (d.l.getD i o0).t)) (by omega) ?_ ?_).symm <;> assumption)
  refine jS (b := true) rfl rfl rfl (cB (cN (dF h_4))) <| jS (b := true) rfl rfl rfl (cB (cN (dF h_4))) <| jS (b := true) rfl rfl rfl (cB (cN (dF h_4))) <| jS (b := true) rfl rfl rfl (cB (cN (dF h_4))) <| jS (b := true) rfl rfl rfl (cB (cN (dF h_4))) <| jS (b := true) rfl rfl rfl (cB (cN (dF h_4))) <| jS (b := true) rfl rfl rfl (cB (cN (dF h_4))) <| kP rfl rfl rfl rfl <| kP rfl rfl rfl rfl <| kP rfl rfl rfl rfl ?_
  refine kP rfl rfl rfl rfl <| kP rfl rfl rfl rfl <| kP rfl rfl rfl rfl <| jS (b := true) rfl rfl rfl (cB (cN (dF h_4))) <| jA (jh (v := .bool true) (cB (cN (dF h_4))) rfl) <| jE <| jB <| jW (cB rfl) <| jC <| jF ?_
  refine jA (jG (v := .bool false) rfl) <| jE <| jB <| jN <| jX <| jV (.inl rfl) rfl (jJ (v := .bool false) rfl) (List.nil_sublist _) ?_
  refine ⟨cB ?_, rfl⟩
  rw [diskOk_dat]
  first | exact (diskOkF_len (by omega)).symm | (refine (diskOkF_none (f := (fun i => (d.l.getD i o0).t)) (by omega) ?_ ?_).symm <;> assumption)

end Go.Proofs.YtjncpgcccgdeiaaGreatDoor

set_option linter.unusedSimpArgs false
set_option linter.unusedVariables false
set_option linter.unnecessarySimpa false
namespace Go.Proofs.YtjncpgcccgdeiaaGreatDoor
open Go Go.RowKit

theorem digit_fin : ∀ d : Fin 16, Lib.Hx.digit d.val = hexFig d.val := by decide +kernel
theorem hexVal_fin : ∀ n : Fin 16, hexVal (hexFig n.val) = some n.val := by decide +kernel
theorem byte_fin : ∀ c : Fin 256, (match hexVal (UInt8.ofNat c.val) with | some n => decide (n < 16) && decide (Lib.Hx.v (UInt8.ofNat c.val) = n) && decide (hexFig n = UInt8.ofNat c.val) | none => true) = true := by decide +kernel
theorem hexVal_some {c : UInt8} {n : Nat} (h : hexVal c = some n) : n < 16 ∧ Lib.Hx.v c = n ∧ hexFig n = c := by
  have := byte_fin ⟨c.toNat, UInt8.toNat_lt c⟩
  rw [show UInt8.ofNat (⟨c.toNat, UInt8.toNat_lt c⟩ : Fin 256).val = c from UInt8.ofNat_toNat] at this
  rw [h] at this
  simp only [Bool.and_eq_true, decide_eq_true_eq] at this
  exact ⟨this.1.1, this.1.2, this.2⟩
theorem encode_hexB : ∀ l : Str, Lib.Hx.encode l = hexB l
  | [] => rfl
  | c :: l => by
    have hc := UInt8.toNat_lt c
    rw [Lib.Hx.encode_cons, hexB, encode_hexB l, digit_fin ⟨c.toNat / 16, by omega⟩, digit_fin ⟨c.toNat % 16, by omega⟩]
theorem unhexL_hexB : ∀ r : Str, unhexL (hexB r) = some r
  | [] => rfl
  | c :: r => by
    have hc := UInt8.toNat_lt c
    rw [hexB, unhexL, hexVal_fin ⟨c.toNat / 16, by omega⟩, hexVal_fin ⟨c.toNat % 16, by omega⟩, unhexL_hexB r]
    simp only
    rw [show 16 * (c.toNat / 16) + c.toNat % 16 = c.toNat by omega, UInt8.ofNat_toNat]
theorem unhexL_dec : ∀ (t r : Str), unhexL t = some r → hexB r = t ∧ Lib.Hx.decode t = (r, .ok)
  | [], r, h => by
    simp only [unhexL, Option.some.injEq] at h
    subst h
    exact ⟨rfl, Lib.Hx.decode_nil⟩
  | [_], r, h => by simp [unhexL] at h
  | a :: b :: t, r, h => by
    unfold unhexL at h
    split at h
    · rename_i hh ll rr h1 h2 h3
      simp only [Option.some.injEq] at h
      subst h
      obtain ⟨i1, i2⟩ := unhexL_dec t rr h3
      obtain ⟨a1, a2, a3⟩ := hexVal_some h1
      obtain ⟨b1, b2, b3⟩ := hexVal_some h2
      have hn : (UInt8.ofNat (16 * hh + ll)).toNat = 16 * hh + ll := UInt8.toNat_ofNat_of_lt' (by show _ < 256; omega)
      refine ⟨?_, ?_⟩
      · rw [hexB, hn, i1, show (16 * hh + ll) / 16 = hh by omega, show (16 * hh + ll) % 16 = ll by omega, a3, b3]
      · rw [Lib.Hx.decode_two, a2, b2, if_neg (by omega), if_neg (by omega), i2, Nat.mul_comm]
    · cases h
theorem unhex_yes {t r : Str} (hd : Lib.Hx.decode t = (r, .ok)) (h1 : ¬ (20000 : Int) < (r.length : Int)) (h2 : hexB r = t) : unhex t = (r, true) := by
  have hl := hexB_len r
  unfold unhex
  rw [if_neg (by rw [← h2, hl]; omega), ← h2, unhexL_hexB]
theorem unhex_err {t : Str} (hd : ∀ r, Lib.Hx.decode t ≠ (r, .ok)) : unhex t = ([], false) := by
  unfold unhex
  split
  · rfl
  · cases h : unhexL t with
    | none => rfl
    | some r => exact absurd (unhexL_dec t r h).2 (hd r)
theorem unhex_long {t r : Str} (hd : Lib.Hx.decode t = (r, .ok)) (h1 : (20000 : Int) < (r.length : Int)) : unhex t = ([], false) := by
  unfold unhex
  split
  · rfl
  · rename_i hl
    cases h : unhexL t with
    | none => rfl
    | some r' =>
      have := unhexL_dec t r' h
      rw [hd] at this
      have e : r = r' := (Prod.mk.inj this.2).1
      subst e
      have := unhexL_len t r h
      omega
theorem unhex_ne {t r : Str} (hd : Lib.Hx.decode t = (r, .ok)) (h1 : ¬ hexB r = t) : unhex t = ([], false) := by
  unfold unhex
  split
  · rfl
  · cases h : unhexL t with
    | none => rfl
    | some r' =>
      have := unhexL_dec t r' h
      rw [hd] at this
      have e : r = r' := (Prod.mk.inj this.2).1
      subst e
      exact absurd this.1 h1
/-- What Hex hands back. -/
def hexP (s : Str) : Str × Bool := if 20000 < (s.length : Int) then ([], false) else (hexB s, true)
theorem hexS_P (s : Str) : hexS s = (hexP s).1 := by
  unfold hexS hexP
  by_cases h : 20000 < s.length
  · rw [if_pos h, if_pos (by omega)]
  · rw [if_neg h, if_neg (by omega)]
theorem hexP_no {s : Str} (h : ¬ (20000 : Int) < (s.length : Int)) : hexP s = (hexB s, true) := by unfold hexP; rw [if_neg h]
theorem hexP_yes {s : Str} (h : (20000 : Int) < (s.length : Int)) : hexP s = ([], false) := by unfold hexP; rw [if_pos h]
end Go.Proofs.YtjncpgcccgdeiaaGreatDoor

set_option linter.unusedSimpArgs false
set_option linter.unusedVariables false
set_option linter.unnecessarySimpa false
namespace Go.Proofs.YtjncpgcccgdeiaaGreatDoor
open Go Go.RowKit

@[reducible] def rB (a : Option Addr) (c : Nat) (l : Str) : Res := .row (.slice a l.length c) 5 1 l.length (l.map encB)
section
variable {P : Program} {ops : Array Oper} {Q : Exit → Act → World → Prop} {n : Nat} {w0 w : World} {D : List Nat} {L : List Res} {e : Env}
variable {d : Option Tmp} {ty : TypeId} {pos : String} {aft : Array Edge} {gd : Option (Nat × Bool)}
/-- A text's bytes, copied into a row of their own. -/
theorem JO.toBytes {src dst : TypeId} {x : Operand} {s : Str} (hs : P.underlying src = some .string) (hd : P.underlying dst = some (.slice TB)) (he : P.underlying TB = some (.int .u8)) (hx : rd n e x = str s) (hm : s.length ≤ maxLen) :
    JO P n w0 D L e ⟨d, .convert src dst x, ty, pos, aft, gd⟩ (fun u L' => ∃ a c, u = .slice a s.length c ∧ L' = .row (.slice a s.length c) TB 1 s.length (s.map encB) :: L) := JO.ofRun fun w hw => by
  have hsz : (ByteArray.mk s.toArray).size = s.length := size_mk s
  have hrun := Lib.run_convert_string_bytes (P := P) w src dst TB ⟨s.toArray⟩ hs hd he
  have hge := grownCap_ge w s.length 0 TB
  have hle := grownCap_le_maxLen w s.length 0 TB hm
  have hcs : (Lib.bytesCells w TB ⟨s.toArray⟩).size = grownCap w s.length 0 TB := by
    unfold Lib.bytesCells
    rw [hsz]
    simp
    omega
  have hcl : (Lib.bytesCells w TB ⟨s.toArray⟩).toList.take s.length = s.map encB := by
    unfold Lib.bytesCells
    simp only [Array.toList_append, Array.toList_map]
    rw [List.take_append_of_le_length (by simp), List.take_of_length_le (by simp)]
  refine ⟨_, .row (.slice (some ⟨w.heap.size, 0, none⟩) s.length (grownCap w s.length 0 TB)) TB 1 s.length (s.map encB) :: L, Lib.bytesWorld w TB ⟨s.toArray⟩, ?_, ⟨_, _, rfl, rfl⟩, ?_⟩
  · simp only [execOp, hx, str, Sem.run_bind, hrun, Result.andThen_ok, hsz]
    rfl
  · refine hw.turn (A := []) (A' := [.row (.slice (some ⟨w.heap.size, 0, none⟩) s.length (grownCap w s.length 0 TB)) TB 1 s.length (s.map encB)]) (F := L) (List.Perm.refl _) rfl rfl rfl (by rw [Lib.bytesWorld_size]; omega)
      (fun k hk _ => Lib.bytesWorld_at_old w _ _ k hk) ?_ (by simp [idsOf, Res.ids, Value.ownBlock]) ?_
    · intro r hr
      simp only [List.mem_singleton] at hr
      subst hr
      refine ⟨by simp, .inr ⟨w.heap.size, _, _, rfl, Nat.zero_le _, ⟨_, Lib.bytesWorld_at_new w TB ⟨s.toArray⟩, .inr ⟨Nat.le_refl _, rfl⟩⟩, hge, hle, by rw [hcs, Nat.mul_one]; exact Nat.le_refl _, by rw [Nat.mul_one]; exact hcl⟩⟩
    · intro i hi
      simp only [idsOf, Res.ids, Value.ownBlock, List.flatMap_cons, List.flatMap_nil, List.append_nil, Option.mem_toList, Option.some.injEq] at hi
      exact .inr (by omega)
end

theorem N_hexEnc (a : Option Addr) (c : Nat) (l : Str) (hl : l.length ≤ 1000000000000) : Ct Tryz.prog 148 [.slice a l.length c] [] (fun w => Sees w (.slice a l.length c) 1 l.length (l.map encB)) (fun v A' => v = str (hexB l) ∧ A' = []) := fun w hA hs => by
  obtain ⟨hlen, hs⟩ := hs
  rcases hs with ⟨hv, h0⟩ | ⟨b, o, cap, hv, h1, h2, h3, h4⟩
  · have hl0 : l = [] := List.length_eq_zero_iff.1 h0
    subst hl0
    simp only [Value.slice.injEq] at hv
    obtain ⟨rfl, _, rfl⟩ := hv
    refine (Tryz.hex_EncodeToString_nil w).mono fun e w' h => ?_
    obtain ⟨rfl, hb⟩ := h
    exact ⟨_, [], rfl, ⟨rfl, rfl⟩, hA.below hb⟩
  · simp only [Value.slice.injEq] at hv
    obtain ⟨rfl, _, rfl⟩ := hv
    refine (Tryz.hex_EncodeToString_bytes b o c l w (fun i hi => ?_) h3 (by omega)).mono fun e w' h => ?_
    · exact h4 i _ (by rw [List.getElem?_map, List.getElem?_eq_getElem hi]; rfl)
    · obtain ⟨rfl, hb⟩ := h
      exact ⟨_, [], rfl, ⟨by rw [encode_hexB]; rfl, rfl⟩, hA.below hb⟩
/-- What DecodeString hands back. -/
def decPost (t : Str) (v : Value) (A' : List Res) : Prop := ∃ a c, ∃ r : Str, ((Lib.Hx.decode t = (r, .ok) ∧ v = .tuple #[.slice a r.length c, .nilIface]) ∨ ((∀ r, Lib.Hx.decode t ≠ (r, .ok)) ∧ ∃ te pe, v = .tuple #[.slice a r.length c, .iface te pe])) ∧ A' = [rB a c r]
theorem N_hexDec (t : Str) (ht : t.length ≤ 1000000000000) : Ct Tryz.prog 147 [str t] [] (fun w => HexOk w) (fun v A' => decPost t v A') := fun w hA hx => by
  obtain ⟨tp, p, hE⟩ := hx.cell
  have hl : (ByteArray.mk t.toArray).data.toList = t := by simp
  refine (Tryz.hex_DecodeString_owns ⟨t.toArray⟩ w _ hE (by rw [size_mk]; omega)).mono fun e w' h => ?_
  rw [hl] at h
  obtain ⟨v, rfl, hown, hb⟩ := h
  generalize hd : Lib.Hx.decode t = q at hown
  obtain ⟨r, o⟩ := q
  simp only at hown
  have hvs : ∃ a c, v = .slice a r.length c := by
    rcases hown.2 with ⟨hv, h0⟩ | ⟨g, cap, cur, hv, _⟩
    · exact ⟨none, 0, by rw [hv, h0]⟩
    · exact ⟨_, _, hv⟩
  obtain ⟨a, c, rfl⟩ := hvs
  have hst : St w (idsOf []) [rB a c r] w' := by
    refine (St.start hA).turn (A := []) (A' := [rB a c r]) (F := []) (List.Perm.refl _) hb.os hb.tape hb.output hb.size (fun k hk _ => hb.block k hk) ?_ ?_ ?_
    · intro x hx'
      simp only [List.mem_singleton] at hx'
      subst hx'
      have h1 := World.ownsR.of hown
      refine ⟨h1.1, ?_⟩
      rcases h1.2 with h | ⟨g, cap, cur, hv, _, rest⟩
      · exact .inl h
      · exact .inr ⟨g, cap, cur, hv, Nat.zero_le _, rest⟩
    · simp only [idsOf, Res.ids, List.flatMap_cons, List.flatMap_nil, List.append_nil]
      cases (Value.slice a r.length c).ownBlock <;> simp
    · intro i hi
      simp only [idsOf, Res.ids, List.flatMap_cons, List.flatMap_nil, List.append_nil, Option.mem_toList] at hi
      exact .inr (World.ownsRow.lt hown i hi).1
  refine ⟨_, _, rfl, ⟨a, c, r, ?_, rfl⟩, hst⟩
  cases o with
  | ok => exact .inl ⟨hd, rfl⟩
  | bad q => exact .inr ⟨fun r' h => by rw [hd] at h; simp at h, _, _, rfl⟩
  | odd => exact .inr ⟨fun r' h => by rw [hd] at h; simp at h, _, _, rfl⟩
end Go.Proofs.YtjncpgcccgdeiaaGreatDoor

set_option linter.unusedSimpArgs false
set_option linter.unusedVariables false
set_option linter.unnecessarySimpa false
namespace Go.Proofs.YtjncpgcccgdeiaaGreatDoor
open Go Go.RowKit

theorem C_itoa (n : Int) (h0 : -9223372036854775808 ≤ n) (h1 : n ≤ 9223372036854775807) : Ct Tryz.prog 83 [.int .i64 n] [] (fun _ => True) (fun v A' => v = str (dec n) ∧ A' = []) := fun w hA _ => by
  refine (Tryz.strconv_Itoa n h0 h1 w hA.glob.1).mono fun e w' h => ?_
  obtain ⟨rfl, k, os, rfl⟩ := h
  exact ⟨_, [], rfl, ⟨rfl, rfl⟩, hA.below (below_grow w k os)⟩

/-- What Atoi says. -/
def atoiPost (t : Str) (v : Value) : Prop := (∃ n, Lib.atoiAll t = .ok n ∧ v = .tuple #[.int .i64 n, .nilIface]) ∨ ((∀ n, Lib.atoiAll t ≠ .ok n) ∧ ∃ n te pe, v = .tuple #[.int .i64 n, .iface te pe])
theorem C_atoi (t : Str) (ht : t.length ≤ 281474976710656) : Ct Tryz.prog 145 [str t] [] (fun _ => True) (fun v A' => atoiPost t v ∧ A' = []) := fun w hA _ => by
  have hs : (ByteArray.mk t.toArray).size = t.length := size_mk t
  have hl : (ByteArray.mk t.toArray).data.toList = t := by simp
  obtain ⟨tp, p, hv1⟩ := hA.glob.two
  obtain ⟨tp', p', hv2⟩ := hA.glob.three
  rcases hat : Lib.atoiAll t with n | _ | _
  · skip
    refine (Tryz.strconv_Atoi_ok ⟨t.toArray⟩ (by rw [hs]; omega) n (by rw [hl]; exact hat) w).mono fun e w' h => ?_
    obtain ⟨rfl, h⟩ := h
    have hb : Below w.heap.size w w' := by
      rcases h with rfl | ⟨q, rfl⟩
      · exact Below.refl _ _
      · exact ⟨rfl, rfl, rfl, by rw [Lib.bytesWorld_size]; omega, fun k hk => Lib.bytesWorld_at_old w _ _ k hk⟩
    exact ⟨_, [], rfl, ⟨.inl ⟨n, hat, rfl⟩, rfl⟩, hA.below hb⟩
  · skip
    refine (Any.strconv_Atoi_syntax_var Tryz.laysC172 ⟨t.toArray⟩ (by rw [hs]; omega) (by rw [hl]; exact hat) tp p w hv1).mono fun e w' h => ?_
    obtain ⟨N, rfl, _, _, hb⟩ := h
    exact ⟨_, [], rfl, ⟨.inr ⟨fun n hn => by rw [hat] at hn; simp at hn, _, _, _, rfl⟩, rfl⟩, hA.below hb⟩
  · skip
    refine (Tryz.strconv_Atoi_range_var ⟨t.toArray⟩ (by rw [hs]; omega) (by rw [hl]; exact hat) tp' p' w hv2).mono fun e w' h => ?_
    obtain ⟨N, rfl, _, _, hb⟩ := h
    exact ⟨_, [], rfl, ⟨.inr ⟨fun n hn => by rw [hat] at hn; simp at hn, _, _, _, rfl⟩, rfl⟩, hA.below hb⟩
end Go.Proofs.YtjncpgcccgdeiaaGreatDoor

set_option linter.unusedSimpArgs false
set_option linter.unusedVariables false
set_option linter.unnecessarySimpa false
namespace Go.Proofs.YtjncpgcccgdeiaaGreatDoor
open Go Go.RowKit
attribute [local irreducible] JL JC JQ JO LO PO JA JX Ct

theorem C_within (n lo hi : Int) :
    Ct Tryz.prog 76 [.int .i64 n, .int .i64 lo, .int .i64 hi] [] (fun _ => True) (fun v A' => v = .bool (decide (lo ≤ n) && decide (n ≤ hi)) ∧ A' = []) := by
  refine Ct.intro Tryz.func76 rfl Tryz.ntmps76 (lb rfl) fun w0 hpre => ?_
  refine jC <| jF <| jA (jG (v := .bool false) rfl) <| jE <| jB <| jC <| jF <| jA (jD (v := iv n) rfl) <| jA (jD (v := iv lo) rfl) <| jA (PO.geq rfl rfl) ?_
  refine jA (jD (v := .bool (decide (lo ≤ n))) rfl) ?_
  by_cases h_1 : lo ≤ n
  · refine jM rfl rfl rfl (cB (dT h_1)) (jP (jU (jD (v := iv n) rfl))) ?_
    rintro _ _ ⟨rfl, rfl⟩
    refine jM rfl rfl rfl (cB (dT h_1)) (jP (jU (jD (v := iv hi) rfl))) ?_
    rintro _ _ ⟨rfl, rfl⟩
    refine jM rfl rfl rfl (cB (dT h_1)) (jP (jU (PO.leq rfl rfl))) ?_
    rintro _ _ ⟨rfl, rfl⟩
    refine jA (jh (v := .bool (decide (n ≤ hi))) (cB (dT h_1)) rfl) <| jA (jG (v := .bool (decide (n ≤ hi))) rfl) <| jE <| jB <| jN <| jV (.inl rfl) rfl (jJ (v := .bool (decide (n ≤ hi))) rfl) (List.nil_sublist _) ?_
    refine ⟨?_, rfl⟩
    simp_all <;> omega
  refine jS (b := false) rfl rfl rfl (cB (dF h_1)) <| jS (b := false) rfl rfl rfl (cB (dF h_1)) <| jS (b := false) rfl rfl rfl (cB (dF h_1)) <| jA (ji (v := .bool false) (cB (dF h_1)) rfl) <| jA (jG (v := .bool false) rfl) <| jE <| jB <| jN <| jV (.inl rfl) rfl (jJ (v := .bool false) rfl) (List.nil_sublist _) ?_
  refine ⟨?_, rfl⟩
  simp_all <;> omega

theorem C_keyOk (key : Str) (hk : key.length ≤ 1000000000000) :
    Ct Tryz.prog 78 [str key] [] (fun _ => True) (fun v A' => v = .bool (keyOk key) ∧ A' = []) := by
  refine Ct.intro Tryz.func78 rfl Tryz.ntmps78 (lb rfl) fun w0 hpre => ?_
  refine jC <| jF <| jA (jG (v := .bool false) rfl) <| jE <| jB <| jC <| jC <| jF <| jA (jD (v := str key) rfl) <| jA (kF kg rfl) ?_
  refine jA (jD (v := iv 0) rfl) <| jE <| jB <| jf <| kD (fun k_ e_ L_ => ∃ j : Nat, (j ≤ key.length) ∧ (∀ i, i < j → i < key.length → keyByte (key.getD i 0) = true) ∧ e_ 0 = str key ∧ e_ 5 = iv (key.length : Int) ∧ e_ 6 = nv j ∧ L_ = [] ∧ k_ = key.length - j) _ ⟨0, by omega, (fun i hi => absurd hi (Nat.not_lt_zero i)), rfl, rfl, rfl, rfl, rfl⟩ ?_
  rintro _ e_1 _ ⟨j, hj, hN, he_2, he_3, he_4, rfl, rfl⟩
  refine jC <| jF <| jA (jl he_4 he_3) <| jE <| jB <| jC ?_
  by_cases h_5 : ((j : Nat) : Int) < (key.length : Int)
  · refine jW (cB (dT h_5)) <| jT <| jB <| jC <| jf <| jC <| jF <| jA (jD (v := nv j) he_4) <| jA (jG (v := nv j) rfl) <| jE ?_
    refine jB <| jC <| jF <| jA (jD (v := str key) he_2) <| jA (jD (v := nv j) rfl) <| jA (PO.indexS (i := j) (c := key.getD j 0) kg rfl rfl (getD_some (by omega))) ?_
    have hu_6 := UInt8.toNat_lt (key.getD j 0)
    refine jA (jl rfl rfl) <| jA (jD (v := .bool (decide (((key.getD j 0).toNat : Int) < 33))) rfl) ?_
    by_cases h_7 : ((key.getD j 0).toNat : Int) < 33
    · refine jS (b := true) rfl rfl rfl (cB (dT h_7)) <| jS (b := true) rfl rfl rfl (cB (dT h_7)) <| jS (b := true) rfl rfl rfl (cB (dT h_7)) <| jS (b := true) rfl rfl rfl (cB (dT h_7)) <| jA (jh (v := .bool true) (cB (dT h_7)) rfl) <| jA (jD (v := .bool true) rfl) <| jS (b := true) rfl rfl rfl (cB rfl) <| jS (b := true) rfl rfl rfl (cB rfl) <| jS (b := true) rfl rfl rfl (cB rfl) <| jS (b := true) rfl rfl rfl (cB rfl) ?_
      refine jA (jh (v := .bool true) (cB rfl) rfl) <| jE <| jB <| jW (cB rfl) <| jC <| jF <| jA (jG (v := .bool false) rfl) <| jE <| jB <| jN ?_
      refine jv <| jX <| jX <| jv <| jX <| jV (.inl rfl) rfl (jJ (v := .bool false) rfl) (List.nil_sublist _) ?_
      refine ⟨?_, rfl⟩
      rw [keyOk_bad (j := j) (by omega) (by simp only [keyByte, Bool.and_eq_true, Bool.and_eq_false_iff, decide_eq_true_eq, decide_eq_false_iff_not, Bool.not_eq_true', Bool.not_eq_false']; omega)]
    refine jM rfl rfl rfl (cB (dF h_7)) (jP (jU (jD (v := str key) he_2))) ?_
    rintro _ _ ⟨rfl, rfl⟩
    refine jM rfl rfl rfl (cB (dF h_7)) (jP (jU (jD (v := nv j) rfl))) ?_
    rintro _ _ ⟨rfl, rfl⟩
    refine jM rfl rfl rfl (cB (dF h_7)) (jP (jU (PO.indexS (i := j) (c := key.getD j 0) kg rfl rfl (getD_some (by omega))))) ?_
    rintro _ _ ⟨rfl, rfl⟩
    have hu_8 := UInt8.toNat_lt (key.getD j 0)
    refine jM rfl rfl rfl (cB (dF h_7)) (jP (jU (kR rfl rfl))) ?_
    rintro _ _ ⟨rfl, rfl⟩
    refine jA (ji (v := .bool (decide (126 < ((key.getD j 0).toNat : Int)))) (cB (dF h_7)) rfl) <| jA (jD (v := .bool (decide (126 < ((key.getD j 0).toNat : Int)))) rfl) ?_
    by_cases h_9 : 126 < ((key.getD j 0).toNat : Int)
    · refine jS (b := true) rfl rfl rfl (cB (dT h_9)) <| jS (b := true) rfl rfl rfl (cB (dT h_9)) <| jS (b := true) rfl rfl rfl (cB (dT h_9)) <| jS (b := true) rfl rfl rfl (cB (dT h_9)) <| jA (jh (v := .bool true) (cB (dT h_9)) rfl) <| jE <| jB <| jW (cB rfl) <| jC <| jF ?_
      refine jA (jG (v := .bool false) rfl) <| jE <| jB <| jN <| jv <| jX <| jX <| jv <| jX <| jV (.inl rfl) rfl (jJ (v := .bool false) rfl) (List.nil_sublist _) ?_
      refine ⟨?_, rfl⟩
      rw [keyOk_bad (j := j) (by omega) (by simp only [keyByte, Bool.and_eq_true, Bool.and_eq_false_iff, decide_eq_true_eq, decide_eq_false_iff_not, Bool.not_eq_true', Bool.not_eq_false']; omega)]
    refine jM rfl rfl rfl (cB (dF h_9)) (jP (jU (jD (v := str key) he_2))) ?_
    rintro _ _ ⟨rfl, rfl⟩
    refine jM rfl rfl rfl (cB (dF h_9)) (jP (jU (jD (v := nv j) rfl))) ?_
    rintro _ _ ⟨rfl, rfl⟩
    refine jM rfl rfl rfl (cB (dF h_9)) (jP (jU (PO.indexS (i := j) (c := key.getD j 0) kg rfl rfl (getD_some (by omega))))) ?_
    rintro _ _ ⟨rfl, rfl⟩
    have hu_10 := UInt8.toNat_lt (key.getD j 0)
    refine jM rfl rfl rfl (cB (dF h_9)) (jP (jU (kO rfl rfl))) ?_
    rintro _ _ ⟨rfl, rfl⟩
    refine jA (ji (v := .bool (decide (((key.getD j 0).toNat : Int) = 42))) (cB (dF h_9)) rfl) <| jE <| jB ?_
    by_cases h_11 : ((key.getD j 0).toNat : Int) = 42
    · refine jW (cB (dT h_11)) <| jC <| jF <| jA (jG (v := .bool false) rfl) <| jE <| jB <| jN <| jv <| jX <| jX ?_
      refine jv <| jX <| jV (.inl rfl) rfl (jJ (v := .bool false) rfl) (List.nil_sublist _) ?_
      refine ⟨?_, rfl⟩
      rw [keyOk_bad (j := j) (by omega) (by simp only [keyByte, Bool.and_eq_true, Bool.and_eq_false_iff, decide_eq_true_eq, decide_eq_false_iff_not, Bool.not_eq_true', Bool.not_eq_false']; omega)]
    refine jR (cB (dF h_11)) <| jT <| jm <| jB <| jF <| jA (jc (c := ((j + 1 : Nat) : Int)) he_4 rfl (wr (by omega))) <| jA (jD (v := iv ((j + 1 : Nat) : Int)) rfl) <| jE ?_
    refine jq (key.length - (j + 1)) (by omega) ⟨j + 1, by omega, (fun i hi hl => if h : i = j then h ▸ (by simp only [keyByte, Bool.and_eq_true, Bool.and_eq_false_iff, decide_eq_true_eq, decide_eq_false_iff_not, Bool.not_eq_true', Bool.not_eq_false']; omega : keyByte (key.getD j 0) = true) else hN i (by omega) hl), he_2, he_3, rfl, rfl, rfl⟩
  refine jR (cB (dF h_5)) <| jx <| jb <| jb <| jy <| jB <| jC <| jF <| jA (jD (v := str key) he_2) <| jA (kF kg rfl) ?_
  refine jH rfl (jI [] Tryz.call76 rfl (C_within (key.length : Int) 1 40) rfl (fun _ _ => trivial)) ?_
  rintro _ _ ⟨_, ⟨rfl, rfl⟩, rfl⟩
  refine jA (jG (v := .bool (decide (1 ≤ (key.length : Int)) && decide ((key.length : Int) ≤ 40))) rfl) <| jE <| jB <| jN <| jV (.inl rfl) rfl (jJ (v := .bool (decide (1 ≤ (key.length : Int)) && decide ((key.length : Int) ≤ 40))) rfl) (List.nil_sublist _) ?_
  refine ⟨?_, rfl⟩
  rw [keyOk_good (j := j) (by omega) hN]
  exact cB (by congr 1 <;> exact decide_eq_decide.2 (by omega))

theorem C_cellAt1 (kb : Nat) (key : Str) (x : Cell) :
    Ct Tryz.prog 129 [.agg #[str x.1, str x.2], .pointer (some ⟨kb, 0, none⟩)] [bk kb 9 [str key]] (fun _ => True) (fun v A' => v = .bool (decide (x.1 = key)) ∧ A' = [bk kb 9 [str key]]) := by
  refine Ct.intro Tryz.func129 rfl Tryz.ntmps129 (lb rfl) fun w0 hpre => ?_
  refine jC <| jF ?_
  refine jH rfl (kG (cs := [str x.1, str x.2]) rfl rfl) ?_
  rintro _ _ ⟨b_1, rfl, rfl⟩
  refine jA (jG (v := .bool false) rfl) <| jE <| jB <| jC <| jF <| jA (jQ fo48_0 rfl) <| jK (jZ 0 (v := str x.1) rfl rfl ki rfl) <| jK (jZ 1 (v := str key) rfl rfl ki rfl) <| jA (PO.eqlS rfl rfl) <| jA (jG (v := .bool (decide (x.1 = key))) rfl) ?_
  refine jE <| jB <| jN <| kM (pick_perm [1] (A := [bk kb 9 [str key]]) (F := [bk b_1 48 [str x.1, str x.2]]) rfl).symm <| jV (.inl rfl) rfl (jJ (v := .bool (decide (x.1 = key))) rfl) (sL [bk kb 9 [str key]] [bk b_1 48 [str x.1, str x.2]]) ?_
  exact ⟨rfl, rfl⟩

theorem C_put1 (kb : Nat) (key : Str) (x : Cell) :
    Ct Tryz.prog 125 [.agg #[str x.1, str x.2], .pointer (some ⟨kb, 0, none⟩)] [bk kb 9 [str key]] (fun _ => True) (fun v A' => v = .bool (decide (x.1 = key)) ∧ A' = [bk kb 9 [str key]]) := by
  refine Ct.intro Tryz.func125 rfl Tryz.ntmps125 (lb rfl) fun w0 hpre => ?_
  refine jC <| jF ?_
  refine jH rfl (kG (cs := [str x.1, str x.2]) rfl rfl) ?_
  rintro _ _ ⟨b_1, rfl, rfl⟩
  refine jA (jG (v := .bool false) rfl) <| jE <| jB <| jC <| jF <| jA (jQ fo48_0 rfl) <| jK (jZ 0 (v := str x.1) rfl rfl ki rfl) <| jK (jZ 1 (v := str key) rfl rfl ki rfl) <| jA (PO.eqlS rfl rfl) <| jA (jG (v := .bool (decide (x.1 = key))) rfl) ?_
  refine jE <| jB <| jN <| kM (pick_perm [1] (A := [bk kb 9 [str key]]) (F := [bk b_1 48 [str x.1, str x.2]]) rfl).symm <| jV (.inl rfl) rfl (jJ (v := .bool (decide (x.1 = key))) rfl) (sL [bk kb 9 [str key]] [bk b_1 48 [str x.1, str x.2]]) ?_
  exact ⟨rfl, rfl⟩

theorem C_put2 (kb : Nat) (key : Str) (x : Cell) :
    Ct Tryz.prog 127 [.agg #[str x.1, str x.2], .pointer (some ⟨kb, 0, none⟩)] [bk kb 9 [str key]] (fun _ => True) (fun v A' => v = .bool (gtrB x.1 key) ∧ A' = [bk kb 9 [str key]]) := by
  refine Ct.intro Tryz.func127 rfl Tryz.ntmps127 (lb rfl) fun w0 hpre => ?_
  refine jC <| jF ?_
  refine jH rfl (kG (cs := [str x.1, str x.2]) rfl rfl) ?_
  rintro _ _ ⟨b_1, rfl, rfl⟩
  refine jA (jG (v := .bool false) rfl) <| jE <| jB <| jC <| jF <| jA (jQ fo48_0 rfl) <| jK (jZ 0 (v := str x.1) rfl rfl ki rfl) <| jK (jZ 1 (v := str key) rfl rfl ki rfl) <| jA (PO.gtrS rfl rfl) <| jA (jG (v := .bool (!Op.bytesLess x.1 key && !decide (x.1 = key))) rfl) ?_
  refine jE <| jB <| jN <| kM (pick_perm [1] (A := [bk kb 9 [str key]]) (F := [bk b_1 48 [str x.1, str x.2]]) rfl).symm <| jV (.inl rfl) rfl (jJ (v := .bool (!Op.bytesLess x.1 key && !decide (x.1 = key))) rfl) (sL [bk kb 9 [str key]] [bk b_1 48 [str x.1, str x.2]]) ?_
  exact ⟨rfl, rfl⟩


theorem C_cellAt (a : Option Addr) (c : Nat) (s : List Cell) (key : Str) (hn : s.length ≤ 1000000000000) :
    Ct Tryz.prog 87 [.slice a s.length c, str key] [] (fun w_ => Sees w_ (.slice a s.length c) 2 s.length (s.flatMap encC)) (fun v A' => v = .int .i64 (idxI (fun q_ => decide (q_.1 = key)) s) ∧ A' = []) := by
  refine Ct.intro Tryz.func87 rfl Tryz.ntmps87 (lb rfl) fun w0 hpre => ?_
  have hs_a : Sees w0 _ _ _ _ := hpre
  refine jC <| jF ?_
  refine jH rfl (kG (cs := [str key]) rfl rfl) ?_
  rintro _ _ ⟨b_1, rfl, rfl⟩
  refine jA (jG (v := iv 0) rfl) <| jE <| jB <| jC <| jF <| jA (jD (v := .slice a s.length c) rfl) <| jA (PO.makeFunc (fv := []) (cv := [.pointer (some ⟨b_1, 0, none⟩)]) rfl rfl) ?_
  refine jH rfl (jI [0] Tryz.call126 rfl (C_idxC 129 Tryz.call129 b_1 key (fun q_ => decide (q_.1 = key)) (C_cellAt1 b_1 key) a c s (by omega)) rfl (fun w hw => ⟨hw.seeOut_ hs_a nM, hw.apartF 0 hs_a rfl List.not_mem_nil⟩)) ?_
  rintro _ _ ⟨_, ⟨rfl, rfl⟩, rfl⟩
  have hix1 := idxI_lo (fun q_ => decide (q_.1 = key)) s
  have hfl1 := findAt_le (fun q_ => decide (q_.1 = key)) s
  refine jA (jG (v := iv (idxI (fun q_ => decide (q_.1 = key)) s)) rfl) <| jE <| jB <| jN <| jV (.inl rfl) rfl (jJ (v := iv (idxI (fun q_ => decide (q_.1 = key)) s)) rfl) (List.nil_sublist _) ?_
  exact ⟨rfl, rfl⟩

theorem C_getKey (a : Option Addr) (c : Nat) (s : List Cell) (key : Str) (hn : s.length ≤ 1000000000000) :
    Ct Tryz.prog 35 [.slice a s.length c, str key] [] (fun w_ => Sees w_ (.slice a s.length c) 2 s.length (s.flatMap encC)) (fun v A' => v = str (getKey s key) ∧ A' = []) := by
  refine Ct.intro Tryz.func35 rfl Tryz.ntmps35 (lb rfl) fun w0 hpre => ?_
  have hs_a : Sees w0 _ _ _ _ := hpre
  refine jC <| jF <| jA (jG (v := str []) rfl) <| jE <| jB <| jC <| jC <| jF <| jA (jD (v := .slice a s.length c) rfl) <| jA (jD (v := str key) rfl) ?_
  refine jH rfl (jI [] Tryz.call87 rfl (C_cellAt a c s key (by omega)) rfl (fun w hw => hw.seeOut_ hs_a nM)) ?_
  rintro _ _ ⟨_, ⟨rfl, rfl⟩, rfl⟩
  have hix0 := idxI_lo (fun q_ => decide (q_.1 = key)) s
  have hfl0 := findAt_le (fun q_ => decide (q_.1 = key)) s
  refine jA (jG (v := iv (idxI (fun q_ => decide (q_.1 = key)) s)) rfl) <| jE <| jB <| jC <| jF <| jA (jD (v := iv (idxI (fun q_ => decide (q_.1 = key)) s)) rfl) <| jA (PO.geq rfl rfl) <| jE <| jB ?_
  by_cases h_1 : 0 ≤ (idxI (fun q_ => decide (q_.1 = key)) s)
  · have hx_2l : findAt (fun q_ => decide (q_.1 = key)) s < s.length := by omega
    have hx_2e : idxI (fun q_ => decide (q_.1 = key)) s = ((findAt (fun q_ => decide (q_.1 = key)) s : Nat) : Int) := by omega
    refine jW (cB (dT h_1)) <| jC <| jF <| jA (jD (v := .slice a s.length c) rfl) <| jA (jD (v := iv ((findAt (fun q_ => decide (q_.1 = key)) s : Nat) : Int)) (congrArg (Value.int .i64) hx_2e)) ?_
    obtain ⟨hr_3, hr_3b, -⟩ := sees_some hs_a (by omega)
    refine jA (jk (i := (findAt (fun q_ => decide (q_.1 = key)) s)) kf kh hr_3 hr_3b rfl rfl (by omega)) <| jA (kL fo48_1 hr_3 rfl) <| jK (kY (v := str ((s.getD (findAt (fun q_ => decide (q_.1 = key)) s) c0).2)) hs_a nM rfl ki (atC2 (by omega))) <| jA (jG (v := str ((s.getD (findAt (fun q_ => decide (q_.1 = key)) s) c0).2)) rfl) <| jE <| jB <| jN <| jX <| jV (.inl rfl) rfl (jJ (v := str ((s.getD (findAt (fun q_ => decide (q_.1 = key)) s) c0).2)) rfl) (List.nil_sublist _) ?_
    refine ⟨?_, rfl⟩
    rw [getKey_found hx_2l]
  have hx_4l : findAt (fun q_ => decide (q_.1 = key)) s = s.length := by omega
  refine jR (cB (dF h_1)) <| jT <| jB <| jC <| jF <| jA (jG (v := str []) rfl) <| jE <| jB <| jN <| jV (.inl rfl) rfl (jJ (v := str []) rfl) (List.nil_sublist _) ?_
  refine ⟨?_, rfl⟩
  rw [getKey_none hx_4l]


theorem C_put (a : Option Addr) (c : Nat) (s : List Cell) (key val : Str) (hn : s.length ≤ 100000000000) (hk : key.length ≤ 1000000000000) :
    Ct Tryz.prog 86 [.slice a s.length c, str key, str val] [Res.row (.slice a s.length c) 48 2 s.length (s.flatMap encC)] (fun _ => True) (fun v A' => ∃ a' c', v = .slice a' (putKey s key val).length c' ∧ A' = [.row (.slice a' (putKey s key val).length c') 48 2 (putKey s key val).length ((putKey s key val).flatMap encC)]) := by
  refine Ct.intro Tryz.func86 rfl Tryz.ntmps86 (lb rfl) fun w0 hpre => ?_
  refine jC <| jF ?_
  refine jH rfl (kG (cs := [str key]) rfl rfl) ?_
  rintro _ _ ⟨b_1, rfl, rfl⟩
  refine jA (jG (v := .slice none 0 0) rfl) <| jE <| jB <| jC <| jC <| jF <| jK (jZ 0 (v := str key) rfl rfl ki rfl) ?_
  refine jH rfl (jI [] Tryz.call78 rfl (C_keyOk key (by omega)) rfl (fun _ _ => trivial)) ?_
  rintro _ _ ⟨_, ⟨rfl, rfl⟩, rfl⟩
  refine jA (jp rfl) <| jA (jD (v := .bool (!(keyOk key))) rfl) ?_
  rcases Bool.eq_false_or_eq_true (keyOk key) with h_2 | h_2
  · refine jM rfl rfl rfl (cB (cN h_2)) (jP (jU (jD (v := str val) rfl))) ?_
    rintro _ _ ⟨rfl, rfl⟩
    refine jM rfl rfl rfl (cB (cN h_2)) (jP (jU (kF kg rfl))) ?_
    rintro _ _ ⟨rfl, rfl⟩
    refine jM rfl rfl rfl (cB (cN h_2)) (jP (jU (kR rfl rfl))) ?_
    rintro _ _ ⟨rfl, rfl⟩
    refine jA (ji (v := .bool (decide (60 < (val.length : Int)))) (cB (cN h_2)) rfl) <| jE <| jB ?_
    by_cases h_3 : 60 < (val.length : Int)
    · refine jW (cB (dT h_3)) <| jC <| jF <| jA (jD (v := .slice a s.length c) rfl) <| jA (jG (v := .slice a s.length c) rfl) <| jE <| jB <| jN <| jX <| kM (pick_perm [1] (A := [Res.row (.slice a s.length c) 48 2 s.length (s.flatMap encC)]) (F := [bk b_1 9 [str key]]) rfl).symm ?_
      refine jV (.inl rfl) rfl (jJ (v := .slice a s.length c) rfl) (sL [Res.row (.slice a s.length c) 48 2 s.length (s.flatMap encC)] [bk b_1 9 [str key]]) ?_
      have he := (putKey_bad2 (by omega) : putKey s key val = _)
      exact ⟨_, _, by rw [he], by rw [he] <;> rfl⟩
    refine jR (cB (dF h_3)) <| jT <| jB <| jC <| jF <| jA (jD (v := .slice a s.length c) rfl) <| jA (PO.makeFunc (fv := []) (cv := [.pointer (some ⟨b_1, 0, none⟩)]) rfl rfl) ?_
    refine jH rfl (jI [0, 0] Tryz.call124 rfl (C_delC 125 Tryz.call125 b_1 key (fun q_ => decide (q_.1 = key)) (C_put1 b_1 key) a c s (by omega)) rfl (fun _ _ => trivial)) ?_
    rintro _ _ ⟨_, ⟨a_4, c_5, rfl, rfl⟩, rfl⟩
    have hfi5 : (s.filter (fun c => !decide (c.1 = key))).length ≤ s.length := List.length_filter_le _ _
    refine jA (jG (v := .slice a_4 ((s.filter (fun c => !decide (c.1 = key))).length) c_5) rfl) <| jE <| jB <| jC <| jC <| jF <| jA (jD (v := str val) rfl) <| jA (PO.eqlS rfl rfl) <| jE <| jB ?_
    by_cases h_6 : val = []
    · refine jW (cB (dT h_6)) <| jC <| jF <| jA (jD (v := .slice a_4 ((s.filter (fun c => !decide (c.1 = key))).length) c_5) rfl) <| jA (jG (v := .slice a_4 ((s.filter (fun c => !decide (c.1 = key))).length) c_5) rfl) <| jE <| jB <| jN <| jX <| kM (pick_perm [1] (A := [Res.row (.slice a_4 ((s.filter (fun c => !decide (c.1 = key))).length) c_5) 48 2 ((s.filter (fun c => !decide (c.1 = key))).length) ((s.filter (fun c => !decide (c.1 = key))).flatMap encC)]) (F := [bk b_1 9 [str key]]) rfl).symm ?_
      refine jV (.inl rfl) rfl (jJ (v := .slice a_4 ((s.filter (fun c => !decide (c.1 = key))).length) c_5) rfl) (sL [Res.row (.slice a_4 ((s.filter (fun c => !decide (c.1 = key))).length) c_5) 48 2 ((s.filter (fun c => !decide (c.1 = key))).length) ((s.filter (fun c => !decide (c.1 = key))).flatMap encC)] [bk b_1 9 [str key]]) ?_
      have he := (putKey_nil h_2 (by omega) h_6 : putKey s key val = _)
      exact ⟨_, _, by rw [he], by rw [he] <;> rfl⟩
    refine jR (cB (dF h_6)) <| jT <| jB <| jC <| jF <| jA (jD (v := .slice a_4 ((s.filter (fun c => !decide (c.1 = key))).length) c_5) rfl) <| jA (PO.makeFunc (fv := []) (cv := [.pointer (some ⟨b_1, 0, none⟩)]) rfl rfl) ?_
    refine jH rfl (jI [0] Tryz.call126 rfl (C_idxC 127 Tryz.call127 b_1 key (fun q_ => gtrB q_.1 key) (C_put2 b_1 key) a_4 c_5 (s.filter (fun c => !decide (c.1 = key))) (by omega)) rfl (fun w hw => ⟨hw.see (i := 1) rfl, hw.apartO 1 0 rfl rfl rfl⟩)) ?_
    rintro _ _ ⟨_, ⟨rfl, rfl⟩, rfl⟩
    have hix6 := idxI_lo (fun q_ => gtrB q_.1 key) (s.filter (fun c => !decide (c.1 = key)))
    have hfl6 := findAt_le (fun q_ => gtrB q_.1 key) (s.filter (fun c => !decide (c.1 = key)))
    refine jA (jG (v := iv (idxI (fun q_ => gtrB q_.1 key) (s.filter (fun c => !decide (c.1 = key))))) rfl) <| jE <| jB <| jC <| jC <| jF <| jA (jD (v := iv (idxI (fun q_ => gtrB q_.1 key) (s.filter (fun c => !decide (c.1 = key))))) rfl) <| jA (jl rfl rfl) <| jE <| jB ?_
    by_cases h_7 : (idxI (fun q_ => gtrB q_.1 key) (s.filter (fun c => !decide (c.1 = key)))) < 0
    · have hx_8l : findAt (fun q_ => gtrB q_.1 key) (s.filter (fun c => !decide (c.1 = key))) = (s.filter (fun c => !decide (c.1 = key))).length := by omega
      refine jW (cB (dT h_7)) <| jF <| jA (jD (v := .slice a_4 ((s.filter (fun c => !decide (c.1 = key))).length) c_5) rfl) <| jA (jr kf rfl) <| jA (jG (v := iv (((s.filter (fun c => !decide (c.1 = key))).length : Nat) : Int)) rfl) <| jE <| jB <| jC <| jF <| jA (jD (v := .slice a_4 ((s.filter (fun c => !decide (c.1 = key))).length) c_5) rfl) ?_
      refine jA (jD (v := iv (((s.filter (fun c => !decide (c.1 = key))).length : Nat) : Int)) rfl) <| jK (jZ 0 (v := str key) rfl rfl ki rfl) <| jA (jD (v := str val) rfl) <| jA (kW (ps := [(0, str key), (1, str val)]) (cs := [str key, str val]) rfl (by kernel_rfl)) ?_
      refine jH rfl (kH (ps := [(0, .agg #[str key, str val])]) (cur := #[str key, str val]) kf kh kw rfl (by kernel_rfl) (by decide) (by decide)) ?_
      rintro _ _ ⟨a_9, rfl, rfl⟩
      refine jH rfl (jI [2, 0] Tryz.call128 rfl (C_insC a_4 a_9 c_5 (s.filter (fun c => !decide (c.1 = key))) ((s.filter (fun c => !decide (c.1 = key))).length) (key, val) (by omega) (by omega) (by rw [lenC])) rfl (fun _ _ => trivial)) ?_
      rintro _ _ ⟨_, ⟨a_10, c_11, rfl, rfl⟩, rfl⟩
      refine jA (jG (v := .slice a_10 ((insertAt ((s.filter (fun c => !decide (c.1 = key))).length) (key, val) (s.filter (fun c => !decide (c.1 = key)))).length) c_11) rfl) <| jE <| jB <| jN <| jV (.inl rfl) rfl (jJ (v := .slice a_10 ((insertAt ((s.filter (fun c => !decide (c.1 = key))).length) (key, val) (s.filter (fun c => !decide (c.1 = key)))).length) c_11) rfl) (sL [Res.row (.slice a_10 ((insertAt ((s.filter (fun c => !decide (c.1 = key))).length) (key, val) (s.filter (fun c => !decide (c.1 = key)))).length) c_11) 48 2 ((insertAt ((s.filter (fun c => !decide (c.1 = key))).length) (key, val) (s.filter (fun c => !decide (c.1 = key)))).length) ((insertAt ((s.filter (fun c => !decide (c.1 = key))).length) (key, val) (s.filter (fun c => !decide (c.1 = key)))).flatMap encC)] [bk b_1 9 [str key]]) ?_
      have he := (putKey_ins h_2 (by omega) h_6 : putKey s key val = _)
      exact ⟨_, _, by rw [he, hx_8l], by rw [he, hx_8l] <;> rfl⟩
    have hx_12l : findAt (fun q_ => gtrB q_.1 key) (s.filter (fun c => !decide (c.1 = key))) < (s.filter (fun c => !decide (c.1 = key))).length := by omega
    have hx_12e : idxI (fun q_ => gtrB q_.1 key) (s.filter (fun c => !decide (c.1 = key))) = ((findAt (fun q_ => gtrB q_.1 key) (s.filter (fun c => !decide (c.1 = key))) : Nat) : Int) := by omega
    refine jR (cB (dF h_7)) <| jT <| jB <| jC <| jF <| jA (jD (v := .slice a_4 ((s.filter (fun c => !decide (c.1 = key))).length) c_5) rfl) <| jA (jD (v := iv ((findAt (fun q_ => gtrB q_.1 key) (s.filter (fun c => !decide (c.1 = key))) : Nat) : Int)) (congrArg (Value.int .i64) hx_12e)) <| jK (jZ 0 (v := str key) rfl rfl ki rfl) <| jA (jD (v := str val) rfl) <| jA (kW (ps := [(0, str key), (1, str val)]) (cs := [str key, str val]) rfl (by kernel_rfl)) ?_
    refine jH rfl (kH (ps := [(0, .agg #[str key, str val])]) (cur := #[str key, str val]) kf kh kw rfl (by kernel_rfl) (by decide) (by decide)) ?_
    rintro _ _ ⟨a_13, rfl, rfl⟩
    refine jH rfl (jI [2, 0] Tryz.call128 rfl (C_insC a_4 a_13 c_5 (s.filter (fun c => !decide (c.1 = key))) (findAt (fun q_ => gtrB q_.1 key) (s.filter (fun c => !decide (c.1 = key)))) (key, val) (by omega) (by omega) (by rw [lenC])) rfl (fun _ _ => trivial)) ?_
    rintro _ _ ⟨_, ⟨a_14, c_15, rfl, rfl⟩, rfl⟩
    refine jA (jG (v := .slice a_14 ((insertAt (findAt (fun q_ => gtrB q_.1 key) (s.filter (fun c => !decide (c.1 = key)))) (key, val) (s.filter (fun c => !decide (c.1 = key)))).length) c_15) rfl) <| jE <| jB <| jN <| jV (.inl rfl) rfl (jJ (v := .slice a_14 ((insertAt (findAt (fun q_ => gtrB q_.1 key) (s.filter (fun c => !decide (c.1 = key)))) (key, val) (s.filter (fun c => !decide (c.1 = key)))).length) c_15) rfl) (sL [Res.row (.slice a_14 ((insertAt (findAt (fun q_ => gtrB q_.1 key) (s.filter (fun c => !decide (c.1 = key)))) (key, val) (s.filter (fun c => !decide (c.1 = key)))).length) c_15) 48 2 ((insertAt (findAt (fun q_ => gtrB q_.1 key) (s.filter (fun c => !decide (c.1 = key)))) (key, val) (s.filter (fun c => !decide (c.1 = key)))).length) ((insertAt (findAt (fun q_ => gtrB q_.1 key) (s.filter (fun c => !decide (c.1 = key)))) (key, val) (s.filter (fun c => !decide (c.1 = key)))).flatMap encC)] [bk b_1 9 [str key]]) ?_
    have he := (putKey_ins h_2 (by omega) h_6 : putKey s key val = _)
    exact ⟨_, _, by rw [he], by rw [he] <;> rfl⟩
  refine jS (b := true) rfl rfl rfl (cB (cN h_2)) <| jS (b := true) rfl rfl rfl (cB (cN h_2)) <| jS (b := true) rfl rfl rfl (cB (cN h_2)) <| jA (jh (v := .bool true) (cB (cN h_2)) rfl) <| jE <| jB <| jW (cB rfl) <| jC <| jF <| jA (jD (v := .slice a s.length c) rfl) ?_
  refine jA (jG (v := .slice a s.length c) rfl) <| jE <| jB <| jN <| jX <| kM (pick_perm [1] (A := [Res.row (.slice a s.length c) 48 2 s.length (s.flatMap encC)]) (F := [bk b_1 9 [str key]]) rfl).symm <| jV (.inl rfl) rfl (jJ (v := .slice a s.length c) rfl) (sL [Res.row (.slice a s.length c) 48 2 s.length (s.flatMap encC)] [bk b_1 9 [str key]]) ?_
  have he := (putKey_bad1 h_2 : putKey s key val = _)
  exact ⟨_, _, by rw [he], by rw [he] <;> rfl⟩

end Go.Proofs.YtjncpgcccgdeiaaGreatDoor

set_option linter.unusedSimpArgs false
set_option linter.unusedVariables false
set_option linter.unnecessarySimpa false
namespace Go.Proofs.YtjncpgcccgdeiaaGreatDoor
open Go Go.RowKit
attribute [local irreducible] JL JC JQ JO LO PO JA JX Ct





theorem C_decimal (n : Int) (h0 : -9223372036854775808 ≤ n) (h1 : n ≤ 9223372036854775807) :
    Ct Tryz.prog 29 [.int .i64 n] [] (fun _ => True) (fun v A' => v = str (dec n) ∧ A' = []) := by
  refine Ct.intro Tryz.func29 rfl Tryz.ntmps29 (lb rfl) fun w0 hpre => ?_
  refine jC <| jF <| jA (jG (v := str []) rfl) <| jE <| jB <| jC <| jF <| jA (jD (v := iv n) rfl) ?_
  refine jH rfl (jI [] Tryz.call83 rfl (C_itoa n (by omega) (by omega)) rfl (fun _ _ => trivial)) ?_
  rintro _ _ ⟨_, ⟨rfl, rfl⟩, rfl⟩
  refine jA (jG (v := str (dec n)) rfl) <| jE <| jB <| jN <| jV (.inl rfl) rfl (jJ (v := str (dec n)) rfl) (List.nil_sublist _) ?_
  exact ⟨rfl, rfl⟩

theorem C_readDecimal (t : Str) (ht : t.length ≤ 281474976710656) :
    Ct Tryz.prog 113 [str t] [] (fun _ => True) (fun v A' => v = .tuple #[.int .i64 (readDec t).1, .bool (readDec t).2] ∧ A' = []) := by
  refine Ct.intro Tryz.func113 rfl Tryz.ntmps113 (lb rfl) fun w0 hpre => ?_
  refine jC <| jF <| jA (jG (v := iv 0) rfl) <| jA (jG (v := .bool false) rfl) <| jE <| jB <| jC <| jF <| jA (jD (v := str t) rfl) ?_
  refine jH rfl (jI [] Tryz.call145 rfl (C_atoi t (by omega)) rfl (fun _ _ => trivial)) ?_
  rintro _ _ ⟨_, ⟨⟨n_, hat, rfl⟩ | ⟨hat, n_, te, pe, rfl⟩, rfl⟩, rfl⟩
  · refine jA (jD (v := .tuple #[iv n_, .nilIface]) rfl) <| jA (je (v := iv n_) rfl rfl) <| jA (je (v := .nilIface) rfl rfl) <| jA (jG (v := iv n_) rfl) <| jA (jG (v := .nilIface) rfl) <| jE <| jB <| jC <| jC <| jF ?_
    refine jA (jD (v := .nilIface) rfl) <| jA (PO.neqIfN Tryz.underlying95 rfl rfl) <| jA (jD (v := .bool false) rfl) <| jM rfl rfl rfl (cB rfl) (jP (jU (jD (v := iv n_) rfl))) ?_
    rintro _ _ ⟨rfl, rfl⟩
    refine jM rfl rfl rfl (cB rfl) (jI [] Tryz.call76 rfl (C_within n_ 0 1000000000) rfl (fun _ _ => trivial)) ?_
    rintro _ _ ⟨_, ⟨rfl, rfl⟩, rfl⟩
    refine jM rfl rfl rfl (cB rfl) (jP (jU (jp rfl))) ?_
    rintro _ _ ⟨rfl, rfl⟩
    refine jA (ji (v := .bool (!(decide (0 ≤ n_) && decide (n_ ≤ 1000000000)))) (cB rfl) rfl) <| jA (jD (v := .bool (!(decide (0 ≤ n_) && decide (n_ ≤ 1000000000)))) rfl) ?_
    rcases Bool.eq_false_or_eq_true (decide (0 ≤ n_) && decide (n_ ≤ 1000000000)) with h_1 | h_1
    · have h_1d := h_1
      simp only [Bool.and_eq_true, Bool.and_eq_false_iff, decide_eq_true_eq, decide_eq_false_iff_not] at h_1d
      refine jM rfl rfl rfl (cB (cN h_1)) (jP (jU (jD (v := iv n_) rfl))) ?_
      rintro _ _ ⟨rfl, rfl⟩
      refine jM rfl rfl rfl (cB (cN h_1)) (jI [] Tryz.call29 rfl (C_decimal n_ (by omega) (by omega)) rfl (fun _ _ => trivial)) ?_
      rintro _ _ ⟨_, ⟨rfl, rfl⟩, rfl⟩
      refine jM rfl rfl rfl (cB (cN h_1)) (jP (jU (jD (v := str t) rfl))) ?_
      rintro _ _ ⟨rfl, rfl⟩
      refine jM rfl rfl rfl (cB (cN h_1)) (jP (jU (PO.neqS rfl rfl))) ?_
      rintro _ _ ⟨rfl, rfl⟩
      refine jA (ji (v := .bool (!(decide ((dec n_) = t)))) (cB (cN h_1)) rfl) <| jE <| jB ?_
      by_cases h_2 : (dec n_) = t
      · refine jR (cB (cN (dT h_2))) <| jT <| jB <| jC <| jF <| jA (jD (v := iv n_) rfl) <| jA (jG (v := iv n_) rfl) <| jA (jG (v := .bool true) rfl) <| jE <| jB ?_
        refine jN <| kC (.inl rfl) rfl (jJ (v := iv n_) rfl) (jJ (v := .bool true) rfl) (List.nil_sublist _) ?_
        refine ⟨?_, rfl⟩
        rw [readDec_ok hat, if_pos (by refine ⟨?_, ?_, ?_⟩ <;> first | omega | simp_all)]
      refine jW (cB (cN (dF h_2))) <| jC <| jF <| jA (jG (v := iv 0) rfl) <| jA (jG (v := .bool false) rfl) <| jE <| jB <| jN <| jX <| kC (.inl rfl) rfl (jJ (v := iv 0) rfl) (jJ (v := .bool false) rfl) (List.nil_sublist _) ?_
      refine ⟨?_, rfl⟩
      rw [readDec_ok hat, if_neg (fun h => by simp_all <;> omega)]
    have h_1d := h_1
    simp only [Bool.and_eq_true, Bool.and_eq_false_iff, decide_eq_true_eq, decide_eq_false_iff_not] at h_1d
    refine jS (b := true) rfl rfl rfl (cB (cN h_1)) <| jS (b := true) rfl rfl rfl (cB (cN h_1)) <| jS (b := true) rfl rfl rfl (cB (cN h_1)) <| jS (b := true) rfl rfl rfl (cB (cN h_1)) <| jA (jh (v := .bool true) (cB (cN h_1)) rfl) <| jE <| jB <| jW (cB rfl) <| jC <| jF ?_
    refine jA (jG (v := iv 0) rfl) <| jA (jG (v := .bool false) rfl) <| jE <| jB <| jN <| jX <| kC (.inl rfl) rfl (jJ (v := iv 0) rfl) (jJ (v := .bool false) rfl) (List.nil_sublist _) ?_
    refine ⟨?_, rfl⟩
    rw [readDec_ok hat, if_neg (fun h => by simp_all <;> omega)]
  refine jA (jD (v := .tuple #[iv n_, .iface te pe]) rfl) <| jA (je (v := iv n_) rfl rfl) <| jA (je (v := .iface te pe) rfl rfl) <| jA (jG (v := iv n_) rfl) <| jA (jG (v := .iface te pe) rfl) <| jE <| jB <| jC <| jC <| jF ?_
  refine jA (jD (v := .iface te pe) rfl) <| jA (PO.neqIfS Tryz.underlying95 rfl rfl) <| jA (jD (v := .bool true) rfl) <| jS (b := true) rfl rfl rfl (cB rfl) <| jS (b := true) rfl rfl rfl (cB rfl) <| jS (b := true) rfl rfl rfl (cB rfl) <| jA (jh (v := .bool true) (cB rfl) rfl) <| jA (jD (v := .bool true) rfl) <| jS (b := true) rfl rfl rfl (cB rfl) <| jS (b := true) rfl rfl rfl (cB rfl) ?_
  refine jS (b := true) rfl rfl rfl (cB rfl) <| jS (b := true) rfl rfl rfl (cB rfl) <| jA (jh (v := .bool true) (cB rfl) rfl) <| jE <| jB <| jW (cB rfl) <| jC <| jF <| jA (jG (v := iv 0) rfl) <| jA (jG (v := .bool false) rfl) ?_
  refine jE <| jB <| jN <| jX <| kC (.inl rfl) rfl (jJ (v := iv 0) rfl) (jJ (v := .bool false) rfl) (List.nil_sublist _) ?_
  rw [readDec_err hat]
  exact ⟨rfl, rfl⟩





end Go.Proofs.YtjncpgcccgdeiaaGreatDoor

set_option linter.unusedSimpArgs false
set_option linter.unusedVariables false
set_option linter.unnecessarySimpa false
namespace Go.Proofs.YtjncpgcccgdeiaaGreatDoor
open Go Go.RowKit

theorem Ct.introL {P : Program} {n : Nat} {f : FuncId} {fn : Func} {c : Code} {args : List Value} {A : List Res} {Pre : World → Prop} {Post : Value → List Res → Prop}
    (hf : P.funcs[f]? = some fn) (hb : fn.body = some c) (hn : fn.ntmps = n) (hle : args.length ≤ n)
    (h : ∀ w0, Pre w0 → (∀ i ∈ idsOf A, GB ≤ i) → JC P (bodyPost P fn (Done w0 (idsOf A) Post)) n w0 (idsOf A) A c (argEnv args)) : Ct P f args A Pre Post := fun w hA hpre => by
  refine calls_of_wp hf hb ?_
  rw [hn, act_args n args hle]
  exact h w hpre hA.low w (St.start hA)
theorem St.hex {w0 w : World} {D : List Nat} {L : List Res} (hw : St w0 D L w) (hlow : ∀ i ∈ D, GB ≤ i) (h : HexOk w0) : HexOk w :=
  h.keep (hw.keep _ h.lt fun hD => by have := hlow _ hD; have := hexLow; omega)

end Go.Proofs.YtjncpgcccgdeiaaGreatDoor

set_option linter.unusedSimpArgs false
set_option linter.unusedVariables false
set_option linter.unnecessarySimpa false
namespace Go.Proofs.YtjncpgcccgdeiaaGreatDoor
open Go Go.RowKit
attribute [local irreducible] JL JC JQ JO LO PO JA JX Ct

theorem N_hex (s : Str) (hs : s.length ≤ 1000000000000) :
    Ct Tryz.prog 121 [str s] ([]) (fun _ => True) (fun v A' => ∃ r0 r1, hexP s = (r0, r1) ∧ r0.length ≤ 40000 ∧ v = .tuple #[str r0, .bool r1] ∧ A' = []) := by
  refine Ct.intro Tryz.func121 rfl Tryz.ntmps121 (lb rfl) fun w0 hpre => ?_
  refine jC <| jF <| jA (jG (v := str []) rfl) <| jA (jG (v := .bool false) rfl) <| jE <| jB <| jC <| jC <| jF <| jA (jD (v := str s) rfl) ?_
  refine jA (kF kg rfl) <| jA (kR rfl rfl) <| jE <| jB ?_
  by_cases h_1 : 20000 < (s.length : Int)
  · refine jW (cB (dT h_1)) <| jC <| jF <| jA (jG (v := str []) rfl) <| jA (jG (v := .bool false) rfl) <| jE <| jB <| jN <| jX <| kC (.inl rfl) rfl (jJ (v := str []) rfl) (jJ (v := .bool false) rfl) (List.nil_sublist _) ?_
    exact ⟨[], false, (by first | exact hexP_yes (by assumption) | exact hexP_no (by assumption)), (by first | (rw [hexB_len]; omega) | (simp only [List.length_nil]; omega)), rfl, rfl⟩
  refine jR (cB (dF h_1)) <| jT <| jB <| jC <| jF <| jA (jD (v := str s) rfl) ?_
  refine jH rfl (JO.toBytes kg kr kv rfl (by unfold maxLen; omega)) ?_
  rintro _ _ ⟨a_2, c_3, rfl, rfl⟩
  refine jH rfl (jI [] Tryz.call148 rfl (N_hexEnc a_2 c_3 s (by omega)) rfl (fun w hw => hw.see (i := 0) rfl)) ?_
  rintro _ _ ⟨_, ⟨rfl, rfl⟩, rfl⟩
  refine jA (jG (v := str (hexB s)) rfl) <| jA (jG (v := .bool true) rfl) <| jE <| jB <| jN <| kC (.inl rfl) rfl (jJ (v := str (hexB s)) rfl) (jJ (v := .bool true) rfl) (List.nil_sublist _) ?_
  exact ⟨(hexB s), true, (by first | exact hexP_yes (by assumption) | exact hexP_no (by assumption)), (by first | (rw [hexB_len]; omega) | (simp only [List.length_nil]; omega)), rfl, rfl⟩

theorem N_hexOf (s : Str) (hs : s.length ≤ 1000000000000) :
    Ct Tryz.prog 80 [str s] ([]) (fun _ => True) (fun v A' => ∃ r0, hexS s = r0 ∧ r0.length ≤ 40000 ∧ v = str r0 ∧ A' = []) := by
  refine Ct.intro Tryz.func80 rfl Tryz.ntmps80 (lb rfl) fun w0 hpre => ?_
  refine jC <| jF <| jA (jG (v := str []) rfl) <| jE <| jB <| jC <| jF <| jA (jD (v := str s) rfl) ?_
  refine jH rfl (jI [] Tryz.call121 rfl (N_hex s (by omega)) rfl (fun _ _ => trivial)) ?_
  rintro _ _ ⟨_, ⟨u_3, b_5, e_1, f_4, rfl, rfl⟩, rfl⟩
  refine jA (jD (v := .tuple #[str u_3, .bool b_5]) rfl) <| jA (je (v := str u_3) rfl rfl) <| jA (je (v := .bool b_5) rfl rfl) <| jA (jG (v := str u_3) rfl) <| jA (jG (v := .bool b_5) rfl) <| jE <| jB <| jC <| jF <| jA (jD (v := str u_3) rfl) ?_
  refine jA (jG (v := str u_3) rfl) <| jE <| jB <| jN <| jV (.inl rfl) rfl (jJ (v := str u_3) rfl) (List.nil_sublist _) ?_
  exact ⟨u_3, (by simp only [hexS_P, e_1, SB]; (repeat (first | rw [if_pos (by omega)] | rw [if_neg (by omega)])); all_goals (first | rfl | simp only [SB, e_1])), (by first | omega | (simp only [LE]; omega)), rfl, rfl⟩

theorem N_unhex (t : Str) (ht : t.length ≤ 1000000000000) :
    Ct Tryz.prog 115 [str t] ([]) (fun w => HexOk w) (fun v A' => ∃ r0 r1, unhex t = (r0, r1) ∧ r0.length ≤ 20000 ∧ v = .tuple #[str r0, .bool r1] ∧ A' = []) := by
  refine Ct.introL Tryz.func115 rfl Tryz.ntmps115 (lb rfl) fun w0 hpre hlow => ?_
  refine jC <| jF <| jA (jG (v := str []) rfl) <| jA (jG (v := .bool false) rfl) <| jE <| jB <| jC <| jF <| jA (jD (v := str t) rfl) ?_
  refine jH rfl (jI [] Tryz.call147 rfl (N_hexDec t (by omega)) rfl (fun w hw => hw.hex hlow hpre)) ?_
  rintro _ _ ⟨_, ⟨da, dc, dr, ⟨hd, rfl⟩ | ⟨hd, te, pe, rfl⟩, rfl⟩, rfl⟩
  · refine jA (jD (v := .tuple #[.slice da dr.length dc, .nilIface]) rfl) <| jA (je (v := .slice da dr.length dc) rfl rfl) <| jA (je (v := .nilIface) rfl rfl) <| jA (jG (v := .slice da dr.length dc) rfl) <| jA (jG (v := .nilIface) rfl) <| jE <| jB <| jC <| jC <| jF ?_
    refine jA (jD (v := .nilIface) rfl) <| jA (PO.neqIfN Tryz.underlying95 rfl rfl) <| jA (jD (v := .bool false) rfl) <| jM rfl rfl rfl (cB rfl) (jP (jU (jD (v := .slice da dr.length dc) rfl))) ?_
    rintro _ _ ⟨rfl, rfl⟩
    refine jM rfl rfl rfl (cB rfl) (jP (jU (jr kr rfl))) ?_
    rintro _ _ ⟨rfl, rfl⟩
    refine jM rfl rfl rfl (cB rfl) (jP (jU (kR rfl rfl))) ?_
    rintro _ _ ⟨rfl, rfl⟩
    refine jA (ji (v := .bool (decide (20000 < ((dr.length : Nat) : Int)))) (cB rfl) rfl) <| jA (jD (v := .bool (decide (20000 < ((dr.length : Nat) : Int)))) rfl) ?_
    by_cases h_1 : 20000 < ((dr.length : Nat) : Int)
    · refine jS (b := true) rfl rfl rfl (cB (dT h_1)) <| jS (b := true) rfl rfl rfl (cB (dT h_1)) <| jS (b := true) rfl rfl rfl (cB (dT h_1)) <| jS (b := true) rfl rfl rfl (cB (dT h_1)) <| jA (jh (v := .bool true) (cB (dT h_1)) rfl) <| jE <| jB <| jW (cB rfl) <| jC <| jF ?_
      refine jA (jG (v := str []) rfl) <| jA (jG (v := .bool false) rfl) <| jE <| jB <| jN <| jX <| kC (.inl rfl) rfl (jJ (v := str []) rfl) (jJ (v := .bool false) rfl) (List.nil_sublist _) ?_
      exact ⟨[], false, (by first | exact unhex_err hd | exact unhex_long hd (by assumption) | exact unhex_ne hd (by assumption) | exact unhex_yes hd (by assumption) (by assumption)), (by first | omega | (simp only [LE]; omega)), rfl, rfl⟩
    refine jM rfl rfl rfl (cB (dF h_1)) (jP (jU (jD (v := .slice da dr.length dc) rfl))) ?_
    rintro _ _ ⟨rfl, rfl⟩
    refine jM rfl rfl rfl (cB (dF h_1)) (jI [] Tryz.call148 rfl (N_hexEnc da dc dr (by omega)) rfl (fun w hw => hw.see (i := 0) rfl)) ?_
    rintro _ _ ⟨_, ⟨rfl, rfl⟩, rfl⟩
    refine jM rfl rfl rfl (cB (dF h_1)) (jP (jU (jD (v := str t) rfl))) ?_
    rintro _ _ ⟨rfl, rfl⟩
    refine jM rfl rfl rfl (cB (dF h_1)) (jP (jU (PO.neqS rfl rfl))) ?_
    rintro _ _ ⟨rfl, rfl⟩
    refine jA (ji (v := .bool (!(decide ((hexB dr) = t)))) (cB (dF h_1)) rfl) <| jE <| jB ?_
    by_cases h_2 : (hexB dr) = t
    · refine jR (cB (cN (dT h_2))) <| jT <| jB <| jC <| jF <| jA (jD (v := .slice da dr.length dc) rfl) <| jK (LO.toStr 0 dr rfl kr kv kg rfl rfl) <| jA (jG (v := str dr) rfl) <| jA (jG (v := .bool true) rfl) <| jE ?_
      refine jB <| jN <| kC (.inl rfl) rfl (jJ (v := str dr) rfl) (jJ (v := .bool true) rfl) (List.nil_sublist _) ?_
      exact ⟨dr, true, (by first | exact unhex_err hd | exact unhex_long hd (by assumption) | exact unhex_ne hd (by assumption) | exact unhex_yes hd (by assumption) (by assumption)), (by first | omega | (simp only [LE]; omega)), rfl, rfl⟩
    refine jW (cB (cN (dF h_2))) <| jC <| jF <| jA (jG (v := str []) rfl) <| jA (jG (v := .bool false) rfl) <| jE <| jB <| jN <| jX <| kC (.inl rfl) rfl (jJ (v := str []) rfl) (jJ (v := .bool false) rfl) (List.nil_sublist _) ?_
    exact ⟨[], false, (by first | exact unhex_err hd | exact unhex_long hd (by assumption) | exact unhex_ne hd (by assumption) | exact unhex_yes hd (by assumption) (by assumption)), (by first | omega | (simp only [LE]; omega)), rfl, rfl⟩
  refine jA (jD (v := .tuple #[.slice da dr.length dc, (.iface te pe)]) rfl) <| jA (je (v := .slice da dr.length dc) rfl rfl) <| jA (je (v := (.iface te pe)) rfl rfl) <| jA (jG (v := .slice da dr.length dc) rfl) <| jA (jG (v := (.iface te pe)) rfl) <| jE <| jB <| jC <| jC <| jF ?_
  refine jA (jD (v := (.iface te pe)) rfl) <| jA (PO.neqIfS Tryz.underlying95 rfl rfl) <| jA (jD (v := .bool true) rfl) <| jS (b := true) rfl rfl rfl (cB rfl) <| jS (b := true) rfl rfl rfl (cB rfl) <| jS (b := true) rfl rfl rfl (cB rfl) <| jA (jh (v := .bool true) (cB rfl) rfl) <| jA (jD (v := .bool true) rfl) <| jS (b := true) rfl rfl rfl (cB rfl) <| jS (b := true) rfl rfl rfl (cB rfl) ?_
  refine jS (b := true) rfl rfl rfl (cB rfl) <| jS (b := true) rfl rfl rfl (cB rfl) <| jA (jh (v := .bool true) (cB rfl) rfl) <| jE <| jB <| jW (cB rfl) <| jC <| jF <| jA (jG (v := str []) rfl) <| jA (jG (v := .bool false) rfl) ?_
  refine jE <| jB <| jN <| jX <| kC (.inl rfl) rfl (jJ (v := str []) rfl) (jJ (v := .bool false) rfl) (List.nil_sublist _) ?_
  exact ⟨[], false, (by first | exact unhex_err hd | exact unhex_long hd (by assumption) | exact unhex_ne hd (by assumption) | exact unhex_yes hd (by assumption) (by assumption)), (by first | omega | (simp only [LE]; omega)), rfl, rfl⟩

end Go.Proofs.YtjncpgcccgdeiaaGreatDoor

set_option linter.unusedSimpArgs false
set_option linter.unusedVariables false
set_option linter.unnecessarySimpa false
namespace Go.Proofs.YtjncpgcccgdeiaaGreatDoor
open Go Go.RowKit
/-- The parts of a text between signs. -/
def splitB (c : UInt8) : Str → List Str
  | [] => [[]]
  | x :: s => if x = c then [] :: splitB c s else (x :: (splitB c s).headD []) :: (splitB c s).tail
theorem splitB_ne (c : UInt8) : ∀ s, splitB c s ≠ []
  | [] => by simp [splitB]
  | x :: s => by unfold splitB; split <;> simp
theorem splitB_at (c : UInt8) : ∀ (a s : Str), (∀ x ∈ a, x ≠ c) → splitB c (a ++ c :: s) = a :: splitB c s
  | [], s, _ => by simp [splitB]
  | x :: a, s, h => by
    have ih := splitB_at c a s fun y hy => h y (List.mem_cons_of_mem _ hy)
    rw [List.cons_append, splitB, if_neg (h x (List.mem_cons_self ..)), ih]
    rfl
theorem splitB_one (c : UInt8) : ∀ a : Str, (∀ x ∈ a, x ≠ c) → splitB c a = [a]
  | [], _ => rfl
  | x :: a, h => by
    have ih := splitB_one c a fun y hy => h y (List.mem_cons_of_mem _ hy)
    rw [splitB, if_neg (h x (List.mem_cons_self ..)), ih]
    rfl
/-- What lies before and behind the first sign; all and nothing without one. -/
def cutB (c : UInt8) : Str → Str × Str
  | [] => ([], [])
  | x :: s => if x = c then ([], s) else (x :: (cutB c s).1, (cutB c s).2)
theorem splitB_single (c : UInt8) : ∀ (t q : Str), splitB c t = [q] → t = q
  | [], q, h => by simp only [splitB, List.cons.injEq, and_true] at h; exact h
  | y :: t, q, h => by
    unfold splitB at h
    split at h
    · simp only [List.cons.injEq] at h; exact absurd h.2 (splitB_ne c t)
    · simp only [List.cons.injEq] at h
      obtain ⟨rfl, h2⟩ := h
      cases hs : splitB c t with
      | nil => exact absurd hs (splitB_ne c t)
      | cons p r =>
        rw [hs] at h2
        simp only [List.tail_cons] at h2
        subst h2
        rw [splitB_single c t p hs]
        rfl
theorem drop_no {s : Str} {c : UInt8} {b i : Nat} (hi : i ≤ s.length) (hN : ∀ k, b ≤ k → k < i → s.getD k 0 ≠ c) : ∀ x ∈ (s.drop b).take (i - b), x ≠ c := by
  intro x hx
  obtain ⟨k, hk, rfl⟩ := List.getElem_of_mem hx
  have hk' : k < (s.drop b).length ∧ k < i - b := by rw [List.length_take] at hk; omega
  rw [List.length_drop] at hk'
  have := hN (b + k) (by omega) (by omega)
  rw [List.getD_eq_getElem?_getD, List.getElem?_eq_getElem (by omega)] at this
  simpa using this
theorem split_cut {s : Str} {c : UInt8} {b i : Nat} (hi : i < s.length) (hb : b ≤ i) (hN : ∀ k, b ≤ k → k < i → s.getD k 0 ≠ c) (hc : s.getD i 0 = c) : splitB c (s.drop b) = (s.drop b).take (i - b) :: splitB c (s.drop (i + 1)) := by
  have e : s.drop b = (s.drop b).take (i - b) ++ c :: s.drop (i + 1) := by
    have h1 := (List.take_append_drop (i - b) (s.drop b)).symm
    rw [List.drop_drop, show b + (i - b) = i by omega, drop_at (getD_some (d := 0) hi), hc] at h1
    exact h1
  have h2 := splitB_at c ((s.drop b).take (i - b)) (s.drop (i + 1)) (drop_no (by omega) hN)
  rw [← e] at h2
  exact h2
/- a record's text -/
def sumF (n : Nat) : Str → Nat
  | [] => n
  | c :: s => sumF ((31 * n + c.toNat) % 9973) s
def byteSum (s : Str) : Nat := sumF 7 s
theorem sumF_lo : ∀ (s : Str) (n : Nat), n ≤ 9972 → sumF n s ≤ 9972
  | [], n, h => h
  | c :: s, n, h => sumF_lo s _ (by omega)
theorem byteSum_lo (s : Str) : byteSum s ≤ 9972 := sumF_lo s 7 (by omega)
theorem sumF_step {s : Str} {n j : Nat} (h : j < s.length) : sumF n (s.drop j) = sumF ((31 * n + (s.getD j 0).toNat) % 9973) (s.drop (j + 1)) := by
  rw [drop_at (getD_some (d := 0) h), sumF]
theorem keyOk_len {k : Str} (h : keyOk k = true) : k.length ≤ 40 := by
  simp only [keyOk, Bool.and_eq_true, decide_eq_true_eq] at h
  exact h.2
def recRow (c : Cell) : Str := [32] ++ hexB c.1 ++ [61] ++ hexB c.2
def recBad (b : Str) (c : Cell) : Bool := !keyOk c.1 || (decide ((60 : Int) < ((c.2.length : Nat) : Int)) || decide ((4000 : Int) < ((b.length : Nat) : Int)))
def recEnd (b : Str) : Str := if (4000 : Int) < (((b ++ [32, 35] ++ dec ((byteSum b : Nat) : Int) ++ [10]).length : Nat) : Int) then [] else b ++ [32, 35] ++ dec ((byteSum b : Nat) : Int) ++ [10]
def recGo : Str → List Cell → Str
  | b, [] => recEnd b
  | b, c :: l => if recBad b c = true then [] else recGo (b ++ recRow c) l
def recText (seq : Int) (l : List Cell) : Str := if within 1 seq 100000 = true then recGo (dec seq) l else []
theorem recGo_step {l : List Cell} {b : Str} {j : Nat} (h : j < l.length) : recGo b (l.drop j) = if recBad b (l.getD j c0) = true then [] else recGo (b ++ recRow (l.getD j c0)) (l.drop (j + 1)) := by
  rw [drop_at (getD_some (d := c0) h), recGo]
theorem recGo_some : ∀ (l : List Cell) (b : Str), recGo b l ≠ [] → ∃ b', b' = b ++ l.flatMap recRow ∧ recGo b l = b' ++ [32, 35] ++ dec ((byteSum b' : Nat) : Int) ++ [10]
  | [], b, h => by
    refine ⟨b, by simp, ?_⟩
    unfold recGo recEnd at *
    split at h
    · exact absurd rfl h
    · rename_i hn; rw [if_neg hn]
  | c :: l, b, h => by
    unfold recGo at h ⊢
    split at h
    · exact absurd rfl h
    · rename_i hn
      rw [if_neg hn]
      obtain ⟨b', e, h2⟩ := recGo_some l _ h
      exact ⟨b', by rw [e, List.flatMap_cons, List.append_assoc], h2⟩
theorem hexFig_ne (x : Nat) (h : x < 16) : hexFig x ≠ 32 ∧ hexFig x ≠ 61 ∧ hexFig x ≠ 10 := by
  have : ∀ k : Fin 16, hexFig k.val ≠ 32 ∧ hexFig k.val ≠ 61 ∧ hexFig k.val ≠ 10 := by decide
  exact this ⟨x, h⟩
theorem hexB_ne : ∀ (s : Str) (x : UInt8), x ∈ hexB s → x ≠ 32 ∧ x ≠ 61 ∧ x ≠ 10
  | [], x, h => by cases h
  | c :: s, x, h => by
    have hc := c.toNat_lt
    simp only [hexB, List.mem_cons] at h
    rcases h with rfl | rfl | h
    · exact hexFig_ne _ (by omega)
    · exact hexFig_ne _ (by omega)
    · exact hexB_ne s x h
theorem split_rows : ∀ (l : List Cell) (a e : Str), (∀ x ∈ a, x ≠ 32) → (∀ x ∈ e, x ≠ 32) → splitB 32 (a ++ l.flatMap recRow ++ 32 :: e) = a :: (l.map fun c => hexB c.1 ++ [61] ++ hexB c.2) ++ [e]
  | [], a, e, ha, he => by
    rw [List.flatMap_nil, List.append_nil, splitB_at 32 a e ha, splitB_one 32 e he]
    rfl
  | c :: l, a, e, ha, he => by
    have ih := split_rows l (hexB c.1 ++ [61] ++ hexB c.2) e (fun x hx => by
      simp only [List.mem_append, List.mem_singleton] at hx
      rcases hx with (hx | rfl) | hx
      · exact (hexB_ne _ _ hx).1
      · decide
      · exact (hexB_ne _ _ hx).1) he
    have : a ++ (c :: l).flatMap recRow ++ 32 :: e = a ++ 32 :: ((hexB c.1 ++ [61] ++ hexB c.2) ++ l.flatMap recRow ++ 32 :: e) := by
      simp only [List.flatMap_cons, recRow, List.append_assoc, List.cons_append, List.nil_append, List.singleton_append]
    rw [this, splitB_at 32 a _ ha, ih]
    rfl
theorem digits_no : ∀ (f k : Nat), k ≤ f → ∀ x ∈ Lib.decDigits k, 48 ≤ x.toNat ∧ x.toNat ≤ 57 := by
  have fig : ∀ k, k < 10 → 48 ≤ (UInt8.ofNat (48 + k)).toNat ∧ (UInt8.ofNat (48 + k)).toNat ≤ 57 := fun k hk => by
    have : ∀ q : Fin 10, 48 ≤ (UInt8.ofNat (48 + q.val)).toNat ∧ (UInt8.ofNat (48 + q.val)).toNat ≤ 57 := by decide
    exact this ⟨k, hk⟩
  intro f
  induction f with
  | zero =>
    intro k hk x hx
    rw [Lib.decDigits, dif_pos (by omega), List.mem_singleton] at hx
    subst hx
    exact fig k (by omega)
  | succ f ih =>
    intro k hk x hx
    rw [Lib.decDigits] at hx
    split at hx
    · rw [List.mem_singleton] at hx
      subst hx
      exact fig k (by omega)
    · rcases List.mem_append.1 hx with hx | hx
      · exact ih (k / 10) (by omega) x hx
      · rw [List.mem_singleton] at hx
        subst hx
        exact fig (k % 10) (by omega)
theorem dec_no32 {n : Int} (h : 0 ≤ n) : ∀ x ∈ dec n, x ≠ 32 := by
  intro x hx
  unfold dec Lib.itoa at hx
  rw [if_neg (by omega)] at hx
  have := digits_no _ _ (Nat.le_refl _) x hx
  rintro rfl
  revert this
  decide
/- reading a record -/
def readWord (w : Str) : Cell := ((unhex (cutB 61 w).1).1, (unhex (cutB 61 w).2).1)
def midsOf (p : List Str) : List Str := (p.drop 1).take (p.length - 2)
def readI (t : Str) : Int × List Cell × Bool :=
  if (4000 : Int) < ((t.length : Nat) : Int) then (0, [], false)
  else if t = [] ∨ recText (readDec ((splitB 32 t).getD 0 [])).1 ((midsOf (splitB 32 t)).map readWord) ≠ t then (0, [], false)
  else ((readDec ((splitB 32 t).getD 0 [])).1, (midsOf (splitB 32 t)).map readWord, true)
theorem mids_rec {seq : Int} {l : List Cell} {t : Str} (h : recText seq l = t) (ht : t ≠ []) : midsOf (splitB 32 t) = l.map fun c => hexB c.1 ++ [61] ++ hexB c.2 := by
  unfold recText at h
  split at h
  · rename_i hw
    have hw := (show 1 ≤ seq ∧ seq ≤ 100000 by simpa only [within, Bool.and_eq_true, decide_eq_true_eq] using hw)
    obtain ⟨b, hb, he⟩ := recGo_some l (dec seq) (by rw [h]; exact ht)
    have hs := byteSum_lo b
    have e : t = dec seq ++ l.flatMap recRow ++ 32 :: (35 :: dec ((byteSum b : Nat) : Int) ++ [10]) := by
      rw [← h, he, hb]
      simp only [List.append_assoc, List.cons_append, List.nil_append]
    rw [e, split_rows l (dec seq) _ (dec_no32 (by omega)) (fun x hx => by
      simp only [List.cons_append, List.mem_cons, List.mem_append, List.not_mem_nil, or_false] at hx
      rcases hx with rfl | hx | rfl
      · decide
      · exact dec_no32 (Int.natCast_nonneg _) x hx
      · decide)]
    unfold midsOf
    simp only [List.cons_append, List.drop_succ_cons, List.drop_zero, List.length_cons, List.length_append, List.length_map, List.length_nil]
    rw [show l.length + (0 + 1) + 1 - 2 = (l.map fun c => hexB c.1 ++ [61] ++ hexB c.2).length by rw [List.length_map]; omega]
    rw [List.take_append_of_le_length (Nat.le_refl _), List.take_length]
  · exact absurd h.symm ht
theorem splitB_len (c : UInt8) : ∀ s : Str, (splitB c s).length ≤ s.length + 1 ∧ 1 ≤ (splitB c s).length
  | [] => ⟨by simp [splitB], by simp [splitB]⟩
  | x :: s => by
    have ih := splitB_len c s
    unfold splitB
    split
    · simp only [List.length_cons]; omega
    · simp only [List.length_cons, List.length_tail]; omega
theorem splitB_mem (c : UInt8) : ∀ (s x : Str), x ∈ splitB c s → x.length ≤ s.length
  | [], x, h => by simp [splitB] at h; simp [h]
  | y :: s, x, h => by
    unfold splitB at h
    split at h
    · rcases List.mem_cons.1 h with rfl | h
      · simp
      · have := splitB_mem c s x h; simp only [List.length_cons]; omega
    · rcases List.mem_cons.1 h with rfl | h
      · cases hs : splitB c s with
        | nil => simp
        | cons p r =>
          have := splitB_mem c s p (by rw [hs]; exact List.mem_cons_self ..)
          simp only [List.headD_cons, List.length_cons]; omega
      · have := splitB_mem c s x (List.mem_of_mem_tail h); simp only [List.length_cons]; omega
theorem splitB_get (c : UInt8) (s : Str) (k : Nat) : ((splitB c s).getD k []).length ≤ s.length := by
  by_cases h : k < (splitB c s).length
  · exact splitB_mem c s _ (getD_mem h)
  · rw [List.getD_eq_getElem?_getD, List.getElem?_eq_none (by omega)]; exact Nat.zero_le _
theorem okC_read {l : List Str} (h : l.length ≤ 1000000) : okC (l.map readWord) := ⟨by rw [List.length_map]; omega, fun j hj => by
  rw [List.length_map] at hj
  rw [List.getD_eq_getElem?_getD, List.getElem?_eq_getElem (by rw [List.length_map]; exact hj)]
  simp only [List.getElem_map, Option.getD_some, readWord]
  have h1 := unhex_len (cutB 61 l[j]).1
  have h2 := unhex_len (cutB 61 l[j]).2
  exact ⟨by omega, by omega⟩⟩
theorem mids_step {p : List Str} {i : Nat} (h1 : 1 ≤ i) (h2 : i + 1 < p.length) : ((p.drop 1).take (i + 1 - 1)).map readWord = ((p.drop 1).take (i - 1)).map readWord ++ [readWord (p.getD i [])] := by
  rw [show i + 1 - 1 = (i - 1) + 1 by omega, take_at (v := p.getD i []) ?_, List.map_append]
  · rfl
  · rw [List.getElem?_drop, show 1 + (i - 1) = i by omega, List.getD_eq_getElem?_getD, List.getElem?_eq_getElem (by omega)]
    rfl
/- lines -/
def linesG (b : Str) : Str → List Str
  | [] => []
  | c :: s => if c = 10 then (b ++ [c]) :: linesG [] s else linesG (b ++ [c]) s
def linesOf (t : Str) : List Str := linesG [] t
end Go.Proofs.YtjncpgcccgdeiaaGreatDoor

set_option linter.unusedSimpArgs false
set_option linter.unusedVariables false
set_option linter.unnecessarySimpa false
namespace Go.Proofs.YtjncpgcccgdeiaaGreatDoor
open Go Go.RowKit
section
variable {P : Program} {ops : Array Oper} {Q : Exit → Act → World → Prop} {n : Nat} {w0 w : World} {D : List Nat} {L : List Res} {e : Env}
variable {d : Option Tmp} {ty : TypeId} {pos : String} {aft : Array Edge} {gd : Option (Nat × Bool)}
theorem Src.str {P : Program} {w : World} (s : Str) : Src P w 1 s.length (str s) (s.map encB) := by
  have hz : (ByteArray.mk s.toArray).size = s.length := by simp [ByteArray.size]
  refine ⟨fun w' _ => ?_, ?_, by simp, ?_⟩
  · have e := Lib.run_firstCells_string (P := P) w' 1 (ByteArray.mk s.toArray)
    rw [hz] at e
    refine e.trans ?_
    rfl
  · show (pure (ByteArray.mk s.toArray).size : Sem Nat).run P w = _
    rw [hz]
    rfl
  · intro u hu
    obtain ⟨c, _, rfl⟩ := List.mem_map.1 hu
    rfl
theorem JO.appendS (i : Nat) {t u el k m c q by' : Nat} {x y : Operand} {vy : Value} {a : Option Addr} {cs news : List Value} {ti : TypeInfo} {z : Value}
    (hL : L[i]? = some (.row (.slice a m c) el k m cs)) (ht : P.underlying t = some (.slice el)) (hu : P.underlying u = some .string)
    (hti : ∀ w, (typeInfo el).run P w = .ok ti w) (hk : ti.size = k) (hby : ti.bytes = by') (hz : ti.zero = some z) (hzc : z.cells.size = k)
    (hx : rd n e x = .slice a m c) (hy : rd n e y = vy) (hsrc : ∀ w, St w0 D L w → Src P w k q vy news) (hb : (m + q) * by' ≤ 140737488355328) (hmax : m + q ≤ 9223372036854775807) :
    JO P n w0 D L e ⟨d, .call ⟨.builtin .append, #[x, y], #[t, u]⟩, ty, pos, aft, gd⟩ (fun v L' => ∃ a' c', v = .slice a' (m + q) c' ∧ L' = L.set i (.row (.slice a' (m + q) c') el k (m + q) (cs ++ news))) := JO.ofRun fun w hw => by
  have hrow := hw.get hL
  obtain ⟨hnf, hlen, hnl, hone⟩ := hsrc w hw
  have hnews := hnf w rfl
  have hnewsD : (Builtin.firstCells k q vy).run P w.drew = .ok news.toArray w.drew := hnf w.drew rfl
  have h63 : ¬ (9223372036854775807 < ((m : Int) + (q : Int))) := by omega
  have hsl : cs.length = m * k := hrow.1
  by_cases hroom : m + q ≤ c
  · rcases hrow.2 with ⟨hv, h0⟩ | ⟨g, cap, cur, hv, hg0, hg, h1, h2, h3, h4⟩
    · simp only [Value.slice.injEq] at hv
      obtain ⟨rfl, rfl, rfl⟩ := hv
      have hq : q = 0 := by omega
      subst hq
      have hn0 : news = [] := by simpa using hnl
      subst hn0
      refine ⟨_, _, w, ?_, ⟨none, 0, rfl, rfl⟩, ?_⟩
      · simp [execOp, resolve, invoke, builtin, hx, hy, Builtin.append_, run_underlying ht, run_underlying hu, sizeOf, hti, hk, hlen, hnews]
      · have : L.set i (.row (.slice none (0 + 0) 0) el k (0 + 0) (cs ++ [])) = L := by
          rw [List.append_nil]
          exact List.ext_getElem? fun j => by
            rw [List.getElem?_set]
            split
            · rename_i hij; subst hij; split <;> simp_all
            · rfl
        rw [this]; exact hw
    · simp only [Value.slice.injEq] at hv
      obtain ⟨rfl, _, rfl⟩ := hv
      have hfit : m * k + 0 + news.length ≤ cur.size := by
        refine Nat.le_trans ?_ h3
        rw [hnl, Nat.add_zero, ← Nat.add_mul]; exact Nat.mul_le_mul_right _ hroom
      have hst := run_storeCells_R P g (m * k) el news 0 cur w hg hfit hone
      simp only [Nat.add_zero] at hst
      refine ⟨_, _, w.setRow g (cur.toList.take (m * k) ++ news ++ cur.toList.drop (m * k + news.length)).toArray, ?_, ⟨some ⟨g, 0, none⟩, c, rfl, rfl⟩, ?_⟩
      · simp [execOp, resolve, invoke, builtin, hx, hy, Builtin.append_, run_underlying ht, run_underlying hu, sizeOf, hti, hk, hlen, hnews, hroom, add_lit, hst]
      · refine hw.turn1 hL rfl rfl rfl (by simp) (fun q' _ hq' => setRow_other w g q' _ (by simpa [Res.ids, Value.ownBlock] using hq')) ?_ (by simp [Res.ids, Value.ownBlock]) (fun q' hq' => .inl (by simpa [Res.ids, Value.ownBlock] using hq'))
        refine ⟨by rw [List.length_append, hsl, hnl, Nat.add_mul], .inr ⟨g, c, _, rfl, hg0, hg.setRow (by simp only [List.size_toArray, List.length_append, List.length_take, List.length_drop, Array.length_toList]; omega), hroom, h2, ?_, ?_⟩⟩
        · simp only [List.size_toArray, List.length_append, List.length_take, List.length_drop, Array.length_toList]
          omega
        · rw [h4, List.append_assoc, ← List.append_assoc cs]
          rw [List.take_append_of_le_length (by rw [List.length_append, hsl, hnl, Nat.add_mul]; exact Nat.le_refl _)]
          exact List.take_of_length_le (by rw [List.length_append, hsl, hnl, Nat.add_mul]; exact Nat.le_refl _)
  · have hnr : ¬ (m + q ≤ c) := hroom
    have h48 : ¬ (281474976710656 < Builtin.nextslicecap (m + q) c * by') := by
      have := growslice_fits (need := m + q) (old := c) (bytes := by') (by omega) hb
      omega
    have hold : (Builtin.firstCells k m (.slice a m c)).run P w.drew = .ok cs.toArray w.drew := by
      rcases hrow.2 with ⟨hv, h0⟩ | ⟨g, cap, cur, hv, hg0, hg, h1, h2, h3, h4⟩
      · simp only [Value.slice.injEq] at hv
        obtain ⟨rfl, rfl, rfl⟩ := hv
        simp only [Nat.zero_mul, List.length_eq_zero_iff] at hsl
        subst hsl
        simp [Builtin.firstCells]
      · simp only [Value.slice.injEq] at hv
        obtain ⟨rfl, _, rfl⟩ := hv
        refine run_firstCells_some w.drew k m ⟨g, 0, none⟩ m c cs hsl fun j v hj => ?_
        obtain ⟨g', hg', hc'⟩ := row_cell hrow hj
        simp only [Option.some.injEq, Addr.mk.injEq, and_true] at hg'
        rw [add_lit, Nat.zero_add, hg', World.cell?_drew]
        exact hc'
    have hgc := grownCap_ge w (m + q) c el
    have hgm := grownCap_le_maxLen w (m + q) c el (by unfold maxLen; omega)
    have hrest : (Builtin.zeroCells z.cells (grownCap w (m + q) c el - (m + q))).size = (grownCap w (m + q) c el - (m + q)) * k := by rw [size_zeroCells, hzc]
    have hst := (hw.drew).turn (A := [.row (.slice a m c) el k m cs]) (F := L.eraseIdx i)
      (A' := [.row (.slice (some ⟨w.heap.size, 0, none⟩) (m + q) (grownCap w (m + q) c el)) el k (m + q) (cs ++ news)])
      (w' := w.drew.alloc (.cells (cs.toArray ++ news.toArray ++ Builtin.zeroCells z.cells (grownCap w (m + q) c el - (m + q))) el))
      (perm_set i _ (.row (.slice a m c) el k m cs) hL).1 rfl rfl rfl (by simp) (fun q' hq' _ => Below.heap_alloc _ _ _ hq') (by
        intro r hr
        simp only [List.mem_singleton] at hr
        subst hr
        refine ⟨by rw [List.length_append, hsl, hnl, Nat.add_mul], .inr ⟨w.heap.size, _, _, rfl, Nat.zero_le _, CellsAt.new w.drew _ _, hgc, hgm, ?_, ?_⟩⟩
        · refine Nat.le_of_eq (Eq.symm ?_)
          simp only [Array.size_append, List.size_toArray, hsl, hnl, hrest]
          rw [← Nat.add_mul, ← Nat.add_mul]
          congr 1
          omega
        · simp only [Array.toList_append]
          rw [List.take_append_of_le_length (by rw [List.length_append, hsl, hnl, Nat.add_mul]; exact Nat.le_refl _)]
          exact List.take_of_length_le (by rw [List.length_append, hsl, hnl, Nat.add_mul]; exact Nat.le_refl _)) (by simp [idsOf, Res.ids, Value.ownBlock]) (by
        intro j hj
        simp only [idsOf, Res.ids, Value.ownBlock, List.flatMap_cons, List.flatMap_nil, List.append_nil, Option.mem_toList, Option.some.injEq] at hj
        exact .inr (by rw [← hj]; exact Nat.le_refl _))
    refine ⟨_, _, _, ?_, ⟨some ⟨w.heap.size, 0, none⟩, grownCap w (m + q) c el, rfl, rfl⟩, hst.perm (perm_set i _ _ hL).2⟩
    have h63' : ¬ (9223372036854775807 < ((m : Int) + (q : Int))) := h63
    simp [execOp, resolve, invoke, builtin, hx, hy, Builtin.append_, run_underlying ht, run_underlying hu, sizeOf, hti, hk, hby, hz, hlen, hnr, h63, h48, Question.forced, hold, hnewsD, newRow, zeroValue, grownCap]
    congr 2
    apply Array.ext'
    simp [List.append_assoc]
theorem JO.appendS' (i : Nat) {t u el k m c q by' n' : Nat} {x y : Operand} {vy : Value} {a : Option Addr} {cs news cs' : List Value} {ti : TypeInfo} {z : Value}
    (hL : L[i]? = some (.row (.slice a m c) el k m cs)) (ht : P.underlying t = some (.slice el)) (hu : P.underlying u = some .string)
    (hti : ∀ w, (typeInfo el).run P w = .ok ti w) (hk : ti.size = k) (hby : ti.bytes = by') (hz : ti.zero = some z) (hzc : z.cells.size = k)
    (hx : rd n e x = .slice a m c) (hy : rd n e y = vy) (hsrc : ∀ w, St w0 D L w → Src P w k q vy news) (hb : (m + q) * by' ≤ 140737488355328) (hmax : m + q ≤ 9223372036854775807) (hn : m + q = n') (hc : cs ++ news = cs') :
    JO P n w0 D L e ⟨d, .call ⟨.builtin .append, #[x, y], #[t, u]⟩, ty, pos, aft, gd⟩ (fun v L' => ∃ a' c', v = .slice a' n' c' ∧ L' = L.set i (.row (.slice a' n' c') el k n' cs')) := by
  subst hn; subst hc
  exact JO.appendS i hL ht hu hti hk hby hz hzc hx hy hsrc hb hmax
end
end Go.Proofs.YtjncpgcccgdeiaaGreatDoor
