/-
  Texts of the walk, joined: what each one proves stands at its theorems.
-/
import Derived.Test.YtjncpgcccgdeiaaGreatDoorOpenZ
import Derived.Lib.ItoaLen
import Derived.Lib.SmallJoins
import Derived.Shelf.LaysM
import Derived.Shelf.LaysC
import Derived.Shelf.Strconv.Itoa3
import Derived.Shelf.Strconv.AtoiAll
import Derived.Shelf.Strconv.ErrVarAll
import Derived.Shelf.Hex.More
import Derived.Shelf.Hex.DecodeOwns
import Derived.Test.YtjncpgcccgdeiaaGreatDoorProg
import Derived.Lib.Strings
import Derived.Lib.MinMax
set_option linter.unusedSimpArgs false
set_option linter.unusedVariables false
set_option linter.unnecessarySimpa false
namespace Go.Proofs.YtjncpgcccgdeiaaGreatDoor
open Go Go.RowKit Go.ChangeShapes Go.WideShapes Go.ChangeAt

def OneLaid (P : Program) (w : World) (n : String) (d : DataW Unit) : Prop :=
  ∃ g t cs fuel p, P.globalNamed n = some g ∧ (P.globals[g]?).map (·.type) = some t ∧ w.var? P n = some cs ∧ DataW.trod (fun _ => ()) P w 0 (fun _ => true) false fuel t cs.toList = some (d, p)
section
variable {P : Program} {w : World}
theorem laidVars_get : ∀ {laid : List (String × DataW Unit)} {ps : List MemPlace} (_ : DataW.LaidVars P w laid ps) (i : Nat) {n : String} {d : DataW Unit}, laid[i]? = some (n, d) → OneLaid P w n d
  | [], _, _, i, n, d, hi => by simp at hi
  | (n', d') :: r, ps, h, 0, n, d, hi => by
    simp only [List.getElem?_cons_zero, Option.some.injEq, Prod.mk.injEq] at hi
    obtain ⟨rfl, rfl⟩ := hi
    obtain ⟨g, t, cs, f, p, _, a, b, e, h, _⟩ := h
    exact ⟨g, t, cs, f, p, a, b, e, h⟩
  | (n', d') :: r, ps, h, i + 1, n, d, hi => by
    obtain ⟨_, _, _, _, _, q, _, _, _, _, h2, _⟩ := h
    exact laidVars_get h2 i (by simpa using hi)
theorem laid_get {laid : List (String × DataW Unit)} (h : laidMet P laid w) (i : Nat) {n : String} {d : DataW Unit} (hi : laid[i]? = some (n, d)) : OneLaid P w n d := by
  obtain ⟨_, h, _⟩ := h
  exact laidVars_get h i hi
theorem OneLaid.tab {n : String} {k : IntKind} {zs : List Int} {g t e m : Nat} (h : OneLaid P w n (Lib.tabData k zs)) (hg : P.globalNamed n = some g) (hty : (P.globals[g]?).map (·.type) = some t) (ht : P.underlying t = some (.array m e)) (he : P.underlying e = some (.int k)) (hce : P.cellsOf e = 1) (hct : P.cellsOf t = m) : Lib.TabIs P w n k zs := by
  obtain ⟨g', t', cs, fuel, p, h1, h2, h3, h4⟩ := h
  obtain rfl := Option.some.inj (hg.symm.trans h1)
  obtain rfl := Option.some.inj (hty.symm.trans h2)
  unfold Lib.TabIs
  rw [h3, ← Lib.cells_of_tab ht he hce hct h4]
theorem OneLaid.iface {n s : String} {x : DataW Unit} {g t : Nat} {ms : Array (String × TypeId)} (h : OneLaid P w n (.iface s x)) (hg : P.globalNamed n = some g) (hty : (P.globals[g]?).map (·.type) = some t) (ht : P.underlying t = some (.interface ms)) : ∃ tp p, w.var? P n = some #[.iface tp p] := by
  obtain ⟨g', t', cs, fuel, p, h1, h2, h3, h4⟩ := h
  obtain rfl := Option.some.inj (hg.symm.trans h1)
  obtain rfl := Option.some.inj (hty.symm.trans h2)
  cases fuel with
  | zero => simp [DataW.trod] at h4
  | succ fuel =>
    unfold DataW.trod at h4
    rw [ht] at h4
    split at h4 <;> simp_all
    rename_i u v _ hcs
    exact ⟨u, v, Array.ext' hcs⟩
end
theorem laid_out : laidOutB Tryz.prog = true := by kernel_rfl
theorem own_godebug : ownKnob Tryz.prog.godebug = none := by kernel_rfl
def litOf {H : Type} : DataW H → List Value
  | .lit (.int k n) => [Value.int k n]
  | .agg ds => ds.map fun d => match d with | .lit (.int k n) => Value.int k n | _ => undef
  | _ => [undef]
def litsOf {H : Type} : DataW H → List Value
  | .agg ds => ds.flatMap litOf
  | _ => []
/-- Every package-level variable has its block. -/
theorem room_of {W : World} (h : W.ShapedOpen Tryz.prog) : GB ≤ W.heap.size := by
  have hr : (((begin Tryz.prog (fun _ _ => 0) default).world.heap[GB - 1]?).bind Obj.row?).isSome = true := by kernel_rfl
  cases hq : ((begin Tryz.prog (fun _ _ => 0) default).world.heap[GB - 1]?).bind Obj.row? with
  | none => rw [hq] at hr; cases hr
  | some x =>
    obtain ⟨zero, t⟩ := x
    obtain ⟨cs, hc, _⟩ := h.1 (GB - 1) zero t (by rw [show Tryz.prog.globals.size = GB from by kernel_rfl]; decide) hq
    have := (Array.getElem?_eq_some_iff.1 hc).1
    unfold GB at *
    omega
end Go.Proofs.YtjncpgcccgdeiaaGreatDoor

set_option linter.unusedSimpArgs false
set_option linter.unusedVariables false
set_option linter.unnecessarySimpa false
namespace Go.Proofs.YtjncpgcccgdeiaaGreatDoor
open Go Go.RowKit

/-- Bounds of a machine: how many cells, how many spans on each list, how long a cell's texts. -/
def MS.ok (S T : Nat) (m : MS) : Prop := m.s.length ≤ S ∧ m.r.length ≤ T ∧ m.w.length ≤ T ∧ ∀ c ∈ m.s, c.1.length ≤ 1048576 ∧ c.2.length ≤ 1048576
theorem MS.ok.mono {S T S' T' : Nat} {m : MS} (h : m.ok S T) (hS : S ≤ S') (hT : T ≤ T') : m.ok S' T' := ⟨by have := h.1; omega, by have := h.2.1; omega, by have := h.2.2.1; omega, h.2.2.2⟩
theorem insertAt_mem {α : Type} {i : Nat} {x y : α} {l : List α} (h : y ∈ insertAt i x l) : y = x ∨ y ∈ l := by
  unfold insertAt at h
  simp only [List.mem_append, List.mem_cons] at h
  rcases h with h | h | h
  · exact .inr (List.mem_of_mem_take h)
  · exact .inl h
  · exact .inr (List.mem_of_mem_drop h)
theorem putKey_mem {s : List Cell} {key val : Str} {c : Cell} (h : c ∈ putKey s key val) : c ∈ s ∨ (c = (key, val) ∧ key.length ≤ 40 ∧ val.length ≤ 60) := by
  unfold putKey at h
  split at h
  · exact .inl h
  · rename_i hk
    simp only [Bool.or_eq_true, Bool.not_eq_true', decide_eq_true_eq, not_or, Bool.not_eq_false] at hk
    simp only at h
    split at h
    · exact .inl (List.mem_filter.1 h).1
    · rcases insertAt_mem h with h | h
      · refine .inr ⟨h, ?_, by omega⟩
        have := hk.1
        simp only [keyOk, Bool.and_eq_true, decide_eq_true_eq] at this
        exact this.2
      · exact .inl (List.mem_filter.1 h).1
theorem MS.ok.look {S T : Nat} {m : MS} (h : m.ok S T) (key : Str) : (m.look key).1.ok S (T + 1) := by
  have := look_len m key
  exact ⟨by have := h.1; omega, by have := h.2.1; omega, by have := h.2.2.1; omega, h.2.2.2⟩
theorem getD_mem {α : Type} {l : List α} {j : Nat} {d : α} (h : j < l.length) : l.getD j d ∈ l := by
  rw [List.getD_eq_getElem?_getD, List.getElem?_eq_getElem h]
  exact List.getElem_mem h
/- names -/
/- hexadecimal texts -/
def hexFig (x : Nat) : UInt8 := if x < 10 then UInt8.ofNat (48 + x) else UInt8.ofNat (87 + x)
def hexB : Str → Str
  | [] => []
  | c :: s => hexFig (c.toNat / 16) :: hexFig (c.toNat % 16) :: hexB s
def hexS (s : Str) : Str := if 20000 < s.length then [] else hexB s
def hexVal (c : UInt8) : Option Nat := if 48 ≤ c.toNat ∧ c.toNat ≤ 57 then some (c.toNat - 48) else if 97 ≤ c.toNat ∧ c.toNat ≤ 102 then some (c.toNat - 87) else none
def unhexL : Str → Option Str
  | [] => some []
  | [_] => none
  | a :: b :: t => match hexVal a, hexVal b, unhexL t with
    | some h, some l, some r => some (UInt8.ofNat (16 * h + l) :: r)
    | _, _, _ => none
def unhex (t : Str) : Str × Bool := if 40000 < t.length then ([], false) else match unhexL t with
  | some r => (r, true)
  | none => ([], false)
theorem hexB_len : ∀ s : Str, (hexB s).length = 2 * s.length
  | [] => rfl
  | c :: s => by simp only [hexB, List.length_cons, hexB_len s]; omega
theorem unhexL_len : ∀ (t r : Str), unhexL t = some r → 2 * r.length = t.length
  | [], r, h => by simp only [unhexL, Option.some.injEq] at h; subst h; rfl
  | [_], r, h => by simp [unhexL] at h
  | a :: b :: t, r, h => by
    unfold unhexL at h
    split at h
    · rename_i hh ll rr h1 h2 h3
      simp only [Option.some.injEq] at h
      subst h
      have := unhexL_len t rr h3
      simp only [List.length_cons]
      omega
    · cases h
theorem unhex_len (t : Str) : (unhex t).1.length ≤ 20000 := by
  unfold unhex
  split
  · simp
  · split
    · rename_i r h
      have := unhexL_len t r h
      simp only
      omega
    · simp
namespace MS
/- files -/
def sizeOf (m : MS) (id : Int) : MS × Int := m.num (keyNum ([105, 47] : Str) id ([47, 115] : Str))
def block (m : MS) (id place : Int) : MS × Str := match m.look (keyNum (keyNum ([105, 47] : Str) id ([47, 98, 47] : Str)) place []) with | (m, v) => (m, (unhex v).1)

/- pipes -/
/- processes -/
def state (m : MS) (id : Int) : MS × Int := m.num (keyNum ([114, 47] : Str) id ([47, 115] : Str))
/- signals -/
/- pages -/
/- output -/
end MS
end Go.Proofs.YtjncpgcccgdeiaaGreatDoor

set_option linter.unusedSimpArgs false
set_option linter.unusedVariables false
set_option linter.unnecessarySimpa false
namespace Go.Proofs.YtjncpgcccgdeiaaGreatDoor
open Go Go.RowKit

/-- A call; what it is answered. -/
structure CL where
  kind : Int
  name : Str
  to_ : Str
  a : Int
  b : Int
  text : Str
structure AN where
  code : Int
  n : Int
  text : Str
structure CL.ok (c : CL) (B : Nat) : Prop where
  h1 : -9223372036854775808 ≤ c.kind ∧ c.kind ≤ 9223372036854775807
  h2 : -9223372036854775808 ≤ c.a ∧ c.a ≤ 9223372036854775807
  h3 : -9223372036854775808 ≤ c.b ∧ c.b ≤ 9223372036854775807
  h4 : c.name.length ≤ B
  h5 : c.to_.length ≤ B
  h6 : c.text.length ≤ B
def bro (x : Int) (y : Nat) : Nat := min x.toNat y
theorem bro_le (x : Int) (y : Nat) : bro x y ≤ y := Nat.min_le_right _ _
end Go.Proofs.YtjncpgcccgdeiaaGreatDoor

set_option linter.unusedSimpArgs false
set_option linter.unusedVariables false
set_option linter.unnecessarySimpa false
namespace Go.Proofs.YtjncpgcccgdeiaaGreatDoor
open Go Go.RowKit
/-- A step: who, which call. -/
structure SP where
  proc : Int
  call : CL
def k0 : CL := ⟨0, [], [], 0, 0, []⟩
section
variable {α : Type} {enc : α → List Value} {k : Nat}
theorem flat_one (h : ∀ x, ∀ u ∈ enc x, u.oneCell' = true) (l : List α) : ∀ u ∈ l.flatMap enc, u.oneCell' = true := fun u hu => by
  obtain ⟨c, _, hc⟩ := List.mem_flatMap.1 hu
  exact h c u hc
theorem flat_set1 (hk : ∀ x, (enc x).length = k) (d : α) {s : List α} {i f : Nat} {v : Value} {y : α} (h : i < s.length) (hf : f < k) (hy : (enc (s.getD i d)).set f v = enc y) :
    (s.flatMap enc).take (i * k + f) ++ [v] ++ (s.flatMap enc).drop (i * k + f + 1) = (s.set i y).flatMap enc := by
  have hl := flat_length hk s
  have hx : (s.flatMap enc) = (s.flatMap enc).take (i * k) ++ enc (s.getD i d) ++ (s.flatMap enc).drop (i * k + k) := by
    have h1 := flat_take hk d s i h
    have h2 : (s.flatMap enc) = (s.flatMap enc).take (i * k) ++ (s.flatMap enc).drop (i * k) := (List.take_append_drop _ _).symm
    have h3 : (s.flatMap enc).drop (i * k) = ((s.flatMap enc).drop (i * k)).take k ++ ((s.flatMap enc).drop (i * k)).drop k := (List.take_append_drop _ _).symm
    rw [h1, List.drop_drop] at h3
    rw [List.append_assoc, ← h3]
    exact h2
  have hle : i * k + k ≤ s.length * k := by
    have : (i + 1) * k ≤ s.length * k := Nat.mul_le_mul_right k h
    rwa [Nat.succ_mul] at this
  have hlen : ((s.flatMap enc).take (i * k)).length = i * k := by rw [List.length_take, hl]; omega
  have hset : (s.flatMap enc).set (i * k + f) v = (s.set i y).flatMap enc := by
    rw [← flat_set hk s i y h, ← hy]
    conv => lhs; rw [hx]
    rw [List.append_assoc, List.set_append_right _ _ (by omega), hlen, show i * k + f - i * k = f by omega, List.set_append_left _ _ (by rw [hk]; exact hf), List.append_assoc]
  rw [← hset, List.set_eq_take_append_cons_drop, if_pos (by rw [hl]; omega)]
  simp
end
/- measures, marks, equality -/
instance decCL : DecidableEq CL := fun a b => decidable_of_iff (a.kind = b.kind ∧ a.name = b.name ∧ a.to_ = b.to_ ∧ a.a = b.a ∧ a.b = b.b ∧ a.text = b.text) (by cases a; cases b; simp)
instance decAN : DecidableEq AN := fun a b => decidable_of_iff (a.code = b.code ∧ a.n = b.n ∧ a.text = b.text) (by cases a; cases b; simp)
instance decSP : DecidableEq SP := fun a b => decidable_of_iff (a.proc = b.proc ∧ a.call = b.call) (by cases a; cases b; simp)
end Go.Proofs.YtjncpgcccgdeiaaGreatDoor

set_option linter.unusedSimpArgs false
set_option linter.unusedVariables false
set_option linter.unnecessarySimpa false
namespace Go.Proofs.YtjncpgcccgdeiaaGreatDoor
open Go Go.RowKit
/-- A transaction; where its five rows lie. -/
structure TD where
  id : Int
  age : Int
  proc : Int
  began : Int
  calls : List CL
  ans : List AN
  rd : List Str
  wr : List Str
  marks : List Int
  state : Int
def TD.new (a b c : Int) : TD := ⟨a, b, c, 0, [], [], [], [], [], 1⟩
def TD.back (t : TD) (k : Int) : TD × Bool :=
  if t.state = 1 ∧ 1 ≤ k ∧ k ≤ (t.marks.length : Int) then
    ({ t with calls := t.calls.take (bro (t.marks.getD (k - 1).toNat 0) t.calls.length), ans := t.ans.take (bro (t.marks.getD (k - 1).toNat 0) t.ans.length), marks := t.marks.take (k - 1).toNat }, true)
  else (t, false)
structure TD.ok (t : TD) (n : Nat) : Prop where
  h1 : -9223372036854775808 ≤ t.id ∧ t.id ≤ 9223372036854775807
  h2 : -9223372036854775808 ≤ t.age ∧ t.age ≤ 9223372036854775807
  h3 : -9223372036854775808 ≤ t.proc ∧ t.proc ≤ 9223372036854775807
  h4 : -9223372036854775808 ≤ t.began ∧ t.began ≤ 9223372036854775807
  h5 : -9223372036854775808 ≤ t.state ∧ t.state ≤ 9223372036854775807
  hc : t.calls.length ≤ n
  ha : t.ans.length ≤ n
  hr : t.rd.length ≤ n
  hw : t.wr.length ≤ n
  hm : t.marks.length ≤ n
end Go.Proofs.YtjncpgcccgdeiaaGreatDoor

set_option linter.unusedSimpArgs false
set_option linter.unusedVariables false
set_option linter.unnecessarySimpa false
namespace Go.Proofs.YtjncpgcccgdeiaaGreatDoor
open Go Go.RowKit
/-- A told row can be read; each of some. -/
def RD.sees (w : World) (r : RD) : Prop := Sees w r.v r.k r.n r.cs
def SeesA (w : World) (rs : List RD) : Prop := ∀ r ∈ rs, r.sees w
section
variable {w0 w : World} {D : List Nat} {L F : List Res} {rs A B C : List RD} {r : RD}
theorem SeesA.nil : SeesA w [] := fun _ h => by cases h
theorem SeesA.cons (h : r.sees w) (h' : SeesA w rs) : SeesA w (r :: rs) := fun q hq => by
  rcases List.mem_cons.1 hq with rfl | hq
  · exact h
  · exact h' q hq
theorem SeesA.head (h : SeesA w (r :: rs)) : r.sees w := h r (List.mem_cons_self ..)
theorem SeesA.tail (h : SeesA w (r :: rs)) : SeesA w rs := fun q hq => h q (List.mem_cons_of_mem _ hq)
theorem SeesA.left (h : SeesA w (A ++ B)) : SeesA w A := fun q hq => h q (List.mem_append_left _ hq)
theorem SeesA.elem {α : Type} {f : α → List RD} {l : List α} (h : SeesA w (l.flatMap f)) {j : Nat} (d : α) (hj : j < l.length) : SeesA w (f (l.getD j d)) := fun q hq => h q (List.mem_flatMap.2 ⟨_, getD_mem hj, hq⟩)
theorem ownsR_sees {t k n : Nat} {v : Value} {cs : List Value} (h : World.ownsR w 0 t k v n cs) : Sees w v k n cs := by
  refine ⟨h.1, ?_⟩
  rcases h.2 with ⟨hv, rfl⟩ | ⟨g, cap, cur, hv, _, hg, h1, h2, h3, h4⟩
  · exact .inl ⟨hv, rfl⟩
  · subst hv
    refine .inr ⟨g, 0, cap, rfl, h1, h2, hg.lt, fun j u hj => ?_⟩
    obtain ⟨g', hg', hcell⟩ := row_cell h hj
    simp only [Option.some.injEq, Addr.mk.injEq, and_true] at hg'
    rw [Nat.zero_add, hg']
    exact hcell
theorem St.seeRows (hw : St w0 D L w) (i : Nat) (hL : L[i]? = some (.rows rs)) : SeesA w rs := fun r hr => ownsR_sees (hw.get hL r hr)
theorem St.seeOutA (hw : St w0 D L w) (hs : SeesA w0 rs) (hD : ∀ r ∈ rs, ∀ b, r.v.ownBlock = some b → b ∉ D) : SeesA w rs := fun r hr => hw.seeOut_ (hs r hr) (hD r hr)
theorem nMA : ∀ r ∈ rs, ∀ b, r.v.ownBlock = some b → b ∉ ([] : List Nat) := fun _ _ _ _ => List.not_mem_nil
/-- It can be read, or it is empty, wherever it points. -/
def SeesE (w : World) (v : Value) (k m : Nat) (cs : List Value) : Prop := Sees w v k m cs ∨ ((∃ a, v = .slice a 0 0) ∧ m = 0 ∧ cs = [])
def SeesAE (w : World) (rs : List RD) : Prop := ∀ r ∈ rs, SeesE w r.v r.k r.n r.cs
theorem SeesAE.nil : SeesAE w [] := fun _ h => by cases h
theorem SeesAE.cons (h : SeesE w r.v r.k r.n r.cs) (h' : SeesAE w rs) : SeesAE w (r :: rs) := fun q hq => by
  rcases List.mem_cons.1 hq with rfl | hq
  · exact h
  · exact h' q hq
theorem SeesAE.head (h : SeesAE w (r :: rs)) : SeesE w r.v r.k r.n r.cs := h r (List.mem_cons_self ..)
theorem SeesAE.tail (h : SeesAE w (r :: rs)) : SeesAE w rs := fun q hq => h q (List.mem_cons_of_mem _ hq)
theorem SeesAE.left (h : SeesAE w (A ++ B)) : SeesAE w A := fun q hq => h q (List.mem_append_left _ hq)
theorem SeesAE.elem {α : Type} {f : α → List RD} {l : List α} (h : SeesAE w (l.flatMap f)) {j : Nat} (d : α) (hj : j < l.length) : SeesAE w (f (l.getD j d)) := fun q hq => h q (List.mem_flatMap.2 ⟨_, getD_mem hj, hq⟩)
/- the owned rows, parted and joined -/
theorem St.openR (i : Nat) (hp : pick [i] L = some ([.rows A], F)) (hw : St w0 D L w) : St w0 D (A.map RD.res ++ F) w := St.openRows (hw.perm (pick_perm [i] hp).symm)
theorem St.closeR (is : List Nat) (hp : pick is L = some (A.map RD.res, F)) (hw : St w0 D L w) : St w0 D (.rows A :: F) w := St.closeRows (hw.perm (pick_perm is hp).symm)
theorem St.splitR (i : Nat) (hp : pick [i] L = some ([.rows rs], F)) (e : rs = A ++ (B ++ C)) (hw : St w0 D L w) : St w0 D (.rows A :: .rows B :: .rows C :: F) w := by
  subst e
  have h1 := (hw.perm (pick_perm [i] hp).symm).rowsApp
  have h2 : St w0 D (.rows (B ++ C) :: .rows A :: F) w := h1.perm (List.Perm.swap _ _ _)
  have h3 := h2.rowsApp
  exact h3.perm ((List.Perm.swap _ _ _).trans (List.Perm.cons _ (List.Perm.swap _ _ _)))
theorem St.addR (is : List Nat) (hp : pick is L = some ([.rows A, .rows B], F)) (e : rs = A ++ B) (hw : St w0 D L w) : St w0 D (.rows rs :: F) w := by
  subst e
  exact (hw.perm (pick_perm is hp).symm).appRows
theorem St.joinR (is : List Nat) (hp : pick is L = some ([.rows A, .rows B, .rows C], F)) (e : rs = A ++ (B ++ C)) (hw : St w0 D L w) : St w0 D (.rows rs :: F) w := by
  subst e
  have h1 := hw.perm (pick_perm is hp).symm
  have h2 : St w0 D (.rows B :: .rows C :: .rows A :: F) w := h1.perm ((List.Perm.cons _ (List.Perm.swap _ _ _)).trans (List.Perm.swap _ _ _))
  have h3 := h2.appRows
  exact (h3.perm (List.Perm.swap _ _ _)).appRows
end
section
variable {P : Program} {ops : Array Oper} {Q : Exit → Act → World → Prop} {n : Nat} {w0 : World} {D : List Nat} {L L' : List Res} {e : Env}
theorem kT {c : Code} (g : ∀ w, St w0 D L w → St w0 D L' w) (h : JC P Q n w0 D L' c e) : JC P Q n w0 D L c e := fun w hw => h w (g w hw)
theorem ju {x : Exit} (g : ∀ w, St w0 D L w → St w0 D L' w) (h : JQ Q x n w0 D L' e) : JQ Q x n w0 D L e := fun w hw => h w (g w hw)
theorem St.eqL {w : World} (hL : L = L') (hw : St w0 D L w) : St w0 D L' w := hL ▸ hw
/-- A contract, told otherwise. -/
theorem Ct.conv {f : FuncId} {args : List Value} {A : List Res} {Pre Pre' : World → Prop} {Post Post' : Value → List Res → Prop} (h : Ct P f args A Pre Post) (h1 : ∀ w, Has A w → Pre' w → Pre w)
    (h2 : ∀ w0 v A' w, Post v A' → St w0 (idsOf A) A' w → ∃ A'', Post' v A'' ∧ St w0 (idsOf A) A'' w) : Ct P f args A Pre' Post' := fun w hA hp =>
  (h w hA (h1 w hA hp)).mono fun e w' he => by
    obtain ⟨v, A', rfl, hpost, hst⟩ := he
    obtain ⟨A'', hp', hst'⟩ := h2 w v A' w' hpost hst
    exact ⟨v, A'', rfl, hp', hst'⟩
section
variable {d : Option Tmp} {ty : TypeId} {pos : String} {aft : Array Edge} {gd : Option (Nat × Bool)}
theorem equal_bool {t : TypeId} (ht : P.underlying t = some .bool) (a b : Bool) (w : World) : (Op.equal t (.bool a) (.bool b)).run P w = .ok (decide (a = b)) w := by
  have h : ∀ d : Nat, (Op.equalIn (d + 1) t (.bool a) (.bool b)).run P w = .ok (decide (a = b)) w := fun d => by
    cases a <;> cases b <;> simp [Op.equalIn, run_underlying ht]
  simp only [Op.equal, Op.maxDepth, h 9999]
theorem PO.eqlB {x y : Operand} {a b : Bool} {t u : TypeId} (ht : P.underlying t = some .bool) (hx : rd n e x = .bool a) (hy : rd n e y = .bool b) : PO P n e ⟨d, .binOp .eql t x y u, ty, pos, aft, gd⟩ (.bool (decide (a = b))) := fun w => by
  simp [execOp, hx, hy, eqGuard, binOp, equal_bool ht]
theorem PO.neqB {x y : Operand} {a b : Bool} {t u : TypeId} (ht : P.underlying t = some .bool) (hx : rd n e x = .bool a) (hy : rd n e y = .bool b) : PO P n e ⟨d, .binOp .neq t x y u, ty, pos, aft, gd⟩ (.bool (!decide (a = b))) := fun w => by
  simp [execOp, hx, hy, eqGuard, binOp, equal_bool ht]
end
end
/- a row one of whose elements is told cell by cell -/
section
variable {α : Type} {enc : α → List Value} {k : Nat} {Q R : List α} {j : Nat} {cs : List Value}
def mid (enc : α → List Value) (Q : List α) (cs : List Value) (R : List α) : List Value := Q.flatMap enc ++ (cs ++ R.flatMap enc)
theorem mid_at (hk : ∀ x, (enc x).length = k) (hc : cs.length = k) (hQ : Q.length = j) (f : Nat) (hf : f < k) : (mid enc Q cs R)[j * k + f]? = cs[f]? := by
  have hl := flat_length hk Q
  unfold mid
  rw [List.getElem?_append_right (by rw [hl, hQ]; omega), hl, hQ, Nat.add_sub_cancel_left, List.getElem?_append_left (by omega)]
theorem mid_set (hk : ∀ x, (enc x).length = k) (hc : cs.length = k) (hQ : Q.length = j) (f : Nat) (vs : List Value) (hf : f + vs.length ≤ k) :
    (mid enc Q cs R).take (j * k + f) ++ vs ++ (mid enc Q cs R).drop (j * k + f + vs.length) = mid enc Q (cs.take f ++ vs ++ cs.drop (f + vs.length)) R := by
  have hl := flat_length hk Q
  unfold mid
  rw [List.take_append, List.take_of_length_le (by rw [hl, hQ]; omega), hl, hQ, Nat.add_sub_cancel_left, List.take_append_of_le_length (by omega), Nat.add_assoc, List.drop_append, List.drop_of_length_le (by rw [hl, hQ]; omega), List.nil_append, hl, hQ, Nat.add_sub_cancel_left, List.drop_append_of_le_length (by omega)]
  simp only [List.append_assoc]
theorem mid_len (hk : ∀ x, (enc x).length = k) (hc : cs.length = k) : (mid enc Q cs R).length = (Q.length + 1 + R.length) * k := by
  unfold mid
  rw [List.length_append, List.length_append, flat_length hk, flat_length hk, hc, Nat.add_mul, Nat.add_mul, Nat.one_mul, Nat.add_assoc]
theorem mid_fit (hk : ∀ x, (enc x).length = k) (hc : cs.length = k) (hQ : Q.length = j) {f m : Nat} (hf : f + m ≤ k) : j * k + f + m ≤ (mid enc Q cs R).length := by
  rw [mid_len hk hc, hQ, Nat.add_assoc j, Nat.add_mul, Nat.add_mul, Nat.one_mul]
  omega
theorem mid_open {l : List α} (d : α) (hj : j < l.length) : (Q ++ l.drop j).flatMap enc = mid enc Q (enc (l.getD j d)) (l.drop (j + 1)) := by
  unfold mid
  rw [List.flatMap_append, drop_at (getD_some (d := d) hj), List.flatMap_cons]
theorem mid_close {q : α} : mid enc Q (enc q) R = ((Q ++ [q]) ++ R).flatMap enc := by
  unfold mid
  rw [List.flatMap_append, List.flatMap_append, List.flatMap_cons, List.flatMap_nil, List.append_nil, List.append_assoc]
theorem flatMap_snoc {β : Type} {f : α → List β} {l : List α} {y : α} : (l ++ [y]).flatMap f = l.flatMap f ++ f y := by
  rw [List.flatMap_append, List.flatMap_cons, List.flatMap_nil, List.append_nil]
theorem flatMap_mid {β : Type} {f : α → List β} {l : List α} (d : α) (hj : j < l.length) : (Q ++ l.drop j).flatMap f = Q.flatMap f ++ (f (l.getD j d) ++ (l.drop (j + 1)).flatMap f) := by
  rw [List.flatMap_append, drop_at (getD_some (d := d) hj), List.flatMap_cons]
theorem flatMap_at {β : Type} {f : α → List β} {l : List α} (d : α) (hj : j < l.length) : l.flatMap f = (l.take j).flatMap f ++ (f (l.getD j d) ++ (l.drop (j + 1)).flatMap f) := by
  have := flatMap_mid (Q := l.take j) (f := f) d hj
  rwa [List.take_append_drop] at this
theorem flatMap_setAt {β : Type} {f : α → List β} {l : List α} {y : α} (hj : j < l.length) : (l.set j y).flatMap f = (l.take j).flatMap f ++ (f y ++ (l.drop (j + 1)).flatMap f) := by
  rw [List.set_eq_take_append_cons_drop, if_pos hj, List.flatMap_append, List.flatMap_cons]
/- marks of elements that take as many as they are great -/
variable {mk : α → Nat → α} {ct : α → Nat}
theorem take_snoc {l : List α} (d : α) (hj : j < l.length) : l.take (j + 1) = l.take j ++ [l.getD j d] := take_at (getD_some (d := d) hj)
theorem map_take_succ {β : Type} {f : α → β} {l y : List α} {x : α} (d : α) (h : y.map f = (l.take j).map f) (hj : j < l.length) (hx : f x = f (l.getD j d)) : (y ++ [x]).map f = (l.take (j + 1)).map f := by
  simp only [take_snoc d hj, List.map_append, h, List.map_cons, hx, List.map_nil]
theorem map_all {β : Type} {f : α → β} {l y : List α} (h : y.map f = (l.take j).map f) (hj : l.length ≤ j) : y.map f = l.map f := by
  rw [h, List.take_of_length_le hj]
end
/- ghosts on rows told cell by cell -/
section
variable {α : Type} {enc : α → List Value} {k : Nat} {Q R l : List α} {j : Nat} {cs : List Value} {w0 w : World} {D : List Nat} {L F : List Res} {A : List RD} {r : RD} {v : Value} {t n : Nat}
theorem St.midR (i : Nat) (hp : pick [i] L = some ([.row v t k n ((Q ++ l.drop j).flatMap enc)], F)) (d : α) (hj : j < l.length) (hw : St w0 D L w) : St w0 D (.row v t k n (mid enc Q (enc (l.getD j d)) (l.drop (j + 1))) :: F) w := by
  have h := hw.perm (pick_perm [i] hp).symm
  rw [mid_open d hj] at h
  exact h
theorem St.unmid (i : Nat) (hp : pick [i] L = some ([.row v t k n (mid enc Q cs R)], F)) {q : α} (hq : enc q = cs) (hw : St w0 D L w) : St w0 D (.row v t k n (((Q ++ [q]) ++ R).flatMap enc) :: F) w := by
  have h := hw.perm (pick_perm [i] hp).symm
  rw [← hq, mid_close] at h
  exact h
theorem St.headR (i : Nat) (hp : pick [i] L = some ([.rows (r :: A)], F)) (hw : St w0 D L w) : St w0 D (r.res :: .rows A :: F) w := by
  have h := (hw.perm (pick_perm [i] hp).symm).openRows
  have h2 : St w0 D (A.map RD.res ++ (r.res :: F)) w := h.perm (by simp only [List.map_cons]; exact List.perm_middle)
  exact (h2.closeRows).perm (List.Perm.swap _ _ _)
theorem St.consR (is : List Nat) (hp : pick is L = some ([r.res, .rows A], F)) (hw : St w0 D L w) : St w0 D (.rows (r :: A) :: F) w := by
  have h : St w0 D (.rows A :: r.res :: F) w := (hw.perm (pick_perm is hp).symm).perm (List.Perm.swap _ _ _)
  have h2 := h.openRows
  exact St.closeRows (h2.perm (by simp only [List.map_cons]; exact (List.perm_middle).symm))
theorem St.nilR {α : Type} {f : α → List RD} (is : List Nat) {B F : List Res} (hp : pick is L = some (B, F)) (hw : St w0 D L w) : St w0 D (.rows (([] : List α).flatMap f) :: (B ++ F)) w := St.rowsNil (hw.perm (pick_perm is hp).symm)
theorem St.rowsEq (i : Nat) {B : List RD} (hp : pick [i] L = some ([.rows A], F)) (e : A = B) (hw : St w0 D L w) : St w0 D (.rows B :: F) w := by
  subst e
  exact hw.perm (pick_perm [i] hp).symm
end
end Go.Proofs.YtjncpgcccgdeiaaGreatDoor

set_option linter.unusedSimpArgs false
set_option linter.unusedVariables false
set_option linter.unnecessarySimpa false
namespace Go.Proofs.YtjncpgcccgdeiaaGreatDoor
open Go Go.RowKit
theorem map_getD {α β : Type} {f : α → β} (d : α) {s : List α} {j : Nat} (h : j < s.length) : (s.map f)[j]? = some (f (s.getD j d)) := by
  rw [List.getElem?_map, getD_some (d := d) h]; rfl
theorem take_succM_eq {α β : Type} {f : α → β} {s t : List α} {j : Nat} (d : α) (h : (s.take j).map f = (t.take j).map f) (hj : j < s.length) (hl : s.length = t.length) (he : f (s.getD j d) = f (t.getD j d)) : (s.take (j + 1)).map f = (t.take (j + 1)).map f := by
  rw [take_snoc d hj, take_snoc d (by omega), List.map_append, List.map_append, h, List.map_cons, List.map_cons, he]
theorem take_allM_eq {α β : Type} {f : α → β} {s t : List α} {j : Nat} (h : (s.take j).map f = (t.take j).map f) (hj : s.length ≤ j) (hl : s.length = t.length) : s.map f = t.map f := by
  rwa [List.take_of_length_le hj, List.take_of_length_le (by omega)] at h
theorem getM_eq {α β : Type} {f : α → β} {s t : List α} {j : Nat} (d : α) (h : s.map f = t.map f) (hj : j < s.length) (hl : s.length = t.length) : f (s.getD j d) = f (t.getD j d) := by
  have h1 := map_getD (f := f) d hj
  have h2 := map_getD (f := f) (s := t) d (j := j) (by omega)
  rw [h, h2] at h1
  exact (Option.some.inj h1).symm
structure SD where
  seq : Int
  cells : List Cell
  whole : Bool
structure OA where
  a0 : Option Addr
  c0 : Nat
structure OX where
  x : OA
  t : SD
def encO (p : OX) : List Value := [.int .i64 p.t.seq, .slice p.x.a0 p.t.cells.length p.x.c0, .bool p.t.whole]
def rdsO (p : OX) : List RD := [⟨.slice p.x.a0 p.t.cells.length p.x.c0, 48, 2, p.t.cells.length, p.t.cells.flatMap encC⟩]
theorem encO_len (p : OX) : (encO p).length = 3 := rfl
def o0 : OX := ⟨⟨none, 0⟩, ⟨0, [], false⟩⟩
theorem oneO (l : List OX) : ∀ u ∈ l.flatMap encO, u.oneCell' = true := flat_one (fun c u hu => by
  simp only [encO, List.mem_cons, List.not_mem_nil, or_false] at hu
  rcases hu with rfl | rfl | rfl <;> rfl) l
theorem seesO {w : World} {p : OX} (h : SeesA w (rdsO p)) : Sees w (.slice p.x.a0 p.t.cells.length p.x.c0) 2 p.t.cells.length (p.t.cells.flatMap encC) := h.head
theorem SD.same {a b : SD} : a = b ↔ a.seq = b.seq ∧ a.cells = b.cells ∧ a.whole = b.whole := by cases a; cases b; simp
instance decSD : DecidableEq SD := fun a b => decidable_of_iff _ SD.same.symm
structure SD.lim (t : SD) (n : Nat) : Prop where
  l0 : t.cells.length ≤ n
theorem SD.lim.mono {t : SD} {n m : Nat} (h : t.lim n) (hm : n ≤ m) : t.lim m := ⟨Nat.le_trans h.l0 hm⟩
structure SD.okz (t : SD) : Prop where
  k0 : okC t.cells
structure DD where
  slots : List SD
  jt : Str
  js : Int
def DD.new (s : List Cell) : DD := ⟨[⟨0, s, true⟩, ⟨0, [], false⟩], [], 0⟩
/-- A disk and where it lies. -/
structure DX where
  a : Option Addr
  c : Nat
  l : List OX
  jt : Str
  js : Int
def DX.dat (d : DX) : DD := ⟨d.l.map OX.t, d.jt, d.js⟩
def rdsOS (a : Option Addr) (c : Nat) (l : List OX) : List RD := ⟨.slice a l.length c, 60, 3, l.length, l.flatMap encO⟩ :: l.flatMap rdsO
def rdsD (d : DX) : List RD := ⟨.slice d.a d.l.length d.c, 60, 3, d.l.length, d.l.flatMap encO⟩ :: d.l.flatMap rdsO
theorem DD.same {a b : DD} : a = b ↔ a.slots = b.slots ∧ a.jt = b.jt ∧ a.js = b.js := by cases a; cases b; simp
instance decDD : DecidableEq DD := fun a b => decidable_of_iff _ DD.same.symm
structure DD.lim (d : DD) (n : Nat) : Prop where
  l0 : d.slots.length ≤ n
  l1 : ∀ s ∈ d.slots, s.lim n
structure DD.okz (d : DD) : Prop where
  k0 : d.slots.length ≤ 9223372036854775807
  k1 : ∀ s ∈ d.slots, s.okz
  k2 : d.jt.length ≤ 9223372036854775807
end Go.Proofs.YtjncpgcccgdeiaaGreatDoor

set_option linter.unusedSimpArgs false
set_option linter.unusedVariables false
set_option linter.unnecessarySimpa false
namespace Go.Proofs.YtjncpgcccgdeiaaGreatDoor
open Go Go.RowKit
attribute [local irreducible] JL JC JQ JO LO PO JA JX Ct

theorem run_ov {tS tR : TypeId} {f : FuncId} {fn : Func} {P : Program} (hf : P.funcs[f]? = some fn) (hname : (fn.name == "runtime.NumGoroutine") = false) (hb : fn.body.isNone = true) (hn : Extern.findNext fn = none)
    (he : Extern.find fn = some (Extern.SlicesOverlaps.overlaps #[tS, tS] #[tR])) : ∀ args w, (callFunc f args).run P w = ((Extern.SlicesOverlaps.overlaps #[tS, tS] #[tR] args).run P w).andThen fun v w' => .ok (.value v) w' :=
  fun args w => run_callFunc_extern hf hname hb hn he args w

theorem C_cloneC (a : Option Addr) (c : Nat) (s : List Cell) (hn : s.length ≤ 1000000000000) :
    Ct Tryz.prog 74 [.slice a s.length c] [] (fun w_ => Sees w_ (.slice a s.length c) 2 s.length (s.flatMap encC)) (fun v A' => ∃ a' c', v = .slice a' s.length c' ∧ A' = [.row (.slice a' s.length c') 48 2 s.length (s.flatMap encC)]) := by
  refine Ct.intro Tryz.func74 rfl Tryz.ntmps74 (lb rfl) fun w0 hpre => ?_
  have hs_a : Sees w0 _ _ _ _ := hpre
  refine jC <| jF <| jY rfl (jG (v := .slice none 0 0) rfl) <| jE <| jB <| jC <| jC <| jF <| jY rfl (jD (v := .slice a s.length c) rfl) <| jY rfl (PO.eqNil kf rfl rfl) ?_
  refine jE <| jB ?_
  rcases Bool.eq_false_or_eq_true (a.isNone) with h_1 | h_1
  · refine jW (cB h_1) <| jC <| jF <| jY rfl (jG (v := .slice none 0 0) rfl) <| jE <| jB <| jN <| jX <| JQ.nilrow 48 2 <| jV (.inl rfl) rfl (jJ (v := .slice none 0 0) rfl) (List.Sublist.refl _) ?_
    have ha : a = none := by simpa using h_1
    have hz : s.length = 0 := sees_none (ha ▸ hpre)
    have hs0 : s = [] := List.length_eq_zero_iff.1 hz
    subst hs0
    exact ⟨none, 0, rfl, rfl⟩
  refine jR (cB h_1) <| jT <| jB <| jC <| jF ?_
  refine jH rfl (kH (ps := []) (cur := #[]) kf kh kw rfl (by kernel_rfl) (by decide) (by decide)) ?_
  rintro _ _ ⟨a_2, rfl, rfl⟩
  refine jY rfl (jD (v := .slice a s.length c) rfl) ?_
  refine jH rfl (kU 0 (q := s.length) (news := s.flatMap encC) (n' := s.length) (cs' := s.flatMap encC) rfl kf kf ky rfl (by' := 32) rfl rfl rfl rfl rfl (fun w hw => Src.sees (hw.seeOut_ hs_a nM) (oneC _)) (by (try simp only [LE]); omega) (by (try simp only [LE]); omega) (by (try simp only [List.length_take, List.length_drop]); first | rfl | omega) rfl) ?_
  rintro _ _ ⟨a_3, c_4, rfl, rfl⟩
  refine jY rfl (jG (v := .slice a_3 s.length c_4) rfl) <| jE <| jB <| jN <| jV (.inl rfl) rfl (jJ (v := .slice a_3 s.length c_4) rfl) (List.Sublist.refl _) ?_
  exact ⟨_, _, rfl, rfl⟩

theorem C_idxC (fp : FuncId) (hcf : ∀ args w, (callFunc fp args).run Tryz.prog w = .ok (.enter fp args) w) (kb : Nat) (key : Str) (p : Cell → Bool) (hp : ∀ x : Cell, Ct Tryz.prog fp [.agg #[str x.1, str x.2], .pointer (some ⟨kb, 0, none⟩)] [bk kb 9 [str key]] (fun _ => True) (fun v A' => v = .bool (p x) ∧ A' = [bk kb 9 [str key]])) (a : Option Addr) (c : Nat) (s : List Cell) (hn : s.length ≤ 1000000000000) :
    Ct Tryz.prog 126 [.slice a s.length c, .func (.func fp) #[] #[.pointer (some ⟨kb, 0, none⟩)]] [bk kb 9 [str key]] (fun w_ => Sees w_ (.slice a s.length c) 2 s.length (s.flatMap encC) ∧ (∀ b, (Value.slice a s.length c).ownBlock = some b → b ≠ kb)) (fun v A' => v = .int .i64 (idxI p s) ∧ A' = [bk kb 9 [str key]]) := by
  refine Ct.intro Tryz.func126 rfl Tryz.ntmps126 (lb rfl) fun w0 hpre => ?_
  have hs_a : Sees w0 _ _ _ _ := hpre.1
  refine jC <| jF <| jY rfl (jG (v := iv 0) rfl) <| jE <| jB <| jC <| jC <| jF <| jY rfl (jD (v := .slice a s.length c) rfl) <| jY rfl (jr kf rfl) ?_
  refine jY rfl (jD (v := iv 0) rfl) <| jE <| jB <| jf <| kD (fun k_ e_ L_ => ∃ j : Nat, (j ≤ s.length) ∧ (∀ i, i < j → p (s.getD i c0) = false) ∧ e_ 0 = .slice a s.length c ∧ e_ 1 = .func (.func fp) #[] #[.pointer (some ⟨kb, 0, none⟩)] ∧ e_ 7 = nv s.length ∧ e_ 8 = nv j ∧ L_ = [bk kb 9 [str key]] ∧ k_ = s.length - j) _ ⟨0, by omega, (fun i hi => absurd hi (Nat.not_lt_zero i)), rfl, rfl, rfl, rfl, rfl, rfl⟩ ?_
  rintro _ e_1 _ ⟨j, hj, hN, he_2, he_3, he_4, he_5, rfl, rfl⟩
  refine jC <| jF <| jY rfl (jl he_5 he_4) <| jE <| jB <| jC ?_
  by_cases h_6 : ((j : Nat) : Int) < ((s.length : Nat) : Int)
  · have hlt : j < s.length := by omega
    refine jW (cB (dT h_6)) <| jT <| jB <| jC <| jf <| jC <| jF <| jY rfl (jD (v := nv j) he_5) <| jY rfl (jG (v := nv j) rfl) <| jE ?_
    refine jB <| jC <| jF <| jY rfl (jD (v := .func (.func fp) #[] #[.pointer (some ⟨kb, 0, none⟩)]) he_3) <| jY rfl (jD (v := .slice a s.length c) he_2) <| jY rfl (jD (v := nv j) rfl) ?_
    obtain ⟨hr_7, hr_7b, -⟩ := sees_some hs_a (by omega)
    refine jY rfl (jk (i := j) kf kh hr_7 hr_7b rfl rfl (by omega)) <| JL.ld rfl (kX (vs := [str ((s.getD j c0).1), str ((s.getD j c0).2)]) hs_a (notin_bk hpre.2) rfl gG kh (atC (by omega)) rfl (by decide)) ?_
    refine jH rfl (JO.callV [0] hcf rfl (hp (s.getD j c0)) rfl rfl (fun _ _ => trivial)) ?_
    rintro _ _ ⟨_, ⟨rfl, rfl⟩, rfl⟩
    refine jE <| jB ?_
    rcases Bool.eq_false_or_eq_true (p (s.getD j c0)) with h_8 | h_8
    · have hpj := h_8
      refine jW (cB h_8) <| jC <| jF <| jY rfl (jD (v := nv j) rfl) <| jY rfl (jG (v := nv j) rfl) <| jE <| jB <| jN <| jv <| jX ?_
      refine jX <| jv <| jX <| jV (.inl rfl) rfl (jJ (v := nv j) rfl) (List.Sublist.refl _) ?_
      refine ⟨?_, rfl⟩
      rw [idxI_found c0 hlt hN hpj]
    have hpj := h_8
    refine jR (cB h_8) <| jT <| jm <| jB <| jF <| jY rfl (jc (c := ((j + 1 : Nat) : Int)) he_5 rfl (wr (by omega))) <| jY rfl (jD (v := iv ((j + 1 : Nat) : Int)) rfl) <| jE ?_
    refine jq (s.length - (j + 1)) (by omega) ⟨j + 1, by omega, (fun i hi => if h : i = j then h ▸ hpj else hN i (by omega)), he_2, he_3, he_4, rfl, rfl, rfl⟩
  refine jR (cB (dF h_6)) <| jx <| jb <| jb <| jy <| jB <| jC <| jF <| jY rfl (jG (v := iv (-1)) rfl) <| jE ?_
  refine jB <| jN <| jV (.inl rfl) rfl (jJ (v := iv (-1)) rfl) (List.Sublist.refl _) ?_
  refine ⟨?_, rfl⟩
  rw [idxI_none c0 (by omega) hN]

theorem C_insC (a va : Option Addr) (c : Nat) (s : List Cell) (i : Nat) (x : Cell) (hi : i ≤ s.length) (hn : s.length ≤ 1000000000000) (hcl : (s.flatMap encC).length = s.length * 2) :
    Ct Tryz.prog 128 [.slice a s.length c, .int .i64 ((i : Nat) : Int), .slice va 1 1] [Res.row (.slice a s.length c) 48 2 s.length (s.flatMap encC), Res.row (.slice va 1 1) 48 2 1 ([x].flatMap encC)] (fun _ => True) (fun v A' => ∃ a' c', v = .slice a' (insertAt i x s).length c' ∧ A' = [.row (.slice a' (insertAt i x s).length c') 48 2 (insertAt i x s).length ((insertAt i x s).flatMap encC)]) := by
  refine Ct.intro Tryz.func128 rfl Tryz.ntmps128 (lb rfl) fun w0 hpre => ?_
  refine jC <| jF <| jY rfl (jG (v := .slice none 0 0) rfl) <| jE <| jB <| jC <| jF <| jY rfl (jD (v := .slice a s.length c) rfl) <| jY rfl (jD (v := nv i) rfl) ?_
  refine kN fun hst => ?_
  obtain ⟨hf_1m, hf_1x, hf_1s, hf_1l⟩ := fits_of hst (i := 0) rfl
  refine jY rfl (PO.sliceVl (i := i) kf kh hf_1s rfl rfl (by omega)) <| jE <| jB <| jC <| jF <| jY rfl (jD (v := .slice va 1 1) rfl) <| jY rfl (jr kf rfl) <| jY rfl (jG (v := nv 1) rfl) <| jE <| jB ?_
  refine jC <| jC <| jF <| jY rfl (jD (v := nv 1) rfl) <| jY rfl (kO rfl rfl) <| jE <| jB ?_
  by_cases h_2 : ((1 : Nat) : Int) = 0
  · exfalso; omega
  refine jR (cB (dF h_2)) <| jT <| jB <| jC <| jF <| jY rfl (jD (v := .slice a s.length c) rfl) <| jY rfl (jr kf rfl) <| jY rfl (jG (v := nv s.length) rfl) <| jE <| jB ?_
  refine jC <| jC <| jF <| jY rfl (jD (v := nv i) rfl) <| jY rfl (jD (v := nv s.length) rfl) <| jY rfl (kO rfl rfl) <| jE <| jB ?_
  by_cases h_3 : ((i : Nat) : Int) = ((s.length : Nat) : Int)
  · refine jW (cB (dT h_3)) <| jC <| jF <| jY rfl (jD (v := .slice a s.length c) rfl) <| jY rfl (jD (v := .slice va 1 1) rfl) ?_
    refine jH rfl (kU 0 (q := 1) (news := [x].flatMap encC) (n' := (s ++ [x]).length) (cs' := (s ++ [x]).flatMap encC) rfl kf kf ky rfl (by' := 32) rfl rfl rfl rfl rfl (fun w hw => Src.sees (hw.see (i := 1) rfl) (oneC _)) (by (try simp only [LE]); omega) (by (try simp only [LE]); omega) (by simp only [List.length_append, List.length_take, List.length_drop, List.length_cons, List.length_nil] <;> first | rfl | omega) (by simp only [List.flatMap_append])) ?_
    rintro _ _ ⟨a_4, c_5, rfl, rfl⟩
    refine jY rfl (jG (v := .slice a_4 ((s ++ [x]).length) c_5) rfl) <| jE <| jB <| jN <| jX <| jV (.inl rfl) rfl (jJ (v := .slice a_4 ((s ++ [x]).length) c_5) rfl) (sL [Res.row (.slice a_4 ((s ++ [x]).length) c_5) 48 2 ((s ++ [x]).length) ((s ++ [x]).flatMap encC)] [Res.row (.slice va 1 1) 48 2 1 ([x].flatMap encC)]) ?_
    have hin : i = s.length := by omega
    exact ⟨_, _, by rw [ins_end hin], by rw [ins_end hin]⟩
  refine jR (cB (dF h_3)) <| jT <| jB <| jC <| jC <| jF <| jY rfl (jD (v := nv s.length) rfl) <| jY rfl (jD (v := nv 1) rfl) <| jY rfl (jc (c := ((s.length + 1 : Nat) : Int)) rfl rfl (wr (by omega))) <| jY rfl (jD (v := .slice a s.length c) rfl) ?_
  refine jY rfl (PO.capV kf rfl) <| jY rfl (kR rfl rfl) <| jE <| jB ?_
  by_cases h_6 : ((c : Nat) : Int) < ((s.length + 1 : Nat) : Int)
  · refine jW (cB (dT h_6)) <| jC <| jF <| jY rfl (jD (v := .slice a s.length c) rfl) <| jY rfl (jD (v := nv i) rfl) <| jY rfl (PO.sliceVh (j := i) kf kh hf_1s rfl rfl (by omega)) <| jY rfl (jD (v := nv s.length) rfl) <| jY rfl (jD (v := nv 1) rfl) <| jY rfl (jc (c := ((s.length + 1 : Nat) : Int)) rfl rfl (wr (by omega))) <| jY rfl (jD (v := nv i) rfl) ?_
    refine jY rfl (kZ (c := ((s.length + 1 - i : Nat) : Int)) rfl rfl (wr (by omega))) ?_
    refine jH rfl (JO.appendMake' 0 (i := i) (r := s.length + 1 - i) (by' := 32) (n' := s.length + 1) rfl kf gC ky rfl (by decide) rfl rfl rfl rfl rfl (by omega) (by omega) (by omega) (by omega) (by decide) (by omega)) ?_
    rintro _ _ ⟨a_7, c_8, zs_9, rfl, hzs_9c, hzs_9, rfl⟩
    refine jY rfl (jG (v := .slice a_7 (s.length + 1) c_8) rfl) <| jE <| jB <| jC <| jF <| jY rfl (jD (v := .slice a_7 (s.length + 1) c_8) rfl) <| jY rfl (jD (v := nv i) rfl) ?_
    refine kN fun hst => ?_
    obtain ⟨hf_10m, hf_10x, hf_10s, hf_10l⟩ := fits_of hst (i := 0) rfl
    refine jY rfl (PO.sliceVl (i := i) kf kh hf_10s rfl rfl (by omega)) <| jY rfl (jD (v := .slice va 1 1) rfl) ?_
    refine jH rfl (JO.copy 0 (k := 2) (lo := i) (q := 1) (news := [str x.1, str x.2]) (cs' := ((s.flatMap encC).take (i * 2) ++ zs_9).take (i * 2) ++ [str x.1, str x.2] ++ ((s.flatMap encC).take (i * 2) ++ zs_9).drop (i * 2 + [str x.1, str x.2].length)) rfl kf kh rfl rfl (by show min _ _ = _; omega) (by omega) (by omega) (by decide) (by omega) (fun w hw => Fst.sees (hw.see (i := 2) rfl) (Nat.le_refl _)) rfl (oneC [x]) (rfl)) ?_
    rintro _ _ rfl
    refine jE <| jB <| jC <| kJ [] 0 mixed (by simp) <| kV 0 rfl (by kernel_rfl) (NP.th (NP.th NP.body)) (by kernel_rfl) (by kernel_rfl) rfl (jD (v := .slice a_7 (s.length + 1) c_8) rfl) <| kV 1 rfl (by kernel_rfl) (NP.th (NP.th NP.body)) (by kernel_rfl) (by kernel_rfl) rfl (jD (v := nv i) rfl) <| kV 2 rfl (by kernel_rfl) (NP.th (NP.th NP.body)) (by kernel_rfl) (by kernel_rfl) rfl (jD (v := nv 1) rfl) <| kV 3 rfl (by kernel_rfl) (NP.th (NP.th NP.body)) (by kernel_rfl) (by kernel_rfl) rfl (jc (c := ((i + 1 : Nat) : Int)) rfl rfl (wr (by omega))) <| kV 4 rfl (by kernel_rfl) (NP.th (NP.th NP.body)) (by kernel_rfl) (by kernel_rfl) rfl (PO.sliceVl (i := (i + 1)) kf kh hf_10s rfl rfl (by omega)) <| kV 5 rfl (by kernel_rfl) (NP.th (NP.th NP.body)) (by kernel_rfl) (by kernel_rfl) rfl (jD (v := .slice a s.length c) rfl) ?_
    refine kV 6 rfl (by kernel_rfl) (NP.th (NP.th NP.body)) (by kernel_rfl) (by kernel_rfl) rfl (jD (v := nv i) rfl) <| kV 7 rfl (by kernel_rfl) (NP.th (NP.th NP.body)) (by kernel_rfl) (by kernel_rfl) rfl (PO.sliceVl (i := i) kf kh hf_1s rfl rfl (by omega)) <| JA.one (i := 8) (by kernel_rfl) ?_
    refine JX.last rfl rfl (by decide) (by kernel_rfl) (JO.copy 0 (k := 2) (lo := (i + 1)) (q := s.length - i) (news := (s.flatMap encC).drop (i * 2)) (cs' := (insertAt i x s).flatMap encC) rfl kf kh rfl rfl (by show min _ _ = _; omega) (by omega) (by omega) (by decide) (by omega) (fun w hw => Fst.mid (hw.see (i := 1) rfl) (by omega) (by omega) (tail1 hcl)) (by rw [List.length_drop, hcl]; omega) (fun u hu => oneC s u (List.mem_of_mem_drop hu)) ((by rw [show (i + 1) * 2 = i * 2 + 2 by omega]; exact (ins_grow (k := 2) (by rw [hcl]; omega) (by rw [hcl]; omega) rfl).trans insC))) ?_
    rintro _ _ rfl
    refine jB <| jC <| jF <| jY rfl (jD (v := .slice a_7 (s.length + 1) c_8) rfl) <| jY rfl (jG (v := .slice a_7 (s.length + 1) c_8) rfl) <| jE <| jB <| jN <| jX <| jV (.inl rfl) rfl (jJ (v := .slice a_7 (s.length + 1) c_8) rfl) (sL [Res.row (.slice a_7 (s.length + 1) c_8) 48 2 (s.length + 1) ((insertAt i x s).flatMap encC)] [Res.row (.slice a s.length c) 48 2 s.length (s.flatMap encC), Res.row (.slice va 1 1) 48 2 1 ([x].flatMap encC)]) ?_
    exact ⟨_, _, by rw [insertAt_length i x s hi], by rw [insertAt_length i x s hi]⟩
  refine jR (cB (dF h_6)) <| jT <| jB <| jC <| jF <| jY rfl (jD (v := .slice a s.length c) rfl) <| jY rfl (jD (v := nv s.length) rfl) <| jY rfl (jD (v := nv 1) rfl) <| jY rfl (jc (c := ((s.length + 1 : Nat) : Int)) rfl rfl (wr (by omega))) <| jY rfl (PO.sliceVh (j := (s.length + 1)) kf kh hf_1s rfl rfl (by omega)) ?_
  refine jY rfl (jG (v := .slice a (s.length + 1) c) rfl) <| jE <| jB <| jC <| jC ?_
  refine JC.widen 0 1 (m := s.length) rfl (by omega) fun zs_11 hzs_11 => ?_
  refine jF <| jY rfl (jD (v := .slice va 1 1) rfl) <| jY rfl (jD (v := .slice a (s.length + 1) c) rfl) <| jY rfl (jD (v := nv i) rfl) <| jY rfl (jD (v := nv 1) rfl) <| jY rfl (jc (c := ((i + 1 : Nat) : Int)) rfl rfl (wr (by omega))) <| jY rfl (PO.sliceVl (i := (i + 1)) kf kh hf_1s rfl rfl (by omega)) ?_
  refine jH rfl (JO.overlaps 1 0 (by decide) (k := 2) (lo := i + 1) rfl rfl (run_ov (tS := 49) (tR := 4) Tryz.func153 (by kernel_rfl) (by kernel_rfl) (by kernel_rfl) (by kernel_rfl)) kf kh rfl rfl (by decide) (by omega) (by decide) (by decide)) ?_
  rintro _ _ ⟨rfl, rfl⟩
  refine jY rfl (jp rfl) <| jE <| jB <| jW (cB rfl) <| jC <| kJ [] 0 mixed (by simp) <| kV 0 rfl (by kernel_rfl) (NP.th (NP.th NP.body)) (by kernel_rfl) (by kernel_rfl) rfl (jD (v := .slice a (s.length + 1) c) rfl) <| kV 1 rfl (by kernel_rfl) (NP.th (NP.th NP.body)) (by kernel_rfl) (by kernel_rfl) rfl (jD (v := nv i) rfl) <| kV 2 rfl (by kernel_rfl) (NP.th (NP.th NP.body)) (by kernel_rfl) (by kernel_rfl) rfl (jD (v := nv 1) rfl) <| kV 3 rfl (by kernel_rfl) (NP.th (NP.th NP.body)) (by kernel_rfl) (by kernel_rfl) rfl (jc (c := ((i + 1 : Nat) : Int)) rfl rfl (wr (by omega))) ?_
  refine kV 4 rfl (by kernel_rfl) (NP.th (NP.th NP.body)) (by kernel_rfl) (by kernel_rfl) rfl (PO.sliceVl (i := (i + 1)) kf kh hf_1s rfl rfl (by omega)) <| kV 5 rfl (by kernel_rfl) (NP.th (NP.th NP.body)) (by kernel_rfl) (by kernel_rfl) rfl (jD (v := .slice a (s.length + 1) c) rfl) <| kV 6 rfl (by kernel_rfl) (NP.th (NP.th NP.body)) (by kernel_rfl) (by kernel_rfl) rfl (jD (v := nv i) rfl) <| kV 7 rfl (by kernel_rfl) (NP.th (NP.th NP.body)) (by kernel_rfl) (by kernel_rfl) rfl (PO.sliceVl (i := i) kf kh hf_1s rfl rfl (by omega)) <| JA.one (i := 8) (by kernel_rfl) ?_
  refine JX.last rfl rfl (by decide) (by kernel_rfl) (JO.copy 0 (k := 2) (lo := (i + 1)) (q := s.length - i) (news := (s.flatMap encC).drop (i * 2)) (cs' := ((s.flatMap encC ++ zs_11)).take (i * 2 + 2) ++ (s.flatMap encC).drop (i * 2) ++ ((s.flatMap encC ++ zs_11)).drop (i * 2 + 2 + ((s.flatMap encC).drop (i * 2)).length)) rfl kf kh rfl rfl (by show min _ _ = _; omega) (by omega) (by omega) (by decide) (by omega) (fun w hw => Fst.mid (hw.see (i := 0) rfl) (by omega) (by omega) (tail2 hcl hi)) (by rw [List.length_drop, hcl]; omega) (fun u hu => oneC s u (List.mem_of_mem_drop hu)) ((by rw [show (i + 1) * 2 = i * 2 + 2 by omega]))) ?_
  rintro _ _ rfl
  refine jB <| jC <| jF <| jY rfl (jD (v := .slice a (s.length + 1) c) rfl) <| jY rfl (jD (v := nv i) rfl) <| jY rfl (PO.sliceVl (i := i) kf kh hf_1s rfl rfl (by omega)) <| jY rfl (jD (v := .slice va 1 1) rfl) ?_
  refine jH rfl (JO.copy 0 (k := 2) (lo := i) (q := 1) (news := [str x.1, str x.2]) (cs' := (insertAt i x s).flatMap encC) rfl kf kh rfl rfl (by show min _ _ = _; omega) (by omega) (by omega) (by decide) (by omega) (fun w hw => Fst.sees (hw.see (i := 1) rfl) (Nat.le_refl _)) rfl (oneC [x]) ((ins_room (k := 2) (by rw [hcl]; omega) (by omega) rfl).trans insC)) ?_
  rintro _ _ rfl
  refine jE <| jB <| jC <| jF <| jY rfl (jD (v := .slice a (s.length + 1) c) rfl) <| jY rfl (jG (v := .slice a (s.length + 1) c) rfl) <| jE <| jB <| jN <| jX ?_
  refine jV (.inl rfl) rfl (jJ (v := .slice a (s.length + 1) c) rfl) (sL [Res.row (.slice a (s.length + 1) c) 48 2 (s.length + 1) ((insertAt i x s).flatMap encC)] [Res.row (.slice va 1 1) 48 2 1 ([x].flatMap encC)]) ?_
  exact ⟨_, _, by rw [insertAt_length i x s hi], by rw [insertAt_length i x s hi]⟩

theorem C_delC (fp : FuncId) (hcf : ∀ args w, (callFunc fp args).run Tryz.prog w = .ok (.enter fp args) w) (kb : Nat) (key : Str) (p : Cell → Bool) (hp : ∀ x : Cell, Ct Tryz.prog fp [.agg #[str x.1, str x.2], .pointer (some ⟨kb, 0, none⟩)] [bk kb 9 [str key]] (fun _ => True) (fun v A' => v = .bool (p x) ∧ A' = [bk kb 9 [str key]])) (a : Option Addr) (c : Nat) (s : List Cell) (hn : s.length ≤ 1000000000000) :
    Ct Tryz.prog 124 [.slice a s.length c, .func (.func fp) #[] #[.pointer (some ⟨kb, 0, none⟩)]] [bk kb 9 [str key], Res.row (.slice a s.length c) 48 2 s.length (s.flatMap encC)] (fun _ => True) (fun v A' => ∃ a' c', v = .slice a' (s.filter (fun c => !p c)).length c' ∧ A' = [bk kb 9 [str key], .row (.slice a' (s.filter (fun c => !p c)).length c') 48 2 (s.filter (fun c => !p c)).length ((s.filter (fun c => !p c)).flatMap encC)]) := by
  refine Ct.intro Tryz.func124 rfl Tryz.ntmps124 (lb rfl) fun w0 hpre => ?_
  refine jC <| jF <| jY rfl (jG (v := .slice none 0 0) rfl) <| jE <| jB <| jC <| jF <| jY rfl (jD (v := .slice a s.length c) rfl) <| jY rfl (jD (v := .func (.func fp) #[] #[.pointer (some ⟨kb, 0, none⟩)]) rfl) ?_
  refine jH rfl (jI [0] Tryz.call126 rfl (C_idxC fp hcf kb key p hp a c s (by omega)) rfl (fun w hw => ⟨hw.see (i := 1) rfl, hw.apartO 1 0 rfl rfl rfl⟩)) ?_
  rintro _ _ ⟨_, ⟨rfl, rfl⟩, rfl⟩
  have hix0 := idxI_lo p s
  have hfl0 := findAt_le p s
  refine jY rfl (jG (v := iv (idxI p s)) rfl) <| jE <| jB <| jC <| jC <| jF <| jY rfl (jD (v := iv (idxI p s)) rfl) <| jY rfl (kO rfl rfl) <| jE <| jB ?_
  by_cases h_1 : (idxI p s) = (-1)
  · have hfe : findAt p s = s.length := by omega
    refine jW (cB (dT h_1)) <| jC <| jF <| jY rfl (jD (v := .slice a s.length c) rfl) <| jY rfl (jG (v := .slice a s.length c) rfl) <| jE <| jB <| jN <| jX <| jV (.inl rfl) rfl (jJ (v := .slice a s.length c) rfl) (List.Sublist.refl _) ?_
    exact ⟨_, _, by rw [del_none hfe], by rw [del_none hfe]; rfl⟩
  have hfl : findAt p s < s.length := by omega
  have hie : idxI p s = ((findAt p s : Nat) : Int) := by omega
  refine jR (cB (dF h_1)) <| jT <| jB <| jC <| jC <| jF <| jY rfl (jD (v := iv ((findAt p s : Nat) : Int)) (congrArg (Value.int .i64) hie)) <| jY rfl (jc (c := (((findAt p s) + 1 : Nat) : Int)) rfl rfl (wr (by omega))) <| jY rfl (jG (v := iv (((findAt p s) + 1 : Nat) : Int)) rfl) <| jE ?_
  refine jB <| jf <| kD (fun k_ e_ L_ => ∃ i : Nat, ∃ j : Nat, ∃ X : List Cell, (j ≤ s.length) ∧ (i < j) ∧ (X.length = s.length) ∧ (X.take i = (s.take j).filter (fun c => !p c)) ∧ (X.drop j = s.drop j) ∧ e_ 0 = .slice a s.length c ∧ e_ 1 = .func (.func fp) #[] #[.pointer (some ⟨kb, 0, none⟩)] ∧ e_ 4 = .slice none 0 0 ∧ e_ 5 = nv i ∧ e_ 6 = nv j ∧ L_ = [bk kb 9 [str key], Res.row (.slice a s.length c) 48 2 s.length (X.flatMap encC)] ∧ k_ = s.length - j) _ ⟨findAt p s, (findAt p s + 1), s, by omega, by omega, rfl, (del_start hfl), rfl, rfl, rfl, rfl, (congrArg (Value.int .i64) hie), rfl, rfl, rfl⟩ ?_
  rintro _ e_2 _ ⟨i, j, X, hj, hij, hX, hXi, hXj, he_3, he_4, he_5, he_6, he_7, rfl, rfl⟩
  refine jC <| jC <| jF <| jY rfl (jD (v := nv j) he_7) <| jY rfl (jD (v := .slice a s.length c) he_3) <| jY rfl (jr kf rfl) <| jY rfl (jl rfl rfl) <| jE <| jB ?_
  by_cases h_8 : ((j : Nat) : Int) < ((s.length : Nat) : Int)
  · have hlt : j < s.length := by omega
    refine jW (cB (dT h_8)) <| jT <| jB <| jC <| jf <| jC <| jF <| jY rfl (jD (v := .slice a s.length c) he_3) <| jY rfl (jD (v := nv j) he_7) ?_
    refine kN fun hst => ?_
    obtain ⟨hr_9, hr_9b, -⟩ := row_some 1 rfl (by omega) hst
    refine jY rfl (jk (i := j) kf kh hr_9 hr_9b rfl rfl (by omega)) <| JL.ld rfl (LO.loadRK 1 (vs := [str ((X.getD j c0).1), str ((X.getD j c0).2)]) rfl rfl gG kh (atC (by omega)) rfl (by decide)) ?_
    refine jH rfl (jo (z := .agg #[str [], str []]) (cs := [str [], str []]) kw rfl) ?_
    rintro _ _ ⟨b_10, rfl, rfl⟩
    refine jH rfl (ja 0 (vs := [str ((X.getD j c0).1), str ((X.getD j c0).2)]) (cs' := [str ((X.getD j c0).1), str ((X.getD j c0).2)]) rfl rfl rfl rfl kh rfl rfl (lb rfl) rfl) ?_
    rintro _ _ rfl
    refine jE <| jB <| jC <| jF <| jY rfl (jD (v := .func (.func fp) #[] #[.pointer (some ⟨kb, 0, none⟩)]) he_4) <| JL.ld rfl (jO 0 (vs := [str ((X.getD j c0).1), str ((X.getD j c0).2)]) rfl rfl gG kh rfl rfl) ?_
    refine jH rfl (JO.callV [1] hcf rfl (hp (X.getD j c0)) rfl rfl (fun _ _ => trivial)) ?_
    rintro _ _ ⟨_, ⟨rfl, rfl⟩, rfl⟩
    refine jY rfl (jp rfl) <| jE <| jB ?_
    rcases Bool.eq_false_or_eq_true (p (X.getD j c0)) with h_11 | h_11
    · have hpj := h_11
      refine jR (cB (cN h_11)) <| jT <| jm <| jB <| jF <| jY rfl (jD (v := nv j) he_7) <| jY rfl (jc (c := ((j + 1 : Nat) : Int)) rfl rfl (wr (by omega))) <| jY rfl (jG (v := iv ((j + 1 : Nat) : Int)) rfl) <| jE <| kB [0, 1] (A := [bk kb 9 [str key], Res.row (.slice a s.length c) 48 2 s.length (X.flatMap encC)]) rfl ?_
      refine jq (s.length - (j + 1)) (by omega) ⟨i, j + 1, X, by omega, by omega, hX, (del_skip c0 hXj hlt hpj hXi), (drop_more hXj), he_3, he_4, he_5, he_6, rfl, rfl, rfl⟩
    have hpj := h_11
    refine jW (cB (cN h_11)) <| jC <| jF <| jY rfl (jD (v := .slice a s.length c) he_3) <| jY rfl (jD (v := nv i) he_6) <| JL.ld rfl (jO 1 (vs := [str ((X.getD j c0).1), str ((X.getD j c0).2)]) rfl rfl gG kh rfl rfl) <| jY rfl (jk (i := i) kf kh hr_9 hr_9b rfl rfl (by omega)) ?_
    refine jH rfl (JO.storeR 2 (vs := [str ((X.getD j c0).1), str ((X.getD j c0).2)]) (cs' := (X.set i ((X.getD j c0).1, (X.getD j c0).2)).flatMap encC) rfl rfl rfl rfl kh rfl rfl (by decide) (by rw [lenC]; omega) (setC (by omega))) ?_
    rintro _ _ rfl
    refine jE <| jB <| jF <| jY rfl (jD (v := nv i) he_6) <| jY rfl (jc (c := ((i + 1 : Nat) : Int)) rfl rfl (wr (by omega))) <| jY rfl (jG (v := iv ((i + 1 : Nat) : Int)) rfl) <| jE <| jm <| jB <| jF ?_
    refine jY rfl (jD (v := nv j) he_7) <| jY rfl (jc (c := ((j + 1 : Nat) : Int)) rfl rfl (wr (by omega))) <| jY rfl (jG (v := iv ((j + 1 : Nat) : Int)) rfl) <| jE <| kB [0, 1] (A := [bk kb 9 [str key], Res.row (.slice a s.length c) 48 2 s.length ((X.set i ((X.getD j c0).1, (X.getD j c0).2)).flatMap encC)]) rfl ?_
    refine jq (s.length - (j + 1)) (by omega) ⟨i + 1, j + 1, X.set i (X.getD j c0), by omega, by omega, (by rw [List.length_set]; exact hX), (del_keep c0 hXj hlt hX hij hpj hXi), (del_keepD hXj hij _), he_3, he_4, he_5, rfl, rfl, rfl, rfl⟩
  refine jR (cB (dF h_8)) <| jx <| jb <| jb <| jy <| jB <| jC <| jF <| jY rfl (jD (v := .slice a s.length c) he_3) <| jY rfl (jD (v := nv i) he_6) ?_
  refine kN fun hst => ?_
  obtain ⟨hf_12m, hf_12x, hf_12s, hf_12l⟩ := fits_of hst (i := 1) rfl
  refine jY rfl (PO.sliceVl (i := i) kf kh hf_12s rfl rfl (by omega)) ?_
  refine jH rfl (JO.clear 1 (k := 2) (lo := i) (z := .agg #[str [], str []]) rfl kf kw rfl (by decide) rfl (by decide) (by omega) (by omega)) ?_
  rintro _ _ ⟨zs_13, hzs_13, rfl⟩
  refine jE <| jB <| jC <| JC.narrow 1 i (cs' := (s.filter (fun c => !p c)).flatMap encC) rfl (by omega) (by rw [takeC (by omega), del_done (by omega) hXi]) <| jF <| jY rfl (jD (v := .slice a s.length c) he_3) <| jY rfl (jD (v := nv i) he_6) <| jY rfl (PO.sliceVh (j := i) kf kh hf_12s rfl rfl (by omega)) <| jY rfl (jG (v := .slice a i c) rfl) <| jE ?_
  refine jB <| jN <| jV (.inl rfl) rfl (jJ (v := .slice a i c) rfl) (List.Sublist.refl _) ?_
  have hln := del_len hX (by omega) (del_done (by omega) hXi)
  exact ⟨_, _, by rw [hln], by rw [hln]; rfl⟩

end Go.Proofs.YtjncpgcccgdeiaaGreatDoor

set_option linter.unusedSimpArgs false
set_option linter.unusedVariables false
set_option linter.unnecessarySimpa false
namespace Go.Proofs.YtjncpgcccgdeiaaGreatDoor
open Go Go.RowKit

@[reducible] def rC (a : Option Addr) (c : Nat) (s : List Cell) : Res := .row (.slice a s.length c) 48 2 s.length (s.flatMap encC)
@[reducible] def rS (a : Option Addr) (c : Nat) (l : List Str) : Res := .row (.slice a l.length c) 9 1 l.length (l.map str)
@[reducible] def rI (a : Option Addr) (c : Nat) (l : List Int) : Res := .row (.slice a l.length c) 3 1 l.length (l.map (Value.int .i64))

theorem Ct.weak {P : Program} {f : FuncId} {args : List Value} {A : List Res} {Pre Pre' : World → Prop} {Post Post' : Value → List Res → Prop} (h : Ct P f args A Pre Post) (hp : ∀ w, Pre' w → Pre w) (hq : ∀ v A', Post v A' → Post' v A') : Ct P f args A Pre' Post' :=
  fun w hA hw => (h w hA (hp w hw)).mono fun _ _ ⟨v, A', he, hv, hs⟩ => ⟨v, A', he, hq v A' hv, hs⟩

/-- A nil slice is a row that nobody owns a block for. -/
theorem St.nilRow {w0 w : World} {D : List Nat} {L : List Res} (hw : St w0 D L w) (t k : Nat) : St w0 D (.row (.slice none 0 0) t k 0 [] :: L) w := by
  have e : idsOf (.row (.slice none 0 0) t k 0 [] :: L) = idsOf L := by rw [idsOf_cons]; simp [Res.ids, Value.ownBlock]
  refine ⟨⟨fun r hr => ?_, by rw [e]; exact hw.nodup, by rw [e]; exact hw.low, hw.room, hw.glob⟩, hw.os, hw.tape, hw.output, hw.size, by rw [e]; exact hw.fresh, hw.keep⟩
  simp only [List.mem_cons] at hr
  rcases hr with rfl | hr
  · exact ⟨by simp, .inl ⟨rfl, rfl⟩⟩
  · exact hw.holds r hr
theorem JL.nilRow {P : Program} {ops : Array Oper} {Q : Exit → Act → World → Prop} {n : Nat} {w0 : World} {D : List Nat} {L : List Res} {e : Env} {l : List Oper} (t k : Nat) (h : JL P ops Q n w0 D (.row (.slice none 0 0) t k 0 [] :: L) l e) : JL P ops Q n w0 D L l e := fun w hw => h w (hw.nilRow t k)
theorem JC.nilRow {P : Program} {Q : Exit → Act → World → Prop} {n : Nat} {w0 : World} {D : List Nat} {L : List Res} {e : Env} {c : Code} (t k : Nat) (h : JC P Q n w0 D (.row (.slice none 0 0) t k 0 [] :: L) c e) : JC P Q n w0 D L c e := fun w hw => h w (hw.nilRow t k)

theorem JQ.nilRow {Q : Exit → Act → World → Prop} {x : Exit} {n : Nat} {w0 : World} {D : List Nat} {L : List Res} {e : Env} (t k : Nat) (h : JQ Q x n w0 D (.row (.slice none 0 0) t k 0 [] :: L) e) : JQ Q x n w0 D L e := fun w hw => h w (hw.nilRow t k)
theorem JA.nilRow {P : Program} {ops : Array Oper} {Q : Exit → Act → World → Prop} {n : Nat} {w0 : World} {D : List Nat} {L M : List Res} {e : Env} {z fuel : Nat} {listed : Array Bool} (t k : Nat) (h : JA P ops Q n w0 D M z fuel listed (.row (.slice none 0 0) t k 0 [] :: L) e) : JA P ops Q n w0 D M z fuel listed L e := fun w hw hq => h w (hw.nilRow t k) hq

section
variable {P : Program} {ops : Array Oper} {Q : Exit → Act → World → Prop} {n : Nat} {w0 : World} {D : List Nat} {L M : List Res} {e : Env} {z fuel : Nat} {listed : Array Bool}
/-- A guard that was itself not asked. -/
theorem kP {o : Oper} {rest : List Oper} {j : Nat} {b : Bool} {t : Tmp} (hg : o.guard = some (j, b)) (hj : (ops[j]?).bind (·.dst) = some t) (ht : Nat.blt t n = true) (hv : e t = undef)
    (h : JL P ops Q n w0 D L rest (updO e o.dst undef)) : JL P ops Q n w0 D L (o :: rest) e := fun w hw => by
  have hlt : t < n := (Nat.blt_eq (x := t) (y := n)) ▸ ht
  have hy : yielded ops (act n e).tmps j = none := by simp [yielded, hj, act, hlt, hv, undef]
  refine wpList_step fun K hK => ?_
  rw [if_neg (by simp [Region.wanted, hg, hy]), act_put]
  exact hK _ _ (h w hw)
theorem kE (i : Nat) {oi : Oper} {j : Nat} {b : Bool} {t : Tmp} (hi : ops[i]? = some oi) (hs : Region.noSelect ops = true) (hQ : NP Q) (hf : Region.free .any ops listed i = true) (hr : (Region.ready .any ops listed).contains i = true)
    (hg : oi.guard = some (j, b)) (hj : (ops[j]?).bind (·.dst) = some t) (ht : Nat.blt t n = true) (hv : e t = undef) (h : JA P ops Q n w0 D M z fuel (listed.setIfInBounds i true) L (updO e oi.dst undef)) :
    JA P ops Q n w0 D M z (fuel + 1) listed L e := fun w hw hq => by
  have hlt : t < n := (Nat.blt_eq (x := t) (y := n)) ▸ ht
  have hyy : yielded ops (act n e).tmps j = none := by simp [yielded, hj, act, hlt, hv, undef]
  exact anyC.firstP hi hs hQ fuel listed (act n e) w (Region.free_spec hi hf) (by simpa using hr) (.inr ⟨by simp [Region.wanted, hg, hyy], rfl⟩) (by rw [act_put]; exact h w hw hq)
end
end Go.Proofs.YtjncpgcccgdeiaaGreatDoor

set_option linter.unusedSimpArgs false
set_option linter.unusedVariables false
set_option linter.unnecessarySimpa false
namespace Go.Proofs.YtjncpgcccgdeiaaGreatDoor
open Go Go.RowKit

theorem Has.below {w w' : World} (h : Has [] w) (hb : Below w.heap.size w w') : St w (idsOf []) [] w' :=
  ⟨⟨fun _ hr => by simp at hr, by simp [idsOf], fun _ hi => by simp [idsOf] at hi, Nat.le_trans h.room hb.size, h.glob.keep fun k hk => hb.block k (Nat.lt_of_lt_of_le hk h.room)⟩, hb.os, hb.tape, hb.output, hb.size, fun _ hi => by simp [idsOf] at hi, fun k hk _ => hb.block k hk⟩
theorem below_grow (w : World) (k : Nat) (os : Array Obj) : Below w.heap.size w (Sort.grow (w.drewN k) os) :=
  ⟨rfl, rfl, rfl, by simp [Sort.grow, World.drewN], fun j hj => by
    simp only [Sort.grow, World.drewN]
    rw [Array.getElem?_append_left hj]⟩

end Go.Proofs.YtjncpgcccgdeiaaGreatDoor

namespace Go.Proofs
open Go.Shelf
def Tryz.laysM171_ren : Go.Shelf.Ren := ⟨fun | 171 => 83 | 243 => 122 | 246 => 152 | 283 => 175 | 284 => 176 | 285 => 177 | 286 => 178 | 129 => 196 | 317 => 195 | 318 => 197 | 319 => 198 | 320 => 199 | 337 => 206 | 338 => 207 | n => n, fun | 3 => 3 | 9 => 9 | 2 => 2 | 4 => 4 | 171 => 171 | 0 => 0 | 53 => 172 | 37 => 39 | 5 => 5 | 173 => 175 | 212 => 186 | 51 => 187 | 20 => 20 | 213 => 188 | 46 => 151 | 232 => 208 | 233 => 209 | n => n, fun | 17 => 2 | 18 => 7 | 19 => 8 | n => n⟩
theorem Tryz.laysM171 : Go.Proofs.LaysM.n171 Tryz.prog Tryz.laysM171_ren := {
  mixed := by kernel_rfl
  f129 := Tryz.func196.trans (congrArg some (by kernel_rfl))
  f171 := Tryz.func83.trans (congrArg some (by kernel_rfl))
  f243 := Tryz.func122.trans (congrArg some (by kernel_rfl))
  f246 := Tryz.func152.trans (congrArg some (by kernel_rfl))
  f283 := Tryz.func175.trans (congrArg some (by kernel_rfl))
  f284 := Tryz.func176.trans (congrArg some (by kernel_rfl))
  f285 := Tryz.func177.trans (congrArg some (by kernel_rfl))
  f286 := Tryz.func178.trans (congrArg some (by kernel_rfl))
  f317 := Tryz.func195.trans (congrArg some (by kernel_rfl))
  f318 := Tryz.func197.trans (congrArg some (by kernel_rfl))
  f319 := Tryz.func198.trans (congrArg some (by kernel_rfl))
  f320 := Tryz.func199.trans (congrArg some (by kernel_rfl))
  f337 := Tryz.func206.trans (congrArg some (by kernel_rfl))
  f338 := Tryz.func207.trans (congrArg some (by kernel_rfl))
  t0 := Tryz.underlying0
  a0 := Tryz.isAgg0
  z0 := Tryz.sizeOf0
  v0 := Tryz.zeroValue0
  t2 := Tryz.underlying2
  a2 := Tryz.isAgg2
  z2 := Tryz.sizeOf2
  v2 := Tryz.zeroValue2
  t3 := Tryz.underlying3
  a3 := Tryz.isAgg3
  z3 := Tryz.sizeOf3
  v3 := Tryz.zeroValue3
  t4 := Tryz.underlying4
  a4 := Tryz.isAgg4
  z4 := Tryz.sizeOf4
  v4 := Tryz.zeroValue4
  t5 := Tryz.underlying5
  a5 := Tryz.isAgg5
  z5 := Tryz.sizeOf5
  v5 := Tryz.zeroValue5
  t9 := Tryz.underlying9
  a9 := Tryz.isAgg9
  z9 := Tryz.sizeOf9
  v9 := Tryz.zeroValue9
  t20 := Tryz.underlying20
  a20 := Tryz.isAgg20
  z20 := Tryz.sizeOf20
  v20 := Tryz.zeroValue20
  t37 := Tryz.underlying39
  a37 := Tryz.isAgg39
  z37 := Tryz.sizeOf39
  v37 := Tryz.zeroValue39
  t46 := Tryz.underlying151
  a46 := Tryz.isAgg151
  z46 := Tryz.sizeOf151
  v46 := Tryz.zeroValue151
  t51 := Tryz.underlying187
  a51 := Tryz.isAgg187
  z51 := Tryz.sizeOf187
  v51 := Tryz.zeroValue187
  t53 := Tryz.underlying172
  a53 := Tryz.isAgg172
  z53 := Tryz.sizeOf172
  v53 := Tryz.zeroValue172
  t171 := Tryz.underlying171
  a171 := Tryz.isAgg171
  z171 := Tryz.sizeOf171
  v171 := Tryz.zeroValue171
  t173 := Tryz.underlying175
  a173 := Tryz.isAgg175
  z173 := Tryz.sizeOf175
  v173 := Tryz.zeroValue175
  t212 := Tryz.underlying186
  a212 := Tryz.isAgg186
  z212 := Tryz.sizeOf186
  v212 := Tryz.zeroValue186
  t213 := Tryz.underlying188
  a213 := Tryz.isAgg188
  z213 := Tryz.sizeOf188
  t232 := Tryz.underlying208
  a232 := Tryz.isAgg208
  z232 := Tryz.sizeOf208
  v232 := Tryz.zeroValue208
  t233 := Tryz.underlying209
  a233 := Tryz.isAgg209
  z233 := Tryz.sizeOf209
  v233 := Tryz.zeroValue209
  g17 := by kernel_rfl
  g18 := by kernel_rfl
  g19 := by kernel_rfl
  i0 := by kernel_rfl
  i2 := by kernel_rfl
  i3 := by kernel_rfl
  i4 := by kernel_rfl
  i5 := by kernel_rfl
  i9 := by kernel_rfl
  i20 := by kernel_rfl
  i37 := by kernel_rfl
  i46 := by kernel_rfl
  i51 := by kernel_rfl
  i53 := by kernel_rfl
  i171 := by kernel_rfl
  i173 := by kernel_rfl
  i212 := by kernel_rfl
  i232 := by kernel_rfl
  i233 := by kernel_rfl
  m17 := by kernel_rfl
  m18 := by kernel_rfl
  m19 := by kernel_rfl }
open Go.RowKit Go.Sort Go.Lib in
theorem Tryz.strconv_Itoa (n : Int) (h0 : -9223372036854775808 ≤ n) (h1 : n ≤ 9223372036854775807) (w : World) (htab : Lib.TabIs Tryz.prog w "internal/strconv.uint64pow10" .u64 Lib.pow10Tab) :
    Calls Tryz.prog 83 #[.int .i64 n] w fun e w' => e = .returned (.string ⟨(Lib.itoa n).toArray⟩) ∧ ∃ k os, w' = grow (w.drewN k) os := Any.strconv_Itoa Tryz.laysM171 n h0 h1 w htab
def Tryz.laysC172_ren : Go.Shelf.Ren := ⟨fun | 172 => 145 | 244 => 167 | 245 => 168 | 247 => 186 | 279 => 187 | 280 => 188 | 281 => 189 | 282 => 190 | 287 => 201 | 316 => 202 | 171 => 83 | 205 => 203 | 321 => 208 | 322 => 209 | 243 => 122 | 246 => 152 | 283 => 175 | 284 => 176 | 285 => 177 | 286 => 178 | 129 => 196 | 317 => 195 | 318 => 197 | 319 => 198 | 320 => 199 | 337 => 206 | 338 => 207 | n => n, fun | 9 => 9 | 3 => 3 | 75 => 95 | 76 => 96 | 4 => 4 | 5 => 5 | 167 => 178 | 37 => 39 | 0 => 0 | 85 => 179 | 2 => 2 | 168 => 181 | 53 => 172 | 175 => 196 | 46 => 151 | 210 => 199 | 127 => 135 | 145 => 207 | 143 => 205 | 21 => 21 | 171 => 171 | 173 => 175 | 212 => 186 | 51 => 187 | 20 => 20 | 213 => 188 | 232 => 208 | 233 => 209 | 80 => 101 | n => n, fun | 15 => 5 | 16 => 6 | 17 => 2 | 18 => 7 | 19 => 8 | n => n⟩
theorem Tryz.laysC172 : Go.Proofs.LaysC.n172 Tryz.prog Tryz.laysC172_ren := {
  mixed := by kernel_rfl
  f129 := Tryz.func196.trans (congrArg some (by kernel_rfl))
  f171 := Tryz.func83.trans (congrArg some (by kernel_rfl))
  f172 := Tryz.func145.trans (congrArg some (by kernel_rfl))
  f205 := Tryz.func203.trans (congrArg some (by kernel_rfl))
  f243 := Tryz.func122.trans (congrArg some (by kernel_rfl))
  f244 := Tryz.func167.trans (congrArg some (by kernel_rfl))
  f245 := Tryz.func168.trans (congrArg some (by kernel_rfl))
  f246 := Tryz.func152.trans (congrArg some (by kernel_rfl))
  f247 := Tryz.func186.trans (congrArg some (by kernel_rfl))
  f279 := Tryz.func187.trans (congrArg some (by kernel_rfl))
  f280 := Tryz.func188.trans (congrArg some (by kernel_rfl))
  f281 := Tryz.func189.trans (congrArg some (by kernel_rfl))
  f282 := Tryz.func190.trans (congrArg some (by kernel_rfl))
  f283 := Tryz.func175.trans (congrArg some (by kernel_rfl))
  f284 := Tryz.func176.trans (congrArg some (by kernel_rfl))
  f285 := Tryz.func177.trans (congrArg some (by kernel_rfl))
  f286 := Tryz.func178.trans (congrArg some (by kernel_rfl))
  f287 := Tryz.func201.trans (congrArg some (by kernel_rfl))
  f316 := Tryz.func202.trans (congrArg some (by kernel_rfl))
  f317 := Tryz.func195.trans (congrArg some (by kernel_rfl))
  f318 := Tryz.func197.trans (congrArg some (by kernel_rfl))
  f319 := Tryz.func198.trans (congrArg some (by kernel_rfl))
  f320 := Tryz.func199.trans (congrArg some (by kernel_rfl))
  f321 := Tryz.func208.trans (congrArg some (by kernel_rfl))
  f322 := Tryz.func209.trans (congrArg some (by kernel_rfl))
  f337 := Tryz.func206.trans (congrArg some (by kernel_rfl))
  f338 := Tryz.func207.trans (congrArg some (by kernel_rfl))
  t0 := Tryz.underlying0
  a0 := Tryz.isAgg0
  z0 := Tryz.sizeOf0
  v0 := Tryz.zeroValue0
  t2 := Tryz.underlying2
  a2 := Tryz.isAgg2
  z2 := Tryz.sizeOf2
  v2 := Tryz.zeroValue2
  t3 := Tryz.underlying3
  a3 := Tryz.isAgg3
  z3 := Tryz.sizeOf3
  v3 := Tryz.zeroValue3
  t4 := Tryz.underlying4
  a4 := Tryz.isAgg4
  z4 := Tryz.sizeOf4
  v4 := Tryz.zeroValue4
  t5 := Tryz.underlying5
  a5 := Tryz.isAgg5
  z5 := Tryz.sizeOf5
  v5 := Tryz.zeroValue5
  t9 := Tryz.underlying9
  a9 := Tryz.isAgg9
  z9 := Tryz.sizeOf9
  v9 := Tryz.zeroValue9
  t20 := Tryz.underlying20
  a20 := Tryz.isAgg20
  z20 := Tryz.sizeOf20
  v20 := Tryz.zeroValue20
  t21 := Tryz.underlying21
  a21 := Tryz.isAgg21
  z21 := Tryz.sizeOf21
  v21 := Tryz.zeroValue21
  t37 := Tryz.underlying39
  a37 := Tryz.isAgg39
  z37 := Tryz.sizeOf39
  v37 := Tryz.zeroValue39
  t46 := Tryz.underlying151
  a46 := Tryz.isAgg151
  z46 := Tryz.sizeOf151
  v46 := Tryz.zeroValue151
  t51 := Tryz.underlying187
  a51 := Tryz.isAgg187
  z51 := Tryz.sizeOf187
  v51 := Tryz.zeroValue187
  t53 := Tryz.underlying172
  a53 := Tryz.isAgg172
  z53 := Tryz.sizeOf172
  v53 := Tryz.zeroValue172
  t75 := Tryz.underlying95
  a75 := Tryz.isAgg95
  z75 := Tryz.sizeOf95
  v75 := Tryz.zeroValue95
  t76 := Tryz.underlying96
  a76 := Tryz.isAgg96
  z76 := Tryz.sizeOf96
  v76 := Tryz.zeroValue96
  t85 := Tryz.underlying179
  a85 := Tryz.isAgg179
  z85 := Tryz.sizeOf179
  v85 := Tryz.zeroValue179
  t127 := Tryz.underlying135
  a127 := Tryz.isAgg135
  z127 := Tryz.sizeOf135
  v127 := Tryz.zeroValue135
  t143 := Tryz.underlying205
  a143 := Tryz.isAgg205
  z143 := Tryz.sizeOf205
  v143 := Tryz.zeroValue205
  t145 := Tryz.underlying207
  a145 := Tryz.isAgg207
  z145 := Tryz.sizeOf207
  v145 := Tryz.zeroValue207
  t167 := Tryz.underlying178
  a167 := Tryz.isAgg178
  z167 := Tryz.sizeOf178
  v167 := Tryz.zeroValue178
  t168 := Tryz.underlying181
  a168 := Tryz.isAgg181
  z168 := Tryz.sizeOf181
  v168 := Tryz.zeroValue181
  t171 := Tryz.underlying171
  a171 := Tryz.isAgg171
  z171 := Tryz.sizeOf171
  v171 := Tryz.zeroValue171
  t173 := Tryz.underlying175
  a173 := Tryz.isAgg175
  z173 := Tryz.sizeOf175
  v173 := Tryz.zeroValue175
  t175 := Tryz.underlying196
  a175 := Tryz.isAgg196
  z175 := Tryz.sizeOf196
  v175 := Tryz.zeroValue196
  t210 := Tryz.underlying199
  a210 := Tryz.isAgg199
  z210 := Tryz.sizeOf199
  v210 := Tryz.zeroValue199
  t212 := Tryz.underlying186
  a212 := Tryz.isAgg186
  z212 := Tryz.sizeOf186
  v212 := Tryz.zeroValue186
  t213 := Tryz.underlying188
  a213 := Tryz.isAgg188
  z213 := Tryz.sizeOf188
  t232 := Tryz.underlying208
  a232 := Tryz.isAgg208
  z232 := Tryz.sizeOf208
  v232 := Tryz.zeroValue208
  t233 := Tryz.underlying209
  a233 := Tryz.isAgg209
  z233 := Tryz.sizeOf209
  v233 := Tryz.zeroValue209
  g15 := by kernel_rfl
  g16 := by kernel_rfl
  g17 := by kernel_rfl
  g18 := by kernel_rfl
  g19 := by kernel_rfl
  t80 := Tryz.underlying101
  a80 := Tryz.isAgg101
  z80 := Tryz.sizeOf101
  v80 := Tryz.zeroValue101
  i0 := by kernel_rfl
  i2 := by kernel_rfl
  i3 := by kernel_rfl
  i4 := by kernel_rfl
  i5 := by kernel_rfl
  i9 := by kernel_rfl
  i20 := by kernel_rfl
  i21 := by kernel_rfl
  i37 := by kernel_rfl
  i46 := by kernel_rfl
  i51 := by kernel_rfl
  i53 := by kernel_rfl
  i75 := by kernel_rfl
  i76 := by kernel_rfl
  i80 := by kernel_rfl
  i85 := by kernel_rfl
  i127 := by kernel_rfl
  i143 := by kernel_rfl
  i145 := by kernel_rfl
  i167 := by kernel_rfl
  i168 := by kernel_rfl
  i171 := by kernel_rfl
  i173 := by kernel_rfl
  i175 := by kernel_rfl
  i210 := by kernel_rfl
  i212 := by kernel_rfl
  i232 := by kernel_rfl
  i233 := by kernel_rfl
  m15 := by kernel_rfl
  m16 := by kernel_rfl
  m17 := by kernel_rfl
  m18 := by kernel_rfl
  m19 := by kernel_rfl
  c0 := by kernel_rfl
  c2 := by kernel_rfl
  c3 := by kernel_rfl
  c4 := by kernel_rfl
  c5 := by kernel_rfl
  c9 := by kernel_rfl
  c20 := by kernel_rfl
  c21 := by kernel_rfl
  c37 := by kernel_rfl
  c46 := by kernel_rfl
  c51 := by kernel_rfl
  c53 := by kernel_rfl
  c75 := by kernel_rfl
  c76 := by kernel_rfl
  c80 := by kernel_rfl
  c85 := by kernel_rfl
  c127 := by kernel_rfl
  c143 := by kernel_rfl
  c145 := by kernel_rfl
  c167 := by kernel_rfl
  c168 := by kernel_rfl
  c171 := by kernel_rfl
  c173 := by kernel_rfl
  c175 := by kernel_rfl
  c210 := by kernel_rfl
  c212 := by kernel_rfl
  c213 := by kernel_rfl
  c232 := by kernel_rfl
  c233 := by kernel_rfl }
open Go.RowKit in
theorem Tryz.strconv_Atoi_ok (s : ByteArray) (hmax : s.size ≤ 9223372036854775806) (v : Int) (h : Lib.atoiAll s.data.toList = .ok v) (w : World) :
    Calls Tryz.prog 145 #[.string s] w fun e w' => e = .returned (.tuple #[.int .i64 v, .nilIface]) ∧ (w' = w ∨ ∃ t, w' = Lib.bytesWorld w 5 t) := Any.strconv_Atoi_ok Tryz.laysC172 s hmax v h w
open Go.RowKit in
theorem Tryz.strconv_Atoi_range_var (s : ByteArray) (hlim : s.size ≤ 281474976710656) (h : Lib.atoiAll s.data.toList = .range) (tp : TypeId) (p : Value) (w : World) (hvar : w.var? Tryz.prog "strconv.ErrRange" = some #[.iface tp p]) :
    Calls Tryz.prog 145 #[.string s] w fun e w' => ∃ N, e = .returned (.tuple #[.int .i64 (Lib.atoiSat s.data.toList), .iface 181 (.pointer (some ⟨N, 0, none⟩))]) ∧ w.heap.size ≤ N ∧ w'.heap[N]? = some (.cells #[.string ⟨#[65, 116, 111, 105]⟩, .string s, .iface tp p] 199 (0, 0)) ∧ Below w.heap.size w w' := Any.strconv_Atoi_range_var Tryz.laysC172 s hlim h tp p w hvar
def Tryz.laysPah39_ren : Go.Shelf.Ren := ⟨fun | 39 => 148 | 41 => 172 | 40 => 173 | n => n, fun | 30 => 39 | 9 => 9 | 3 => 3 | 0 => 0 | 5 => 5 | 46 => 151 | n => n, fun | n => n⟩
theorem Tryz.laysPah39 : Go.Proofs.Lays.ph39 Tryz.prog Tryz.laysPah39_ren := {
  mixed := by kernel_rfl
  f39 := Tryz.func148.trans (congrArg some (by kernel_rfl))
  f40 := Tryz.func173.trans (congrArg some (by kernel_rfl))
  f41 := Tryz.func172.trans (congrArg some (by kernel_rfl))
  t0 := Tryz.underlying0
  a0 := Tryz.isAgg0
  z0 := Tryz.sizeOf0
  v0 := Tryz.zeroValue0
  t3 := Tryz.underlying3
  a3 := Tryz.isAgg3
  z3 := Tryz.sizeOf3
  v3 := Tryz.zeroValue3
  t5 := Tryz.underlying5
  a5 := Tryz.isAgg5
  z5 := Tryz.sizeOf5
  v5 := Tryz.zeroValue5
  t9 := Tryz.underlying9
  a9 := Tryz.isAgg9
  z9 := Tryz.sizeOf9
  v9 := Tryz.zeroValue9
  t30 := Tryz.underlying39
  a30 := Tryz.isAgg39
  z30 := Tryz.sizeOf39
  v30 := Tryz.zeroValue39
  t46 := Tryz.underlying151
  a46 := Tryz.isAgg151
  z46 := Tryz.sizeOf151
  v46 := Tryz.zeroValue151
  info5 := by kernel_rfl }
open Go.RowKit Go.Lib in
theorem Tryz.hex_EncodeToString_bytes (bs os cs : Nat) (l : List UInt8) (w : World) (hsrc : ∀ i (h : i < l.length), w.cell? ⟨bs, os + i, none⟩ = some (.int .u8 ((l[i]'h).toNat : Int))) (hb : bs < w.heap.size) (hbig : 2 * l.length ≤ 281474976710656) :
    Calls Tryz.prog 148 #[.slice (some ⟨bs, os, none⟩) l.length cs] w fun e w' => e = .returned (.string ⟨(Hx.encode l).toArray⟩) ∧ Below w.heap.size w w' := Any.hex_EncodeToString_bytes Tryz.laysPah39 bs os cs l w hsrc hb hbig
open Go.RowKit Go.Lib in
theorem Tryz.hex_EncodeToString_nil (w : World) :
    Calls Tryz.prog 148 #[.slice none 0 0] w fun e w' => e = .returned (.string ⟨#[]⟩) ∧ Below w.heap.size w w' := Any.hex_EncodeToString_nil Tryz.laysPah39 w
def Tryz.laysPah43_ren : Go.Shelf.Ren := ⟨fun | 43 => 147 | 42 => 170 | 44 => 171 | n => n, fun | 9 => 9 | 30 => 39 | 35 => 95 | 3 => 3 | 38 => 96 | 4 => 4 | 0 => 0 | 5 => 5 | 47 => 184 | 46 => 151 | 45 => 101 | n => n, fun | 0 => 1 | n => n⟩
theorem Tryz.laysPah43 : Go.Proofs.Lays.ph43 Tryz.prog Tryz.laysPah43_ren := {
  mixed := by kernel_rfl
  f42 := Tryz.func170.trans (congrArg some (by kernel_rfl))
  f43 := Tryz.func147.trans (congrArg some (by kernel_rfl))
  f44 := Tryz.func171.trans (congrArg some (by kernel_rfl))
  t0 := Tryz.underlying0
  a0 := Tryz.isAgg0
  z0 := Tryz.sizeOf0
  v0 := Tryz.zeroValue0
  t3 := Tryz.underlying3
  a3 := Tryz.isAgg3
  z3 := Tryz.sizeOf3
  v3 := Tryz.zeroValue3
  t4 := Tryz.underlying4
  a4 := Tryz.isAgg4
  z4 := Tryz.sizeOf4
  v4 := Tryz.zeroValue4
  t5 := Tryz.underlying5
  a5 := Tryz.isAgg5
  z5 := Tryz.sizeOf5
  v5 := Tryz.zeroValue5
  t9 := Tryz.underlying9
  a9 := Tryz.isAgg9
  z9 := Tryz.sizeOf9
  v9 := Tryz.zeroValue9
  t30 := Tryz.underlying39
  a30 := Tryz.isAgg39
  z30 := Tryz.sizeOf39
  v30 := Tryz.zeroValue39
  t35 := Tryz.underlying95
  a35 := Tryz.isAgg95
  z35 := Tryz.sizeOf95
  v35 := Tryz.zeroValue95
  t38 := Tryz.underlying96
  a38 := Tryz.isAgg96
  z38 := Tryz.sizeOf96
  v38 := Tryz.zeroValue96
  t45 := Tryz.underlying101
  a45 := Tryz.isAgg101
  z45 := Tryz.sizeOf101
  v45 := Tryz.zeroValue101
  t46 := Tryz.underlying151
  a46 := Tryz.isAgg151
  z46 := Tryz.sizeOf151
  v46 := Tryz.zeroValue151
  t47 := Tryz.underlying184
  a47 := Tryz.isAgg184
  z47 := Tryz.sizeOf184
  v47 := Tryz.zeroValue184
  g0 := by kernel_rfl
  info5 := by kernel_rfl }
open Go.RowKit Go.Lib in
theorem Tryz.hex_DecodeString_owns (s : ByteArray) (w : World) (ev : Value) (hE : w.cell? ⟨1, 0, none⟩ = some ev) (hbig : s.size ≤ 281474976710656) :
    Calls Tryz.prog 147 #[.string s] w fun e w' => ∃ v, e = .returned (.tuple #[v, Hx.errVal 184 ev (Hx.decode s.data.toList).2]) ∧
      w'.ownsRow w.heap.size 5 1 v (Hx.decode s.data.toList).1.length ((Hx.decode s.data.toList).1.map fun b => Value.int .u8 (b.toNat : Int)) ∧ Below w.heap.size w w' := Any.hex_DecodeString_owns Tryz.laysPah43 s w ev hE hbig
end Go.Proofs

set_option linter.unusedSimpArgs false
set_option linter.unusedVariables false
set_option linter.unnecessarySimpa false
namespace Go.Proofs.YtjncpgcccgdeiaaGreatDoor
open Go Go.RowKit
/- all, any, by places -/
def rall (n : Nat) (p : Nat → Bool) : Bool := (List.range n).all p
theorem rall_true {n : Nat} {p : Nat → Bool} (h : ∀ i, i < n → p i = true) : rall n p = true := List.all_eq_true.2 fun i hi => h i (List.mem_range.1 hi)
theorem rall_false {n i : Nat} {p : Nat → Bool} (hi : i < n) (h : p i = false) : rall n p = false := by
  cases hq : rall n p with
  | false => rfl
  | true => rw [List.all_eq_true.1 hq i (List.mem_range.2 hi)] at h; cases h
theorem rall_get {n i : Nat} {p : Nat → Bool} (h : rall n p = true) (hi : i < n) : p i = true := List.all_eq_true.1 h i (List.mem_range.2 hi)
/- spans -/
theorem getD_map' {α β : Type} {f : α → β} {l : List α} {i : Nat} {d : α} : (l.map f).getD i (f d) = f (l.getD i d) := by
  rw [List.getD_eq_getElem?_getD, List.getD_eq_getElem?_getD, List.getElem?_map]
  cases l[i]? <;> rfl
end Go.Proofs.YtjncpgcccgdeiaaGreatDoor

set_option linter.unusedSimpArgs false
set_option linter.unusedVariables false
set_option linter.unnecessarySimpa false
namespace Go.Proofs.YtjncpgcccgdeiaaGreatDoor
open Go Go.RowKit
section
variable {P : Program} {ops : Array Oper} {Q : Exit → Act → World → Prop} {n : Nat} {w0 : World} {D : List Nat} {L M : List Res} {e : Env} {z fuel : Nat} {listed : Array Bool}
theorem kQ {i : Nat} {o : Oper} {Φ : Value → List Res → Prop} {j : Nat} {b : Bool} {t : Tmp} (hi : ops[i]? = some o) (hg : o.guard = some (j, b)) (hj : (ops[j]?).bind (·.dst) = some t) (ht : Nat.blt t n = true) (hv : e t = .bool b) (ho : JO P n w0 D L e o Φ)
    (h : ∀ v L', Φ v L' → (∀ r ∈ M, r ∈ L') ∧ JA P ops Q n w0 D M z fuel (listed.setIfInBounds i true) L' (updO e o.dst v)) : JX P ops Q n w0 D M z fuel listed L e i := fun w hw => by
  have hlt : t < n := (Nat.blt_eq (x := t) (y := n)) ▸ ht
  have hyy : yielded ops (act n e).tmps j = some b := by simp [yielded, hj, act, hlt, hv]
  unfold wpOp
  simp only [hi]
  rw [if_pos (by simp [Region.wanted, hg, hyy])]
  refine .inl (ho w hw _ Q fun v L' w' hΦ hw' => ?_)
  obtain ⟨h1, h2⟩ := h v L' hΦ
  have hq := hw'.qw.sub h1
  exact ⟨fun _ => .inr hq, h2 w' hw' hq⟩
end
attribute [local irreducible] JL JC JQ JO LO PO JA JX Ct


end Go.Proofs.YtjncpgcccgdeiaaGreatDoor

set_option linter.unusedSimpArgs false
set_option linter.unusedVariables false
set_option linter.unnecessarySimpa false
namespace Go.Proofs.YtjncpgcccgdeiaaGreatDoor
open Go Go.RowKit
/- texts: one of three -/
theorem bl_flip : ∀ a b : Str, (Op.bytesLess a b || decide (a = b)) = !Op.bytesLess b a
  | [], [] => rfl
  | [], _ :: _ => rfl
  | _ :: _, [] => rfl
  | x :: a, y :: b => by
    have ih := bl_flip a b
    by_cases h : x = y
    · subst h
      simp [Op.bytesLess, ← ih]
    · by_cases hl : x < y
      · have h2 : ¬ y < x := by rw [UInt8.lt_iff_toNat_lt] at *; omega
        have h3 : ¬ y = x := fun e => h e.symm
        simp [Op.bytesLess, hl, h2, h3]
      · have h2 : y < x := by
          rw [UInt8.lt_iff_toNat_lt] at *
          have : ¬ x.toNat = y.toNat := fun e => h (UInt8.toNat_inj.1 e)
          omega
        simp [Op.bytesLess, hl, h2, h]
section
variable {P : Program} {n : Nat} {e : Env} {d : Option Tmp} {ty : TypeId} {pos : String} {aft : Array Edge} {gd : Option (Nat × Bool)}
theorem PO.leqS {x y : Operand} {a b : Str} {t u : TypeId} (hx : rd n e x = str a) (hy : rd n e y = str b) : PO P n e ⟨d, .binOp .leq t x y u, ty, pos, aft, gd⟩ (.bool (!Op.bytesLess b a)) := fun w => by
  simp only [str] at hx hy
  rw [← bl_flip]
  simp [execOp, hx, hy, eqGuard, binOp, Op.stringOp, str_toList, beq_dec]
end
def within (lo n hi : Int) : Bool := decide (lo ≤ n) && decide (n ≤ hi)
/- a store -/
def storeG (s : List Cell) (i : Nat) : Bool := keyOk (s.getD i c0).1 && (within 1 (((s.getD i c0).2.length : Nat) : Int) 60 && (!decide ((0 : Int) < ((i : Nat) : Int)) || Op.bytesLess (s.getD (i - 1) c0).1 (s.getD i c0).1))
def storeOk (s : List Cell) : Bool := rall s.length (storeG s) && decide (((s.length : Nat) : Int) ≤ 900)
theorem storeOk_bad {s : List Cell} {j : Nat} (h : j < s.length) (hg : storeG s j = false) : storeOk s = false := by rw [storeOk, rall_false h hg, Bool.false_and]
theorem storeOk_end {s : List Cell} {j : Nat} (h : s.length ≤ j) (hN : ∀ i, i < j → storeG s i = true) : storeOk s = decide (((s.length : Nat) : Int) ≤ 900) := by rw [storeOk, rall_true fun i hi => hN i (by omega), Bool.true_and]
/- a disk -/
def slotG (x : SD) : Bool := !x.whole || (within 0 x.seq 99999 && storeOk x.cells)
def jourOk (t : Str) (js : Int) : Bool := decide (((t.length : Nat) : Int) ≤ 20000) && within 0 js ((t.length : Nat) : Int)
/-- The best slot among the first so many. -/
def bestF (f : Nat → SD) : Nat → Int
  | 0 => -1
  | j + 1 => if (f j).whole = true ∧ (bestF f j < 0 ∨ (f (bestF f j).toNat).seq < (f j).seq) then ((j : Nat) : Int) else bestF f j
theorem bestF_lo (f : Nat → SD) : ∀ j, -1 ≤ bestF f j ∧ bestF f j < ((j : Nat) : Int)
  | 0 => by simp [bestF]
  | j + 1 => by
    have := bestF_lo f j
    unfold bestF
    split <;> omega
theorem bestF_any (f : Nat → SD) : ∀ j, decide (0 ≤ bestF f j) = !rall j fun i => !(f i).whole
  | 0 => rfl
  | j + 1 => by
    have ih := bestF_any f j
    unfold bestF
    by_cases hw : (f j).whole = true
    · rw [rall_false (i := j) (by omega) (by rw [hw]; rfl)]
      split
      · exact decide_eq_true (by omega)
      · rename_i h
        have : ¬ bestF f j < 0 := fun hh => h ⟨hw, .inl hh⟩
        exact decide_eq_true (by omega)
    · rw [if_neg (fun h => hw h.1), ih]
      have hw' : (f j).whole = false := by simpa using hw
      congr 1
      cases hr : rall j fun i => !(f i).whole with
      | false =>
        symm
        cases hr2 : rall (j + 1) fun i => !(f i).whole with
        | false => rfl
        | true => rw [rall_true (n := j) fun i hi => rall_get hr2 (by omega)] at hr; cases hr
      | true =>
        symm
        refine rall_true fun i hi => ?_
        by_cases h : i = j
        · subst h; rw [hw']; rfl
        · exact rall_get hr (by omega)
def diskOkF (n : Nat) (f : Nat → SD) (t : Str) (js : Int) : Bool := decide (((n : Nat) : Int) = 2) && ((!rall n fun i => !(f i).whole) && (rall n (fun i => slotG (f i)) && jourOk t js))
def diskOk (d : DD) : Bool := diskOkF d.slots.length (fun i => d.slots.getD i o0.t) d.jt d.js
def bestD (d : DD) : Int := bestF (fun i => d.slots.getD i o0.t) d.slots.length
theorem diskOk_dat (d : DX) : diskOk d.dat = diskOkF d.l.length (fun i => (d.l.getD i o0).t) d.jt d.js := by
  simp only [diskOk, DX.dat, List.length_map, getD_map']
theorem bestD_dat (d : DX) : bestD d.dat = bestF (fun i => (d.l.getD i o0).t) d.l.length := by
  simp only [bestD, DX.dat, List.length_map, getD_map']
theorem diskOkF_len {n : Nat} {f : Nat → SD} {t : Str} {js : Int} (h : ¬ ((n : Nat) : Int) = 2) : diskOkF n f t js = false := by rw [diskOkF, decide_eq_false h, Bool.false_and]
theorem diskOkF_none {n : Nat} {f : Nat → SD} {t : Str} {js : Int} (hn : ((n : Nat) : Int) = 2) (h0 : (f 0).whole = false) (h1 : (f 1).whole = false) : diskOkF n f t js = false := by
  rw [diskOkF, rall_true (p := fun i => !(f i).whole), Bool.not_true, Bool.false_and, Bool.and_false]
  intro i hi
  have : i = 0 ∨ i = 1 := by omega
  rcases this with rfl | rfl
  · rw [h0]; rfl
  · rw [h1]; rfl
theorem diskOkF_slot {n i : Nat} {f : Nat → SD} {t : Str} {js : Int} (hi : i < n) (h : slotG (f i) = false) : diskOkF n f t js = false := by
  rw [diskOkF, rall_false (p := fun i => slotG (f i)) hi h, Bool.false_and, Bool.and_false, Bool.and_false]
theorem diskOkF_end {n i j : Nat} {f : Nat → SD} {t : Str} {js : Int} (hn : ((n : Nat) : Int) = 2) (hi : i < 2) (hw : (f i).whole = true) (hj : n ≤ j) (hN : ∀ i, i < j → slotG (f i) = true) : diskOkF n f t js = jourOk t js := by
  rw [diskOkF, decide_eq_true hn, rall_false (p := fun i => !(f i).whole) (i := i) (by omega) (by rw [hw]; rfl), rall_true (p := fun i => slotG (f i)) fun i hi => hN i (by omega)]
  simp only [Bool.true_and, Bool.not_false]
theorem diskOkF_spec {n j : Nat} {f : Nat → SD} {t : Str} {js : Int} (hj : n ≤ j) (hN : ∀ i, i < j → slotG (f i) = true) : diskOkF n f t js = (decide (((n : Nat) : Int) = 2) && (decide (0 ≤ bestF f n) && jourOk t js)) := by
  rw [diskOkF, bestF_any, rall_true (p := fun i => slotG (f i)) fun i hi => hN i (by omega), Bool.true_and]
theorem DX.okz_get {d : DX} (h : d.dat.okz) : ∀ j, j < d.l.length → (d.l.getD j o0).t.okz := fun j hj => h.k1 _ (List.mem_map.2 ⟨_, getD_mem hj, rfl⟩)
end Go.Proofs.YtjncpgcccgdeiaaGreatDoor

set_option linter.unusedSimpArgs false
set_option linter.unusedVariables false
set_option linter.unnecessarySimpa false
namespace Go.Proofs.YtjncpgcccgdeiaaGreatDoor
open Go Go.RowKit
section
variable {P : Program} {n : Nat} {e : Env} {d : Option Tmp} {ty : TypeId} {pos : String} {aft : Array Edge} {gd : Option (Nat × Bool)}
theorem PO.min2D {x y : Operand} {a b c : Int} {ts : Array TypeId} (hx : rd n e x = .int .i64 a) (hy : rd n e y = .int .i64 b) (hc : min a b = c) : PO P n e ⟨d, .call ⟨.builtin .min, #[x, y], ts⟩, ty, pos, aft, gd⟩ (.int .i64 c) := fun w => by
  subst hc
  simp [execOp, resolve, invoke, builtin, hx, hy, Lib.run_min_ints]
theorem PO.max2D {x y : Operand} {a b c : Int} {ts : Array TypeId} (hx : rd n e x = .int .i64 a) (hy : rd n e y = .int .i64 b) (hc : max a b = c) : PO P n e ⟨d, .call ⟨.builtin .max, #[x, y], ts⟩, ty, pos, aft, gd⟩ (.int .i64 c) := fun w => by
  subst hc
  simp [execOp, resolve, invoke, builtin, hx, hy, Lib.run_max_ints]
end
end Go.Proofs.YtjncpgcccgdeiaaGreatDoor

set_option linter.unusedSimpArgs false
set_option linter.unusedVariables false
set_option linter.unnecessarySimpa false
namespace Go.Proofs.YtjncpgcccgdeiaaGreatDoor
open Go Go.RowKit
attribute [local irreducible] JL JC JQ JO LO PO JA JX Ct

theorem Y_within (n lo hi : Int) :
    Ct Tryz.prog 76 [.int .i64 n, .int .i64 lo, .int .i64 hi] [] (fun _ => True) (fun v A' => v = .bool (within lo n hi) ∧ A' = []) := by
  refine Ct.intro Tryz.func76 rfl Tryz.ntmps76 (lb rfl) fun w0 hpre => ?_
  refine jC <| jF <| jA (jG (v := .bool false) rfl) <| jE <| jB <| jC <| jF <| jA (jD (v := iv n) rfl) <| jA (jD (v := iv lo) rfl) <| jA (PO.geq rfl rfl) ?_
  refine jA (jD (v := .bool (decide (lo ≤ n))) rfl) ?_
  by_cases h_1 : lo ≤ n
  · refine jM rfl rfl rfl (cB (dT h_1)) (jP (jU (jD (v := iv n) rfl))) ?_
    rintro _ _ ⟨rfl, rfl⟩
    refine jM rfl rfl rfl (cB (dT h_1)) (jP (jU (jD (v := iv hi) rfl))) ?_
    rintro _ _ ⟨rfl, rfl⟩
    refine jM rfl rfl rfl (cB (dT h_1)) (jP (jU (PO.leq rfl rfl))) ?_
    rintro _ _ ⟨rfl, rfl⟩
    refine jA (jh (v := .bool (decide (n ≤ hi))) (cB (dT h_1)) rfl) <| jA (jG (v := .bool (decide (n ≤ hi))) rfl) <| jE <| jB <| jN <| jV (.inl rfl) rfl (jJ (v := .bool (decide (n ≤ hi))) rfl) (List.nil_sublist _) ?_
    refine ⟨?_, rfl⟩
    unfold within
    simp_all <;> omega
  refine jS (b := false) rfl rfl rfl (cB (dF h_1)) <| jS (b := false) rfl rfl rfl (cB (dF h_1)) <| jS (b := false) rfl rfl rfl (cB (dF h_1)) <| jA (ji (v := .bool false) (cB (dF h_1)) rfl) <| jA (jG (v := .bool false) rfl) <| jE <| jB <| jN <| jV (.inl rfl) rfl (jJ (v := .bool false) rfl) (List.nil_sublist _) ?_
  refine ⟨?_, rfl⟩
  unfold within
  simp_all <;> omega

theorem Y_l01In (n lo hi : Int) :
    Ct Tryz.prog 89 [.int .i64 n, .int .i64 lo, .int .i64 hi] [] (fun _ => True) (fun v A' => v = .bool (within lo n hi) ∧ A' = []) := by
  refine Ct.intro Tryz.func89 rfl Tryz.ntmps89 (lb rfl) fun w0 hpre => ?_
  refine jC <| jF <| jA (jG (v := .bool false) rfl) <| jE <| jB <| jC <| jF <| jA (jD (v := iv n) rfl) <| jA (jD (v := iv lo) rfl) <| jA (PO.geq rfl rfl) ?_
  refine jA (jD (v := .bool (decide (lo ≤ n))) rfl) ?_
  by_cases h_1 : lo ≤ n
  · refine jM rfl rfl rfl (cB (dT h_1)) (jP (jU (jD (v := iv n) rfl))) ?_
    rintro _ _ ⟨rfl, rfl⟩
    refine jM rfl rfl rfl (cB (dT h_1)) (jP (jU (jD (v := iv hi) rfl))) ?_
    rintro _ _ ⟨rfl, rfl⟩
    refine jM rfl rfl rfl (cB (dT h_1)) (jP (jU (PO.leq rfl rfl))) ?_
    rintro _ _ ⟨rfl, rfl⟩
    refine jA (jh (v := .bool (decide (n ≤ hi))) (cB (dT h_1)) rfl) <| jA (jG (v := .bool (decide (n ≤ hi))) rfl) <| jE <| jB <| jN <| jV (.inl rfl) rfl (jJ (v := .bool (decide (n ≤ hi))) rfl) (List.nil_sublist _) ?_
    refine ⟨?_, rfl⟩
    unfold within
    simp_all <;> omega
  refine jS (b := false) rfl rfl rfl (cB (dF h_1)) <| jS (b := false) rfl rfl rfl (cB (dF h_1)) <| jS (b := false) rfl rfl rfl (cB (dF h_1)) <| jA (ji (v := .bool false) (cB (dF h_1)) rfl) <| jA (jG (v := .bool false) rfl) <| jE <| jB <| jN <| jV (.inl rfl) rfl (jJ (v := .bool false) rfl) (List.nil_sublist _) ?_
  refine ⟨?_, rfl⟩
  unfold within
  simp_all <;> omega

theorem Y_implKeyOk (key : Str) (hk : key.length ≤ 9223372036854775807) :
    Ct Tryz.prog 78 [str key] [] (fun _ => True) (fun v A' => v = .bool (keyOk key) ∧ A' = []) := by
  refine Ct.intro Tryz.func78 rfl Tryz.ntmps78 (lb rfl) fun w0 hpre => ?_
  refine jC <| jF <| jA (jG (v := .bool false) rfl) <| jE <| jB <| jC <| jC <| jF <| jA (jD (v := str key) rfl) <| jA (kF kg rfl) ?_
  refine jA (jD (v := iv 0) rfl) <| jE <| jB <| jf <| kD (fun k_ e_ L_ => ∃ j : Nat, (j ≤ key.length) ∧ (∀ i, i < j → i < key.length → keyByte (key.getD i 0) = true) ∧ e_ 0 = str key ∧ e_ 5 = iv (key.length : Int) ∧ e_ 6 = nv j ∧ L_ = [] ∧ k_ = key.length - j) _ ⟨0, by omega, (fun i hi => absurd hi (Nat.not_lt_zero i)), rfl, rfl, rfl, rfl, rfl⟩ ?_
  rintro _ e_1 _ ⟨j, hj, hN, he_2, he_3, he_4, rfl, rfl⟩
  refine jC <| jF <| jA (jl he_4 he_3) <| jE <| jB <| jC ?_
  by_cases h_5 : ((j : Nat) : Int) < (key.length : Int)
  · have hlt : j < key.length := by omega
    refine jW (cB (dT h_5)) <| jT <| jB <| jC <| jf <| jC <| jF <| jA (jD (v := nv j) he_4) <| jA (jG (v := nv j) rfl) <| jE ?_
    refine jB <| jC <| jF <| jA (jD (v := str key) he_2) <| jA (jD (v := nv j) rfl) <| jA (PO.indexS (i := j) (c := key.getD j 0) kg rfl rfl (getD_some (by omega))) ?_
    have hu_6 := UInt8.toNat_lt (key.getD j 0)
    refine jA (jl rfl rfl) <| jA (jD (v := .bool (decide (((key.getD j 0).toNat : Int) < 33))) rfl) ?_
    by_cases h_7 : ((key.getD j 0).toNat : Int) < 33
    · refine jS (b := true) rfl rfl rfl (cB (dT h_7)) <| jS (b := true) rfl rfl rfl (cB (dT h_7)) <| jS (b := true) rfl rfl rfl (cB (dT h_7)) <| jS (b := true) rfl rfl rfl (cB (dT h_7)) <| jA (jh (v := .bool true) (cB (dT h_7)) rfl) <| jA (jD (v := .bool true) rfl) <| jS (b := true) rfl rfl rfl (cB rfl) <| jS (b := true) rfl rfl rfl (cB rfl) <| jS (b := true) rfl rfl rfl (cB rfl) <| jS (b := true) rfl rfl rfl (cB rfl) ?_
      refine jA (jh (v := .bool true) (cB rfl) rfl) <| jE <| jB <| jW (cB rfl) <| jC <| jF <| jA (jG (v := .bool false) rfl) <| jE <| jB <| jN ?_
      refine jv <| jX <| jX <| jv <| jX <| jV (.inl rfl) rfl (jJ (v := .bool false) rfl) (List.nil_sublist _) ?_
      refine ⟨?_, rfl⟩
      rw [keyOk_bad (j := j) (by omega) (by clear hN; simp only [keyByte, within, Bool.and_eq_true, Bool.and_eq_false_iff, decide_eq_true_eq, decide_eq_false_iff_not, Bool.not_eq_true', Bool.not_eq_false'] at *; omega)]
    refine jM rfl rfl rfl (cB (dF h_7)) (jP (jU (jD (v := str key) he_2))) ?_
    rintro _ _ ⟨rfl, rfl⟩
    refine jM rfl rfl rfl (cB (dF h_7)) (jP (jU (jD (v := nv j) rfl))) ?_
    rintro _ _ ⟨rfl, rfl⟩
    refine jM rfl rfl rfl (cB (dF h_7)) (jP (jU (PO.indexS (i := j) (c := key.getD j 0) kg rfl rfl (getD_some (by omega))))) ?_
    rintro _ _ ⟨rfl, rfl⟩
    have hu_8 := UInt8.toNat_lt (key.getD j 0)
    refine jM rfl rfl rfl (cB (dF h_7)) (jP (jU (kR rfl rfl))) ?_
    rintro _ _ ⟨rfl, rfl⟩
    refine jA (ji (v := .bool (decide (126 < ((key.getD j 0).toNat : Int)))) (cB (dF h_7)) rfl) <| jA (jD (v := .bool (decide (126 < ((key.getD j 0).toNat : Int)))) rfl) ?_
    by_cases h_9 : 126 < ((key.getD j 0).toNat : Int)
    · refine jS (b := true) rfl rfl rfl (cB (dT h_9)) <| jS (b := true) rfl rfl rfl (cB (dT h_9)) <| jS (b := true) rfl rfl rfl (cB (dT h_9)) <| jS (b := true) rfl rfl rfl (cB (dT h_9)) <| jA (jh (v := .bool true) (cB (dT h_9)) rfl) <| jE <| jB <| jW (cB rfl) <| jC <| jF ?_
      refine jA (jG (v := .bool false) rfl) <| jE <| jB <| jN <| jv <| jX <| jX <| jv <| jX <| jV (.inl rfl) rfl (jJ (v := .bool false) rfl) (List.nil_sublist _) ?_
      refine ⟨?_, rfl⟩
      rw [keyOk_bad (j := j) (by omega) (by clear hN; simp only [keyByte, within, Bool.and_eq_true, Bool.and_eq_false_iff, decide_eq_true_eq, decide_eq_false_iff_not, Bool.not_eq_true', Bool.not_eq_false'] at *; omega)]
    refine jM rfl rfl rfl (cB (dF h_9)) (jP (jU (jD (v := str key) he_2))) ?_
    rintro _ _ ⟨rfl, rfl⟩
    refine jM rfl rfl rfl (cB (dF h_9)) (jP (jU (jD (v := nv j) rfl))) ?_
    rintro _ _ ⟨rfl, rfl⟩
    refine jM rfl rfl rfl (cB (dF h_9)) (jP (jU (PO.indexS (i := j) (c := key.getD j 0) kg rfl rfl (getD_some (by omega))))) ?_
    rintro _ _ ⟨rfl, rfl⟩
    have hu_10 := UInt8.toNat_lt (key.getD j 0)
    refine jM rfl rfl rfl (cB (dF h_9)) (jP (jU (kO rfl rfl))) ?_
    rintro _ _ ⟨rfl, rfl⟩
    refine jA (ji (v := .bool (decide (((key.getD j 0).toNat : Int) = 42))) (cB (dF h_9)) rfl) <| jE <| jB ?_
    by_cases h_11 : ((key.getD j 0).toNat : Int) = 42
    · refine jW (cB (dT h_11)) <| jC <| jF <| jA (jG (v := .bool false) rfl) <| jE <| jB <| jN <| jv <| jX <| jX ?_
      refine jv <| jX <| jV (.inl rfl) rfl (jJ (v := .bool false) rfl) (List.nil_sublist _) ?_
      refine ⟨?_, rfl⟩
      rw [keyOk_bad (j := j) (by omega) (by clear hN; simp only [keyByte, within, Bool.and_eq_true, Bool.and_eq_false_iff, decide_eq_true_eq, decide_eq_false_iff_not, Bool.not_eq_true', Bool.not_eq_false'] at *; omega)]
    refine jR (cB (dF h_11)) <| jT <| jm <| jB <| jF <| jA (jc (c := ((j + 1 : Nat) : Int)) he_4 rfl (wr (by omega))) <| jA (jD (v := iv ((j + 1 : Nat) : Int)) rfl) <| jE ?_
    refine jq (key.length - (j + 1)) (by omega) ⟨j + 1, by omega, (fun i hi hl => if h : i = j then h ▸ (by clear hN; simp only [keyByte, within, Bool.and_eq_true, Bool.and_eq_false_iff, decide_eq_true_eq, decide_eq_false_iff_not, Bool.not_eq_true', Bool.not_eq_false'] at *; omega : keyByte (key.getD j 0) = true) else hN i (by omega) hl), he_2, he_3, rfl, rfl, rfl⟩
  refine jR (cB (dF h_5)) <| jx <| jb <| jb <| jy <| jB <| jC <| jF <| jA (jD (v := str key) he_2) <| jA (kF kg rfl) ?_
  refine jH rfl (jI [] Tryz.call76 rfl (Y_within (key.length : Int) 1 40) rfl (fun _ _ => trivial)) ?_
  rintro _ _ ⟨_, ⟨rfl, rfl⟩, rfl⟩
  refine jA (jG (v := .bool (within 1 (key.length : Int) 40)) rfl) <| jE <| jB <| jN <| jV (.inl rfl) rfl (jJ (v := .bool (within 1 (key.length : Int) 40)) rfl) (List.nil_sublist _) ?_
  refine ⟨?_, rfl⟩
  rw [keyOk_good (j := j) (by omega) hN]
  exact cB (by unfold within; congr 1 <;> exact decide_eq_decide.2 (by omega))

theorem Y_specKeyOk (key : Str) (hk : key.length ≤ 9223372036854775807) :
    Ct Tryz.prog 92 [str key] [] (fun _ => True) (fun v A' => v = .bool (keyOk key) ∧ A' = []) := by
  refine Ct.intro Tryz.func92 rfl Tryz.ntmps92 (lb rfl) fun w0 hpre => ?_
  refine jC <| jF <| jA (jG (v := .bool false) rfl) <| jE <| jB <| jC <| jC <| jF <| jA (jG (v := iv 0) rfl) <| jE ?_
  refine jB <| jf <| kD (fun k_ e_ L_ => ∃ j : Nat, (j ≤ key.length) ∧ (∀ i, i < j → i < key.length → keyByte (key.getD i 0) = true) ∧ e_ 0 = str key ∧ e_ 3 = nv j ∧ L_ = [] ∧ k_ = key.length - j) _ ⟨0, by omega, (fun i hi => absurd hi (Nat.not_lt_zero i)), rfl, rfl, rfl, rfl⟩ ?_
  rintro _ e_1 _ ⟨j, hj, hN, he_2, he_3, rfl, rfl⟩
  refine jC <| jC <| jF <| jA (jD (v := nv j) he_3) <| jA (jD (v := str key) he_2) <| jA (kF kg rfl) <| jA (jl rfl rfl) <| jE <| jB ?_
  by_cases h_4 : ((j : Nat) : Int) < (key.length : Int)
  · have hlt : j < key.length := by omega
    refine jW (cB (dT h_4)) <| jT <| jB <| jC <| jf <| jC <| jF <| jA (jD (v := str key) he_2) <| jA (jD (v := nv j) he_3) <| jA (PO.indexS (i := j) (c := key.getD j 0) kg rfl rfl (getD_some (by omega))) ?_
    have hu_5 := UInt8.toNat_lt (key.getD j 0)
    refine jA (PO.convI (c := ((key.getD j 0).toNat : Int)) kv gC rfl (wr (by omega))) ?_
    refine jH rfl (jI [] Tryz.call89 rfl (Y_l01In ((key.getD j 0).toNat : Int) 33 126) rfl (fun _ _ => trivial)) ?_
    rintro _ _ ⟨_, ⟨rfl, rfl⟩, rfl⟩
    refine jA (jp rfl) <| jA (jD (v := .bool (!(within 33 ((key.getD j 0).toNat : Int) 126))) rfl) ?_
    rcases Bool.eq_false_or_eq_true (within 33 ((key.getD j 0).toNat : Int) 126) with h_6 | h_6
    · refine jM rfl rfl rfl (cB (cN h_6)) (jP (jU (jD (v := str key) he_2))) ?_
      rintro _ _ ⟨rfl, rfl⟩
      refine jM rfl rfl rfl (cB (cN h_6)) (jP (jU (jD (v := nv j) he_3))) ?_
      rintro _ _ ⟨rfl, rfl⟩
      refine jM rfl rfl rfl (cB (cN h_6)) (jP (jU (PO.indexS (i := j) (c := key.getD j 0) kg rfl rfl (getD_some (by omega))))) ?_
      rintro _ _ ⟨rfl, rfl⟩
      have hu_7 := UInt8.toNat_lt (key.getD j 0)
      refine jM rfl rfl rfl (cB (cN h_6)) (jP (jU (kO rfl rfl))) ?_
      rintro _ _ ⟨rfl, rfl⟩
      refine jA (ji (v := .bool (decide (((key.getD j 0).toNat : Int) = 42))) (cB (cN h_6)) rfl) <| jE <| jB ?_
      by_cases h_8 : ((key.getD j 0).toNat : Int) = 42
      · refine jW (cB (dT h_8)) <| jC <| jF <| jA (jG (v := .bool false) rfl) <| jE <| jB <| jN <| jv <| jX <| jX ?_
        refine jv <| jX <| jV (.inl rfl) rfl (jJ (v := .bool false) rfl) (List.nil_sublist _) ?_
        refine ⟨?_, rfl⟩
        rw [keyOk_bad (j := j) (by omega) (by clear hN; simp only [keyByte, within, Bool.and_eq_true, Bool.and_eq_false_iff, decide_eq_true_eq, decide_eq_false_iff_not, Bool.not_eq_true', Bool.not_eq_false'] at *; omega)]
      refine jR (cB (dF h_8)) <| jT <| jm <| jB <| jF <| jA (jD (v := nv j) he_3) <| jA (jc (c := ((j + 1 : Nat) : Int)) rfl rfl (wr (by omega))) <| jA (jG (v := iv ((j + 1 : Nat) : Int)) rfl) <| jE ?_
      refine jq (key.length - (j + 1)) (by omega) ⟨j + 1, by omega, (fun i hi hl => if h : i = j then h ▸ (by clear hN; simp only [keyByte, within, Bool.and_eq_true, Bool.and_eq_false_iff, decide_eq_true_eq, decide_eq_false_iff_not, Bool.not_eq_true', Bool.not_eq_false'] at *; omega : keyByte (key.getD j 0) = true) else hN i (by omega) hl), he_2, rfl, rfl, rfl⟩
    refine jS (b := true) rfl rfl rfl (cB (cN h_6)) <| jS (b := true) rfl rfl rfl (cB (cN h_6)) <| jS (b := true) rfl rfl rfl (cB (cN h_6)) <| jS (b := true) rfl rfl rfl (cB (cN h_6)) <| jA (jh (v := .bool true) (cB (cN h_6)) rfl) <| jE <| jB <| jW (cB rfl) <| jC <| jF ?_
    refine jA (jG (v := .bool false) rfl) <| jE <| jB <| jN <| jv <| jX <| jX <| jv <| jX <| jV (.inl rfl) rfl (jJ (v := .bool false) rfl) (List.nil_sublist _) ?_
    refine ⟨?_, rfl⟩
    rw [keyOk_bad (j := j) (by omega) (by clear hN; simp only [keyByte, within, Bool.and_eq_true, Bool.and_eq_false_iff, decide_eq_true_eq, decide_eq_false_iff_not, Bool.not_eq_true', Bool.not_eq_false'] at *; omega)]
  refine jR (cB (dF h_4)) <| jx <| jb <| jb <| jy <| jB <| jC <| jF <| jA (jD (v := str key) he_2) <| jA (kF kg rfl) ?_
  refine jH rfl (jI [] Tryz.call89 rfl (Y_l01In (key.length : Int) 1 40) rfl (fun _ _ => trivial)) ?_
  rintro _ _ ⟨_, ⟨rfl, rfl⟩, rfl⟩
  refine jA (jG (v := .bool (within 1 (key.length : Int) 40)) rfl) <| jE <| jB <| jN <| jV (.inl rfl) rfl (jJ (v := .bool (within 1 (key.length : Int) 40)) rfl) (List.nil_sublist _) ?_
  refine ⟨?_, rfl⟩
  rw [keyOk_good (j := j) (by omega) hN]
  exact cB (by unfold within; congr 1 <;> exact decide_eq_decide.2 (by omega))

theorem Y_implbro (x : Int) (y : Nat) :
    Ct Tryz.prog 123 [.int .i64 x, .int .i64 0, .int .i64 ((y : Nat) : Int)] [] (fun _ => True) (fun v A' => v = .int .i64 ((bro x y : Nat) : Int) ∧ A' = []) := by
  refine Ct.intro Tryz.func123 rfl Tryz.ntmps123 (lb rfl) fun w0 hpre => ?_
  refine jC <| jF <| jA (jG (v := iv 0) rfl) <| jE <| jB <| jC <| jF <| jA (jD (v := iv 0) rfl) <| jA (jD (v := iv x) rfl) <| jA (jD (v := nv y) rfl) ?_
  refine jA (PO.min2D (c := min x ((y : Nat) : Int)) rfl rfl rfl) <| jA (PO.max2D (c := max 0 (min x ((y : Nat) : Int))) rfl rfl rfl) <| jA (jG (v := iv (max 0 (min x ((y : Nat) : Int)))) rfl) <| jE <| jB <| jN <| jV (.inl rfl) rfl (jJ (v := iv (max 0 (min x ((y : Nat) : Int)))) rfl) (List.nil_sublist _) ?_
  refine ⟨?_, rfl⟩
  exact congrArg (Value.int .i64) (by unfold bro; first | omega | (simp only [Int.min_def, Int.max_def]; omega) | grind)

theorem Y_specbro (x : Int) (y : Nat) :
    Ct Tryz.prog 59 [.int .i64 x, .int .i64 0, .int .i64 ((y : Nat) : Int)] [] (fun _ => True) (fun v A' => v = .int .i64 ((bro x y : Nat) : Int) ∧ A' = []) := by
  refine Ct.intro Tryz.func59 rfl Tryz.ntmps59 (lb rfl) fun w0 hpre => ?_
  refine jC <| jF <| jA (jG (v := iv 0) rfl) <| jE <| jB <| jC <| jC <| jF <| jA (jD (v := nv y) rfl) <| jA (jD (v := iv 0) rfl) ?_
  refine jA (jl rfl rfl) <| jA (jD (v := .bool (decide (((y : Nat) : Int) < 0))) rfl) ?_
  by_cases h_1 : ((y : Nat) : Int) < 0
  · refine jS (b := true) rfl rfl rfl (cB (dT h_1)) <| jS (b := true) rfl rfl rfl (cB (dT h_1)) <| jS (b := true) rfl rfl rfl (cB (dT h_1)) <| jA (jh (v := .bool true) (cB (dT h_1)) rfl) <| jE <| jB <| jW (cB rfl) <| jC <| jF <| jA (jD (v := iv 0) rfl) ?_
    refine jA (jG (v := iv 0) rfl) <| jE <| jB <| jN <| jX <| jV (.inl rfl) rfl (jJ (v := iv 0) rfl) (List.nil_sublist _) ?_
    refine ⟨?_, rfl⟩
    exact congrArg (Value.int .i64) (by unfold bro; first | omega | (simp only [Int.min_def, Int.max_def]; omega) | grind)
  refine jM rfl rfl rfl (cB (dF h_1)) (jP (jU (jD (v := iv x) rfl))) ?_
  rintro _ _ ⟨rfl, rfl⟩
  refine jM rfl rfl rfl (cB (dF h_1)) (jP (jU (jD (v := iv 0) rfl))) ?_
  rintro _ _ ⟨rfl, rfl⟩
  refine jM rfl rfl rfl (cB (dF h_1)) (jP (jU (jl rfl rfl))) ?_
  rintro _ _ ⟨rfl, rfl⟩
  refine jA (ji (v := .bool (decide (x < 0))) (cB (dF h_1)) rfl) <| jE <| jB ?_
  by_cases h_2 : x < 0
  · refine jW (cB (dT h_2)) <| jC <| jF <| jA (jD (v := iv 0) rfl) <| jA (jG (v := iv 0) rfl) <| jE <| jB <| jN <| jX <| jV (.inl rfl) rfl (jJ (v := iv 0) rfl) (List.nil_sublist _) ?_
    refine ⟨?_, rfl⟩
    exact congrArg (Value.int .i64) (by unfold bro; first | omega | (simp only [Int.min_def, Int.max_def]; omega) | grind)
  refine jR (cB (dF h_2)) <| jT <| jB <| jC <| jC <| jF <| jA (jD (v := iv x) rfl) <| jA (jD (v := nv y) rfl) <| jA (kR rfl rfl) <| jE ?_
  refine jB ?_
  by_cases h_3 : ((y : Nat) : Int) < x
  · refine jW (cB (dT h_3)) <| jC <| jF <| jA (jD (v := nv y) rfl) <| jA (jG (v := nv y) rfl) <| jE <| jB <| jN <| jX <| jV (.inl rfl) rfl (jJ (v := nv y) rfl) (List.nil_sublist _) ?_
    refine ⟨?_, rfl⟩
    exact congrArg (Value.int .i64) (by unfold bro; first | omega | (simp only [Int.min_def, Int.max_def]; omega) | grind)
  refine jR (cB (dF h_3)) <| jT <| jB <| jC <| jF <| jA (jD (v := iv x) rfl) <| jA (jG (v := iv x) rfl) <| jE <| jB <| jN ?_
  refine jV (.inl rfl) rfl (jJ (v := iv x) rfl) (List.nil_sublist _) ?_
  refine ⟨?_, rfl⟩
  exact congrArg (Value.int .i64) (by unfold bro; first | omega | (simp only [Int.min_def, Int.max_def]; omega) | grind)

set_option maxRecDepth 4000 in
set_option maxHeartbeats 1000000 in
theorem Y_implStoreOk (a : Option Addr) (c : Nat) (s : List Cell) (hs : okC s) :
    Ct Tryz.prog 85 [.slice a s.length c] [] (fun w_ => Sees w_ (.slice a s.length c) 2 s.length (s.flatMap encC)) (fun v A' => v = .bool (storeOk s) ∧ A' = []) := by
  refine Ct.intro Tryz.func85 rfl Tryz.ntmps85 (lb rfl) fun w0 hpre => ?_
  have hs_a : Sees w0 _ _ _ _ := hpre
  have hsl := hs.1
  refine jC <| jF <| jA (jG (v := .bool false) rfl) <| jE <| jB <| jC <| jC <| jF <| jA (jD (v := .slice a s.length c) rfl) <| jA (jr kf rfl) ?_
  refine jA (jD (v := iv 0) rfl) <| jE <| jB <| jf <| kD (fun k_ e_ L_ => ∃ j : Nat, (j ≤ s.length) ∧ (∀ i, i < j → storeG s i = true) ∧ e_ 0 = .slice a s.length c ∧ e_ 5 = .slice a s.length c ∧ e_ 6 = nv s.length ∧ e_ 7 = nv j ∧ L_ = [] ∧ k_ = s.length - j) _ ⟨0, by omega, (fun i hi => absurd hi (Nat.not_lt_zero i)), rfl, rfl, rfl, rfl, rfl, rfl⟩ ?_
  rintro _ e_1 _ ⟨j, hj, hN, he_2, he_3, he_4, he_5, rfl, rfl⟩
  refine jC <| jF <| jA (jl he_5 he_4) <| jE <| jB <| jC ?_
  by_cases h_6 : ((j : Nat) : Int) < ((s.length : Nat) : Int)
  · have hlt : j < s.length := by omega
    refine jW (cB (dT h_6)) <| jT <| jB <| jC <| jf <| jC <| jF <| jA (jD (v := nv j) he_5) ?_
    obtain ⟨hr_7, hr_7b, -⟩ := sees_some hs_a (by omega)
    refine jA (jk (i := j) kf kh hr_7 hr_7b he_3 he_5 (by omega)) <| jK (kX (vs := [str ((s.getD j c0).1), str ((s.getD j c0).2)]) hs_a nM rfl gG kh (atC (by omega)) rfl (by decide)) ?_
    refine jH rfl (jo (z := .agg #[str [], str []]) (cs := [str [], str []]) kw rfl) ?_
    rintro _ _ ⟨b_8, rfl, rfl⟩
    refine jA (jG (v := nv j) rfl) ?_
    refine jH rfl (ja 0 (vs := [str ((s.getD j c0).1), str ((s.getD j c0).2)]) (cs' := [str ((s.getD j c0).1), str ((s.getD j c0).2)]) rfl rfl rfl rfl kh rfl rfl (lb rfl) rfl) ?_
    rintro _ _ rfl
    refine jE <| jB <| jC <| kJ [bk b_8 48 [str ((s.getD j c0).1), str ((s.getD j c0).2)]] 1000 mixed (by simp) <| jL 0 rfl (jQ fo48_0 rfl) <| jw 1 rfl (jZ 0 (v := str ((s.getD j c0).1)) rfl rfl ki rfl) <| jj (i := 2) ?_
    refine jz rfl rfl (jI [] Tryz.call78 rfl (Y_implKeyOk ((s.getD j c0).1) (hs.2 j hlt).1) rfl (fun _ _ => trivial)) ?_
    rintro _ _ ⟨_, ⟨rfl, rfl⟩, rfl⟩
    refine ⟨by simp, ?_⟩
    refine jL 3 rfl (jp rfl) <| jL 4 rfl (jD (v := .bool (!(keyOk ((s.getD j c0).1)))) rfl) ?_
    rcases Bool.eq_false_or_eq_true (keyOk ((s.getD j c0).1)) with h_9 | h_9
    · refine jg 5 rfl (by kernel_rfl) (NP.th (NP.bl (NP.th (NP.th (NP.bl (NP.th NP.body)))))) (by kernel_rfl) (by kernel_rfl) rfl rfl rfl (cB (cN h_9)) (jQ fo48_1 rfl) <| kK 6 rfl (by kernel_rfl) (NP.th (NP.bl (NP.th (NP.th (NP.bl (NP.th NP.body)))))) (by kernel_rfl) (by kernel_rfl) (by kernel_rfl) rfl rfl rfl (cB (cN h_9)) (jZ 0 (v := str ((s.getD j c0).2)) rfl rfl ki rfl) <| jg 7 rfl (by kernel_rfl) (NP.th (NP.bl (NP.th (NP.th (NP.bl (NP.th NP.body)))))) (by kernel_rfl) (by kernel_rfl) rfl rfl rfl (cB (cN h_9)) (kF kg rfl) <| jj (i := 8) ?_
      refine kQ rfl rfl rfl rfl (cB (cN h_9)) (jI [] Tryz.call76 rfl (Y_within (((s.getD j c0).2).length : Int) 1 60) rfl (fun _ _ => trivial)) ?_
      rintro _ _ ⟨_, ⟨rfl, rfl⟩, rfl⟩
      refine ⟨by simp, ?_⟩
      refine jg 9 rfl (by kernel_rfl) (NP.th (NP.bl (NP.th (NP.th (NP.bl (NP.th NP.body)))))) (by kernel_rfl) (by kernel_rfl) rfl rfl rfl (cB (cN h_9)) (jp rfl) <| jL 10 rfl (ji (v := .bool (!(within 1 (((s.getD j c0).2).length : Int) 60))) (cB (cN h_9)) rfl) <| jL 11 rfl (jD (v := .bool (!(within 1 (((s.getD j c0).2).length : Int) 60))) rfl) ?_
      rcases Bool.eq_false_or_eq_true (within 1 (((s.getD j c0).2).length : Int) 60) with h_10 | h_10
      · refine jg 12 rfl (by kernel_rfl) (NP.th (NP.bl (NP.th (NP.th (NP.bl (NP.th NP.body)))))) (by kernel_rfl) (by kernel_rfl) rfl rfl rfl (cB (cN h_10)) (jD (v := nv j) rfl) <| jg 13 rfl (by kernel_rfl) (NP.th (NP.bl (NP.th (NP.th (NP.bl (NP.th NP.body)))))) (by kernel_rfl) (by kernel_rfl) rfl rfl rfl (cB (cN h_10)) (kR rfl rfl) <| jg 14 rfl (by kernel_rfl) (NP.th (NP.bl (NP.th (NP.th (NP.bl (NP.th NP.body)))))) (by kernel_rfl) (by kernel_rfl) rfl rfl rfl (cB (cN h_10)) (jD (v := .bool (decide (0 < ((j : Nat) : Int)))) rfl) ?_
        by_cases h_11 : 0 < ((j : Nat) : Int)
        · refine jg 15 rfl (by kernel_rfl) (NP.th (NP.bl (NP.th (NP.th (NP.bl (NP.th NP.body)))))) (by kernel_rfl) (by kernel_rfl) rfl rfl rfl (cB (dT h_11)) (jQ fo48_0 rfl) <| kK 16 rfl (by kernel_rfl) (NP.th (NP.bl (NP.th (NP.th (NP.bl (NP.th NP.body)))))) (by kernel_rfl) (by kernel_rfl) (by kernel_rfl) rfl rfl rfl (cB (dT h_11)) (jZ 0 (v := str ((s.getD j c0).1)) rfl rfl ki rfl) <| jg 17 rfl (by kernel_rfl) (NP.th (NP.bl (NP.th (NP.th (NP.bl (NP.th NP.body)))))) (by kernel_rfl) (by kernel_rfl) rfl rfl rfl (cB (dT h_11)) (jD (v := .slice a s.length c) he_2) <| jg 18 rfl (by kernel_rfl) (NP.th (NP.bl (NP.th (NP.th (NP.bl (NP.th NP.body)))))) (by kernel_rfl) (by kernel_rfl) rfl rfl rfl (cB (dT h_11)) (jD (v := nv j) rfl) <| jg 19 rfl (by kernel_rfl) (NP.th (NP.bl (NP.th (NP.th (NP.bl (NP.th NP.body)))))) (by kernel_rfl) (by kernel_rfl) rfl rfl rfl (cB (dT h_11)) (kZ (c := ((j - 1 : Nat) : Int)) rfl rfl (wr (by omega))) <| jg 20 rfl (by kernel_rfl) (NP.th (NP.bl (NP.th (NP.th (NP.bl (NP.th NP.body)))))) (by kernel_rfl) (by kernel_rfl) rfl rfl rfl (cB (dT h_11)) (jk (i := (j - 1)) kf kh hr_7 hr_7b rfl rfl (by omega)) <| jg 21 rfl (by kernel_rfl) (NP.th (NP.bl (NP.th (NP.th (NP.bl (NP.th NP.body)))))) (by kernel_rfl) (by kernel_rfl) rfl rfl rfl (cB (dT h_11)) (kL fo48_0 hr_7 rfl) <| kK 22 rfl (by kernel_rfl) (NP.th (NP.bl (NP.th (NP.th (NP.bl (NP.th NP.body)))))) (by kernel_rfl) (by kernel_rfl) (by kernel_rfl) rfl rfl rfl (cB (dT h_11)) (kY (v := str ((s.getD (j - 1) c0).1)) hs_a nM rfl ki (atC1 (by omega))) <| jg 23 rfl (by kernel_rfl) (NP.th (NP.bl (NP.th (NP.th (NP.bl (NP.th NP.body)))))) (by kernel_rfl) (by kernel_rfl) rfl rfl rfl (cB (dT h_11)) (PO.leqS rfl rfl) <| jg 24 rfl (by kernel_rfl) (NP.th (NP.bl (NP.th (NP.th (NP.bl (NP.th NP.body)))))) (by kernel_rfl) (by kernel_rfl) rfl rfl rfl (cB (cN h_10)) (jh (v := .bool (!(Op.bytesLess ((s.getD (j - 1) c0).1) ((s.getD j c0).1)))) (cB (dT h_11)) rfl) ?_
          refine jL 25 rfl (ji (v := .bool (!(Op.bytesLess ((s.getD (j - 1) c0).1) ((s.getD j c0).1)))) (cB (cN h_10)) rfl) <| kI (by kernel_rfl) <| jB ?_
          rcases Bool.eq_false_or_eq_true (Op.bytesLess ((s.getD (j - 1) c0).1) ((s.getD j c0).1)) with h_12 | h_12
          · refine jR (cB (cN h_12)) <| jT <| jm <| jB <| jF <| jA (jc (c := ((j + 1 : Nat) : Int)) he_5 rfl (wr (by omega))) <| jA (jD (v := iv ((j + 1 : Nat) : Int)) rfl) <| jE <| kB [] (A := []) rfl ?_
            refine jq (s.length - (j + 1)) (by omega) ⟨j + 1, by omega, (fun i hi => if h : i = j then h ▸ (by simp only [storeG, Bool.and_true, Bool.true_and, Bool.and_false, Bool.false_and, Bool.or_true, Bool.true_or, Bool.or_false, Bool.false_or, Bool.not_true, Bool.not_false, ((dT h_6)), (h_9), (h_10), ((dT h_11)), (h_12)]) else hN i (by omega)), he_2, he_3, he_4, rfl, rfl, rfl⟩
          refine jW (cB (cN h_12)) <| jC <| jF <| jA (jG (v := .bool false) rfl) <| jE <| jB <| jN <| jv <| jX <| jX ?_
          refine jv <| jX <| jV (.inl rfl) rfl (jJ (v := .bool false) rfl) (List.nil_sublist _) ?_
          exact ⟨cB (storeOk_bad hlt (by simp only [storeG, Bool.and_true, Bool.true_and, Bool.and_false, Bool.false_and, Bool.or_true, Bool.true_or, Bool.or_false, Bool.false_or, Bool.not_true, Bool.not_false, ((dT h_6)), (h_9), (h_10), ((dT h_11)), (h_12)])).symm, rfl⟩
        refine jd 15 (b := false) rfl (by kernel_rfl) (NP.th (NP.bl (NP.th (NP.th (NP.bl (NP.th NP.body)))))) (by kernel_rfl) (by kernel_rfl) rfl rfl rfl (cB (dF h_11)) <| jd 16 (b := false) rfl (by kernel_rfl) (NP.th (NP.bl (NP.th (NP.th (NP.bl (NP.th NP.body)))))) (by kernel_rfl) (by kernel_rfl) rfl rfl rfl (cB (dF h_11)) <| jd 17 (b := false) rfl (by kernel_rfl) (NP.th (NP.bl (NP.th (NP.th (NP.bl (NP.th NP.body)))))) (by kernel_rfl) (by kernel_rfl) rfl rfl rfl (cB (dF h_11)) <| jd 18 (b := false) rfl (by kernel_rfl) (NP.th (NP.bl (NP.th (NP.th (NP.bl (NP.th NP.body)))))) (by kernel_rfl) (by kernel_rfl) rfl rfl rfl (cB (dF h_11)) <| jd 19 (b := false) rfl (by kernel_rfl) (NP.th (NP.bl (NP.th (NP.th (NP.bl (NP.th NP.body)))))) (by kernel_rfl) (by kernel_rfl) rfl rfl rfl (cB (dF h_11)) <| jd 20 (b := false) rfl (by kernel_rfl) (NP.th (NP.bl (NP.th (NP.th (NP.bl (NP.th NP.body)))))) (by kernel_rfl) (by kernel_rfl) rfl rfl rfl (cB (dF h_11)) <| jd 21 (b := false) rfl (by kernel_rfl) (NP.th (NP.bl (NP.th (NP.th (NP.bl (NP.th NP.body)))))) (by kernel_rfl) (by kernel_rfl) rfl rfl rfl (cB (dF h_11)) <| jd 22 (b := false) rfl (by kernel_rfl) (NP.th (NP.bl (NP.th (NP.th (NP.bl (NP.th NP.body)))))) (by kernel_rfl) (by kernel_rfl) rfl rfl rfl (cB (dF h_11)) <| jd 23 (b := false) rfl (by kernel_rfl) (NP.th (NP.bl (NP.th (NP.th (NP.bl (NP.th NP.body)))))) (by kernel_rfl) (by kernel_rfl) rfl rfl rfl (cB (dF h_11)) <| jg 24 rfl (by kernel_rfl) (NP.th (NP.bl (NP.th (NP.th (NP.bl (NP.th NP.body)))))) (by kernel_rfl) (by kernel_rfl) rfl rfl rfl (cB (cN h_10)) (ji (v := .bool false) (cB (dF h_11)) rfl) ?_
        refine jL 25 rfl (ji (v := .bool false) (cB (cN h_10)) rfl) <| kI (by kernel_rfl) <| jB <| jR (cB rfl) <| jT <| jm <| jB <| jF <| jA (jc (c := ((j + 1 : Nat) : Int)) he_5 rfl (wr (by omega))) <| jA (jD (v := iv ((j + 1 : Nat) : Int)) rfl) ?_
        refine jE <| kB [] (A := []) rfl ?_
        refine jq (s.length - (j + 1)) (by omega) ⟨j + 1, by omega, (fun i hi => if h : i = j then h ▸ (by simp only [storeG, Bool.and_true, Bool.true_and, Bool.and_false, Bool.false_and, Bool.or_true, Bool.true_or, Bool.or_false, Bool.false_or, Bool.not_true, Bool.not_false, ((dT h_6)), (h_9), (h_10), ((dF h_11))]) else hN i (by omega)), he_2, he_3, he_4, rfl, rfl, rfl⟩
      refine jd 12 (b := true) rfl (by kernel_rfl) (NP.th (NP.bl (NP.th (NP.th (NP.bl (NP.th NP.body)))))) (by kernel_rfl) (by kernel_rfl) rfl rfl rfl (cB (cN h_10)) <| jd 13 (b := true) rfl (by kernel_rfl) (NP.th (NP.bl (NP.th (NP.th (NP.bl (NP.th NP.body)))))) (by kernel_rfl) (by kernel_rfl) rfl rfl rfl (cB (cN h_10)) <| jd 14 (b := true) rfl (by kernel_rfl) (NP.th (NP.bl (NP.th (NP.th (NP.bl (NP.th NP.body)))))) (by kernel_rfl) (by kernel_rfl) rfl rfl rfl (cB (cN h_10)) <| kE 15 rfl (by kernel_rfl) (NP.th (NP.bl (NP.th (NP.th (NP.bl (NP.th NP.body)))))) (by kernel_rfl) (by kernel_rfl) rfl rfl rfl rfl <| kE 16 rfl (by kernel_rfl) (NP.th (NP.bl (NP.th (NP.th (NP.bl (NP.th NP.body)))))) (by kernel_rfl) (by kernel_rfl) rfl rfl rfl rfl <| kE 17 rfl (by kernel_rfl) (NP.th (NP.bl (NP.th (NP.th (NP.bl (NP.th NP.body)))))) (by kernel_rfl) (by kernel_rfl) rfl rfl rfl rfl <| kE 18 rfl (by kernel_rfl) (NP.th (NP.bl (NP.th (NP.th (NP.bl (NP.th NP.body)))))) (by kernel_rfl) (by kernel_rfl) rfl rfl rfl rfl <| kE 19 rfl (by kernel_rfl) (NP.th (NP.bl (NP.th (NP.th (NP.bl (NP.th NP.body)))))) (by kernel_rfl) (by kernel_rfl) rfl rfl rfl rfl <| kE 20 rfl (by kernel_rfl) (NP.th (NP.bl (NP.th (NP.th (NP.bl (NP.th NP.body)))))) (by kernel_rfl) (by kernel_rfl) rfl rfl rfl rfl <| kE 21 rfl (by kernel_rfl) (NP.th (NP.bl (NP.th (NP.th (NP.bl (NP.th NP.body)))))) (by kernel_rfl) (by kernel_rfl) rfl rfl rfl rfl ?_
      refine kE 22 rfl (by kernel_rfl) (NP.th (NP.bl (NP.th (NP.th (NP.bl (NP.th NP.body)))))) (by kernel_rfl) (by kernel_rfl) rfl rfl rfl rfl <| kE 23 rfl (by kernel_rfl) (NP.th (NP.bl (NP.th (NP.th (NP.bl (NP.th NP.body)))))) (by kernel_rfl) (by kernel_rfl) rfl rfl rfl rfl <| jd 24 (b := true) rfl (by kernel_rfl) (NP.th (NP.bl (NP.th (NP.th (NP.bl (NP.th NP.body)))))) (by kernel_rfl) (by kernel_rfl) rfl rfl rfl (cB (cN h_10)) <| jL 25 rfl (jh (v := .bool true) (cB (cN h_10)) rfl) <| kI (by kernel_rfl) <| jB <| jW (cB rfl) <| jC <| jF <| jA (jG (v := .bool false) rfl) ?_
      refine jE <| jB <| jN <| jv <| jX <| jX <| jv <| jX <| jV (.inl rfl) rfl (jJ (v := .bool false) rfl) (List.nil_sublist _) ?_
      exact ⟨cB (storeOk_bad hlt (by simp only [storeG, Bool.and_true, Bool.true_and, Bool.and_false, Bool.false_and, Bool.or_true, Bool.true_or, Bool.or_false, Bool.false_or, Bool.not_true, Bool.not_false, ((dT h_6)), (h_9), (h_10)])).symm, rfl⟩
    refine jd 5 (b := true) rfl (by kernel_rfl) (NP.th (NP.bl (NP.th (NP.th (NP.bl (NP.th NP.body)))))) (by kernel_rfl) (by kernel_rfl) rfl rfl rfl (cB (cN h_9)) <| jd 6 (b := true) rfl (by kernel_rfl) (NP.th (NP.bl (NP.th (NP.th (NP.bl (NP.th NP.body)))))) (by kernel_rfl) (by kernel_rfl) rfl rfl rfl (cB (cN h_9)) <| jd 7 (b := true) rfl (by kernel_rfl) (NP.th (NP.bl (NP.th (NP.th (NP.bl (NP.th NP.body)))))) (by kernel_rfl) (by kernel_rfl) rfl rfl rfl (cB (cN h_9)) <| jd 8 (b := true) rfl (by kernel_rfl) (NP.th (NP.bl (NP.th (NP.th (NP.bl (NP.th NP.body)))))) (by kernel_rfl) (by kernel_rfl) rfl rfl rfl (cB (cN h_9)) <| jd 9 (b := true) rfl (by kernel_rfl) (NP.th (NP.bl (NP.th (NP.th (NP.bl (NP.th NP.body)))))) (by kernel_rfl) (by kernel_rfl) rfl rfl rfl (cB (cN h_9)) <| jL 10 rfl (jh (v := .bool true) (cB (cN h_9)) rfl) <| jL 11 rfl (jD (v := .bool true) rfl) <| jd 12 (b := true) rfl (by kernel_rfl) (NP.th (NP.bl (NP.th (NP.th (NP.bl (NP.th NP.body)))))) (by kernel_rfl) (by kernel_rfl) rfl rfl rfl (cB rfl) <| jd 13 (b := true) rfl (by kernel_rfl) (NP.th (NP.bl (NP.th (NP.th (NP.bl (NP.th NP.body)))))) (by kernel_rfl) (by kernel_rfl) rfl rfl rfl (cB rfl) <| jd 14 (b := true) rfl (by kernel_rfl) (NP.th (NP.bl (NP.th (NP.th (NP.bl (NP.th NP.body)))))) (by kernel_rfl) (by kernel_rfl) rfl rfl rfl (cB rfl) ?_
    refine kE 15 rfl (by kernel_rfl) (NP.th (NP.bl (NP.th (NP.th (NP.bl (NP.th NP.body)))))) (by kernel_rfl) (by kernel_rfl) rfl rfl rfl rfl <| kE 16 rfl (by kernel_rfl) (NP.th (NP.bl (NP.th (NP.th (NP.bl (NP.th NP.body)))))) (by kernel_rfl) (by kernel_rfl) rfl rfl rfl rfl <| kE 17 rfl (by kernel_rfl) (NP.th (NP.bl (NP.th (NP.th (NP.bl (NP.th NP.body)))))) (by kernel_rfl) (by kernel_rfl) rfl rfl rfl rfl <| kE 18 rfl (by kernel_rfl) (NP.th (NP.bl (NP.th (NP.th (NP.bl (NP.th NP.body)))))) (by kernel_rfl) (by kernel_rfl) rfl rfl rfl rfl <| kE 19 rfl (by kernel_rfl) (NP.th (NP.bl (NP.th (NP.th (NP.bl (NP.th NP.body)))))) (by kernel_rfl) (by kernel_rfl) rfl rfl rfl rfl <| kE 20 rfl (by kernel_rfl) (NP.th (NP.bl (NP.th (NP.th (NP.bl (NP.th NP.body)))))) (by kernel_rfl) (by kernel_rfl) rfl rfl rfl rfl <| kE 21 rfl (by kernel_rfl) (NP.th (NP.bl (NP.th (NP.th (NP.bl (NP.th NP.body)))))) (by kernel_rfl) (by kernel_rfl) rfl rfl rfl rfl <| kE 22 rfl (by kernel_rfl) (NP.th (NP.bl (NP.th (NP.th (NP.bl (NP.th NP.body)))))) (by kernel_rfl) (by kernel_rfl) rfl rfl rfl rfl <| kE 23 rfl (by kernel_rfl) (NP.th (NP.bl (NP.th (NP.th (NP.bl (NP.th NP.body)))))) (by kernel_rfl) (by kernel_rfl) rfl rfl rfl rfl <| jd 24 (b := true) rfl (by kernel_rfl) (NP.th (NP.bl (NP.th (NP.th (NP.bl (NP.th NP.body)))))) (by kernel_rfl) (by kernel_rfl) rfl rfl rfl (cB rfl) ?_
    refine jL 25 rfl (jh (v := .bool true) (cB rfl) rfl) <| kI (by kernel_rfl) <| jB <| jW (cB rfl) <| jC <| jF <| jA (jG (v := .bool false) rfl) <| jE <| jB <| jN ?_
    refine jv <| jX <| jX <| jv <| jX <| jV (.inl rfl) rfl (jJ (v := .bool false) rfl) (List.nil_sublist _) ?_
    exact ⟨cB (storeOk_bad hlt (by simp only [storeG, Bool.and_true, Bool.true_and, Bool.and_false, Bool.false_and, Bool.or_true, Bool.true_or, Bool.or_false, Bool.false_or, Bool.not_true, Bool.not_false, ((dT h_6)), (h_9)])).symm, rfl⟩
  refine jR (cB (dF h_6)) <| jx <| jb <| jb <| jy <| jB <| jC <| jF <| jA (jD (v := .slice a s.length c) he_2) <| jA (jr kf rfl) ?_
  refine jA (PO.leq rfl rfl) <| jA (jG (v := .bool (decide (((s.length : Nat) : Int) ≤ 900))) rfl) <| jE <| jB <| jN <| jV (.inl rfl) rfl (jJ (v := .bool (decide (((s.length : Nat) : Int) ≤ 900))) rfl) (List.nil_sublist _) ?_
  exact ⟨cB (storeOk_end (by omega) hN).symm, rfl⟩

set_option maxRecDepth 4000 in
set_option maxHeartbeats 1000000 in
theorem Y_specStoreOk (a : Option Addr) (c : Nat) (s : List Cell) (hs : okC s) :
    Ct Tryz.prog 53 [.slice a s.length c] [] (fun w_ => Sees w_ (.slice a s.length c) 2 s.length (s.flatMap encC)) (fun v A' => v = .bool (storeOk s) ∧ A' = []) := by
  refine Ct.intro Tryz.func53 rfl Tryz.ntmps53 (lb rfl) fun w0 hpre => ?_
  have hs_a : Sees w0 _ _ _ _ := hpre
  have hsl := hs.1
  refine jC <| jF <| jA (jG (v := .bool false) rfl) <| jE <| jB <| jC <| jC <| jF <| jA (jG (v := iv 0) rfl) <| jE ?_
  refine jB <| jf <| kD (fun k_ e_ L_ => ∃ j : Nat, (j ≤ s.length) ∧ (∀ i, i < j → storeG s i = true) ∧ e_ 0 = .slice a s.length c ∧ e_ 3 = nv j ∧ L_ = [] ∧ k_ = s.length - j) _ ⟨0, by omega, (fun i hi => absurd hi (Nat.not_lt_zero i)), rfl, rfl, rfl, rfl⟩ ?_
  rintro _ e_1 _ ⟨j, hj, hN, he_2, he_3, rfl, rfl⟩
  refine jC <| jC <| jF <| jA (jD (v := nv j) he_3) <| jA (jD (v := .slice a s.length c) he_2) <| jA (jr kf rfl) <| jA (jl rfl rfl) <| jE <| jB ?_
  by_cases h_4 : ((j : Nat) : Int) < ((s.length : Nat) : Int)
  · have hlt : j < s.length := by omega
    refine jW (cB (dT h_4)) <| jT <| jB <| jC <| jf <| jC <| kJ [] 1000 mixed (by simp) <| jL 0 rfl (jD (v := .slice a s.length c) he_2) <| jL 1 rfl (jD (v := nv j) he_3) ?_
    obtain ⟨hr_5, hr_5b, -⟩ := sees_some hs_a (by omega)
    refine jL 2 rfl (jk (i := j) kf kh hr_5 hr_5b rfl rfl (by omega)) <| jL 3 rfl (kL fo48_0 hr_5 rfl) <| jw 4 rfl (kY (v := str ((s.getD j c0).1)) hs_a nM rfl ki (atC1 (by omega))) <| jj (i := 5) ?_
    refine jz rfl rfl (jI [] Tryz.call92 rfl (Y_specKeyOk ((s.getD j c0).1) (hs.2 j hlt).1) rfl (fun _ _ => trivial)) ?_
    rintro _ _ ⟨_, ⟨rfl, rfl⟩, rfl⟩
    refine ⟨(fun _ h => by cases h), ?_⟩
    refine jL 6 rfl (jp rfl) <| jL 7 rfl (jD (v := .bool (!(keyOk ((s.getD j c0).1)))) rfl) ?_
    rcases Bool.eq_false_or_eq_true (keyOk ((s.getD j c0).1)) with h_6 | h_6
    · refine jg 8 rfl (by kernel_rfl) (NP.th (NP.bl (NP.th (NP.th (NP.bl (NP.th NP.body)))))) (by kernel_rfl) (by kernel_rfl) rfl rfl rfl (cB (cN h_6)) (jD (v := .slice a s.length c) he_2) <| jg 9 rfl (by kernel_rfl) (NP.th (NP.bl (NP.th (NP.th (NP.bl (NP.th NP.body)))))) (by kernel_rfl) (by kernel_rfl) rfl rfl rfl (cB (cN h_6)) (jD (v := nv j) he_3) <| jg 10 rfl (by kernel_rfl) (NP.th (NP.bl (NP.th (NP.th (NP.bl (NP.th NP.body)))))) (by kernel_rfl) (by kernel_rfl) rfl rfl rfl (cB (cN h_6)) (jk (i := j) kf kh hr_5 hr_5b rfl rfl (by omega)) <| jg 11 rfl (by kernel_rfl) (NP.th (NP.bl (NP.th (NP.th (NP.bl (NP.th NP.body)))))) (by kernel_rfl) (by kernel_rfl) rfl rfl rfl (cB (cN h_6)) (kL fo48_1 hr_5 rfl) <| kK 12 rfl (by kernel_rfl) (NP.th (NP.bl (NP.th (NP.th (NP.bl (NP.th NP.body)))))) (by kernel_rfl) (by kernel_rfl) (by kernel_rfl) rfl rfl rfl (cB (cN h_6)) (kY (v := str ((s.getD j c0).2)) hs_a nM rfl ki (atC2 (by omega))) <| jg 13 rfl (by kernel_rfl) (NP.th (NP.bl (NP.th (NP.th (NP.bl (NP.th NP.body)))))) (by kernel_rfl) (by kernel_rfl) rfl rfl rfl (cB (cN h_6)) (kF kg rfl) <| jj (i := 14) ?_
      refine kQ rfl rfl rfl rfl (cB (cN h_6)) (jI [] Tryz.call89 rfl (Y_l01In (((s.getD j c0).2).length : Int) 1 60) rfl (fun _ _ => trivial)) ?_
      rintro _ _ ⟨_, ⟨rfl, rfl⟩, rfl⟩
      refine ⟨(fun _ h => by cases h), ?_⟩
      refine jg 15 rfl (by kernel_rfl) (NP.th (NP.bl (NP.th (NP.th (NP.bl (NP.th NP.body)))))) (by kernel_rfl) (by kernel_rfl) rfl rfl rfl (cB (cN h_6)) (jp rfl) <| jL 16 rfl (ji (v := .bool (!(within 1 (((s.getD j c0).2).length : Int) 60))) (cB (cN h_6)) rfl) <| jL 17 rfl (jD (v := .bool (!(within 1 (((s.getD j c0).2).length : Int) 60))) rfl) ?_
      rcases Bool.eq_false_or_eq_true (within 1 (((s.getD j c0).2).length : Int) 60) with h_7 | h_7
      · refine jg 18 rfl (by kernel_rfl) (NP.th (NP.bl (NP.th (NP.th (NP.bl (NP.th NP.body)))))) (by kernel_rfl) (by kernel_rfl) rfl rfl rfl (cB (cN h_7)) (jD (v := nv j) he_3) <| jg 19 rfl (by kernel_rfl) (NP.th (NP.bl (NP.th (NP.th (NP.bl (NP.th NP.body)))))) (by kernel_rfl) (by kernel_rfl) rfl rfl rfl (cB (cN h_7)) (kR rfl rfl) <| jg 20 rfl (by kernel_rfl) (NP.th (NP.bl (NP.th (NP.th (NP.bl (NP.th NP.body)))))) (by kernel_rfl) (by kernel_rfl) rfl rfl rfl (cB (cN h_7)) (jD (v := .bool (decide (0 < ((j : Nat) : Int)))) rfl) ?_
        by_cases h_8 : 0 < ((j : Nat) : Int)
        · refine jg 21 rfl (by kernel_rfl) (NP.th (NP.bl (NP.th (NP.th (NP.bl (NP.th NP.body)))))) (by kernel_rfl) (by kernel_rfl) rfl rfl rfl (cB (dT h_8)) (jD (v := .slice a s.length c) he_2) <| jg 22 rfl (by kernel_rfl) (NP.th (NP.bl (NP.th (NP.th (NP.bl (NP.th NP.body)))))) (by kernel_rfl) (by kernel_rfl) rfl rfl rfl (cB (dT h_8)) (jD (v := nv j) he_3) <| jg 23 rfl (by kernel_rfl) (NP.th (NP.bl (NP.th (NP.th (NP.bl (NP.th NP.body)))))) (by kernel_rfl) (by kernel_rfl) rfl rfl rfl (cB (dT h_8)) (kZ (c := ((j - 1 : Nat) : Int)) rfl rfl (wr (by omega))) <| jg 24 rfl (by kernel_rfl) (NP.th (NP.bl (NP.th (NP.th (NP.bl (NP.th NP.body)))))) (by kernel_rfl) (by kernel_rfl) rfl rfl rfl (cB (dT h_8)) (jk (i := (j - 1)) kf kh hr_5 hr_5b rfl rfl (by omega)) <| jg 25 rfl (by kernel_rfl) (NP.th (NP.bl (NP.th (NP.th (NP.bl (NP.th NP.body)))))) (by kernel_rfl) (by kernel_rfl) rfl rfl rfl (cB (dT h_8)) (kL fo48_0 hr_5 rfl) <| kK 26 rfl (by kernel_rfl) (NP.th (NP.bl (NP.th (NP.th (NP.bl (NP.th NP.body)))))) (by kernel_rfl) (by kernel_rfl) (by kernel_rfl) rfl rfl rfl (cB (dT h_8)) (kY (v := str ((s.getD (j - 1) c0).1)) hs_a nM rfl ki (atC1 (by omega))) <| jg 27 rfl (by kernel_rfl) (NP.th (NP.bl (NP.th (NP.th (NP.bl (NP.th NP.body)))))) (by kernel_rfl) (by kernel_rfl) rfl rfl rfl (cB (dT h_8)) (jD (v := .slice a s.length c) he_2) <| jg 28 rfl (by kernel_rfl) (NP.th (NP.bl (NP.th (NP.th (NP.bl (NP.th NP.body)))))) (by kernel_rfl) (by kernel_rfl) rfl rfl rfl (cB (dT h_8)) (jD (v := nv j) he_3) <| jg 29 rfl (by kernel_rfl) (NP.th (NP.bl (NP.th (NP.th (NP.bl (NP.th NP.body)))))) (by kernel_rfl) (by kernel_rfl) rfl rfl rfl (cB (dT h_8)) (jk (i := j) kf kh hr_5 hr_5b rfl rfl (by omega)) <| jg 30 rfl (by kernel_rfl) (NP.th (NP.bl (NP.th (NP.th (NP.bl (NP.th NP.body)))))) (by kernel_rfl) (by kernel_rfl) rfl rfl rfl (cB (dT h_8)) (kL fo48_0 hr_5 rfl) ?_
          refine kK 31 rfl (by kernel_rfl) (NP.th (NP.bl (NP.th (NP.th (NP.bl (NP.th NP.body)))))) (by kernel_rfl) (by kernel_rfl) (by kernel_rfl) rfl rfl rfl (cB (dT h_8)) (kY (v := str ((s.getD j c0).1)) hs_a nM rfl ki (atC1 (by omega))) <| jg 32 rfl (by kernel_rfl) (NP.th (NP.bl (NP.th (NP.th (NP.bl (NP.th NP.body)))))) (by kernel_rfl) (by kernel_rfl) rfl rfl rfl (cB (dT h_8)) (PO.geqS rfl rfl) <| jg 33 rfl (by kernel_rfl) (NP.th (NP.bl (NP.th (NP.th (NP.bl (NP.th NP.body)))))) (by kernel_rfl) (by kernel_rfl) rfl rfl rfl (cB (cN h_7)) (jh (v := .bool (!(Op.bytesLess ((s.getD (j - 1) c0).1) ((s.getD j c0).1)))) (cB (dT h_8)) rfl) <| jL 34 rfl (ji (v := .bool (!(Op.bytesLess ((s.getD (j - 1) c0).1) ((s.getD j c0).1)))) (cB (cN h_7)) rfl) <| kI (by kernel_rfl) <| jB ?_
          rcases Bool.eq_false_or_eq_true (Op.bytesLess ((s.getD (j - 1) c0).1) ((s.getD j c0).1)) with h_9 | h_9
          · refine jR (cB (cN h_9)) <| jT <| jm <| jB <| jF <| jA (jD (v := nv j) he_3) <| jA (jc (c := ((j + 1 : Nat) : Int)) rfl rfl (wr (by omega))) <| jA (jG (v := iv ((j + 1 : Nat) : Int)) rfl) <| jE ?_
            refine jq (s.length - (j + 1)) (by omega) ⟨j + 1, by omega, (fun i hi => if h : i = j then h ▸ (by simp only [storeG, Bool.and_true, Bool.true_and, Bool.and_false, Bool.false_and, Bool.or_true, Bool.true_or, Bool.or_false, Bool.false_or, Bool.not_true, Bool.not_false, ((dT h_4)), (h_6), (h_7), ((dT h_8)), (h_9)]) else hN i (by omega)), he_2, rfl, rfl, rfl⟩
          refine jW (cB (cN h_9)) <| jC <| jF <| jA (jG (v := .bool false) rfl) <| jE <| jB <| jN <| jv <| jX <| jX ?_
          refine jv <| jX <| jV (.inl rfl) rfl (jJ (v := .bool false) rfl) (List.nil_sublist _) ?_
          exact ⟨cB (storeOk_bad hlt (by simp only [storeG, Bool.and_true, Bool.true_and, Bool.and_false, Bool.false_and, Bool.or_true, Bool.true_or, Bool.or_false, Bool.false_or, Bool.not_true, Bool.not_false, ((dT h_4)), (h_6), (h_7), ((dT h_8)), (h_9)])).symm, rfl⟩
        refine jd 21 (b := false) rfl (by kernel_rfl) (NP.th (NP.bl (NP.th (NP.th (NP.bl (NP.th NP.body)))))) (by kernel_rfl) (by kernel_rfl) rfl rfl rfl (cB (dF h_8)) <| jd 22 (b := false) rfl (by kernel_rfl) (NP.th (NP.bl (NP.th (NP.th (NP.bl (NP.th NP.body)))))) (by kernel_rfl) (by kernel_rfl) rfl rfl rfl (cB (dF h_8)) <| jd 23 (b := false) rfl (by kernel_rfl) (NP.th (NP.bl (NP.th (NP.th (NP.bl (NP.th NP.body)))))) (by kernel_rfl) (by kernel_rfl) rfl rfl rfl (cB (dF h_8)) <| jd 24 (b := false) rfl (by kernel_rfl) (NP.th (NP.bl (NP.th (NP.th (NP.bl (NP.th NP.body)))))) (by kernel_rfl) (by kernel_rfl) rfl rfl rfl (cB (dF h_8)) <| jd 25 (b := false) rfl (by kernel_rfl) (NP.th (NP.bl (NP.th (NP.th (NP.bl (NP.th NP.body)))))) (by kernel_rfl) (by kernel_rfl) rfl rfl rfl (cB (dF h_8)) <| jd 26 (b := false) rfl (by kernel_rfl) (NP.th (NP.bl (NP.th (NP.th (NP.bl (NP.th NP.body)))))) (by kernel_rfl) (by kernel_rfl) rfl rfl rfl (cB (dF h_8)) <| jd 27 (b := false) rfl (by kernel_rfl) (NP.th (NP.bl (NP.th (NP.th (NP.bl (NP.th NP.body)))))) (by kernel_rfl) (by kernel_rfl) rfl rfl rfl (cB (dF h_8)) <| jd 28 (b := false) rfl (by kernel_rfl) (NP.th (NP.bl (NP.th (NP.th (NP.bl (NP.th NP.body)))))) (by kernel_rfl) (by kernel_rfl) rfl rfl rfl (cB (dF h_8)) <| jd 29 (b := false) rfl (by kernel_rfl) (NP.th (NP.bl (NP.th (NP.th (NP.bl (NP.th NP.body)))))) (by kernel_rfl) (by kernel_rfl) rfl rfl rfl (cB (dF h_8)) <| jd 30 (b := false) rfl (by kernel_rfl) (NP.th (NP.bl (NP.th (NP.th (NP.bl (NP.th NP.body)))))) (by kernel_rfl) (by kernel_rfl) rfl rfl rfl (cB (dF h_8)) ?_
        refine jd 31 (b := false) rfl (by kernel_rfl) (NP.th (NP.bl (NP.th (NP.th (NP.bl (NP.th NP.body)))))) (by kernel_rfl) (by kernel_rfl) rfl rfl rfl (cB (dF h_8)) <| jd 32 (b := false) rfl (by kernel_rfl) (NP.th (NP.bl (NP.th (NP.th (NP.bl (NP.th NP.body)))))) (by kernel_rfl) (by kernel_rfl) rfl rfl rfl (cB (dF h_8)) <| jg 33 rfl (by kernel_rfl) (NP.th (NP.bl (NP.th (NP.th (NP.bl (NP.th NP.body)))))) (by kernel_rfl) (by kernel_rfl) rfl rfl rfl (cB (cN h_7)) (ji (v := .bool false) (cB (dF h_8)) rfl) <| jL 34 rfl (ji (v := .bool false) (cB (cN h_7)) rfl) <| kI (by kernel_rfl) <| jB <| jR (cB rfl) <| jT <| jm <| jB ?_
        refine jF <| jA (jD (v := nv j) he_3) <| jA (jc (c := ((j + 1 : Nat) : Int)) rfl rfl (wr (by omega))) <| jA (jG (v := iv ((j + 1 : Nat) : Int)) rfl) <| jE ?_
        refine jq (s.length - (j + 1)) (by omega) ⟨j + 1, by omega, (fun i hi => if h : i = j then h ▸ (by simp only [storeG, Bool.and_true, Bool.true_and, Bool.and_false, Bool.false_and, Bool.or_true, Bool.true_or, Bool.or_false, Bool.false_or, Bool.not_true, Bool.not_false, ((dT h_4)), (h_6), (h_7), ((dF h_8))]) else hN i (by omega)), he_2, rfl, rfl, rfl⟩
      refine jd 18 (b := true) rfl (by kernel_rfl) (NP.th (NP.bl (NP.th (NP.th (NP.bl (NP.th NP.body)))))) (by kernel_rfl) (by kernel_rfl) rfl rfl rfl (cB (cN h_7)) <| jd 19 (b := true) rfl (by kernel_rfl) (NP.th (NP.bl (NP.th (NP.th (NP.bl (NP.th NP.body)))))) (by kernel_rfl) (by kernel_rfl) rfl rfl rfl (cB (cN h_7)) <| jd 20 (b := true) rfl (by kernel_rfl) (NP.th (NP.bl (NP.th (NP.th (NP.bl (NP.th NP.body)))))) (by kernel_rfl) (by kernel_rfl) rfl rfl rfl (cB (cN h_7)) <| kE 21 rfl (by kernel_rfl) (NP.th (NP.bl (NP.th (NP.th (NP.bl (NP.th NP.body)))))) (by kernel_rfl) (by kernel_rfl) rfl rfl rfl rfl <| kE 22 rfl (by kernel_rfl) (NP.th (NP.bl (NP.th (NP.th (NP.bl (NP.th NP.body)))))) (by kernel_rfl) (by kernel_rfl) rfl rfl rfl rfl <| kE 23 rfl (by kernel_rfl) (NP.th (NP.bl (NP.th (NP.th (NP.bl (NP.th NP.body)))))) (by kernel_rfl) (by kernel_rfl) rfl rfl rfl rfl <| kE 24 rfl (by kernel_rfl) (NP.th (NP.bl (NP.th (NP.th (NP.bl (NP.th NP.body)))))) (by kernel_rfl) (by kernel_rfl) rfl rfl rfl rfl <| kE 25 rfl (by kernel_rfl) (NP.th (NP.bl (NP.th (NP.th (NP.bl (NP.th NP.body)))))) (by kernel_rfl) (by kernel_rfl) rfl rfl rfl rfl <| kE 26 rfl (by kernel_rfl) (NP.th (NP.bl (NP.th (NP.th (NP.bl (NP.th NP.body)))))) (by kernel_rfl) (by kernel_rfl) rfl rfl rfl rfl <| kE 27 rfl (by kernel_rfl) (NP.th (NP.bl (NP.th (NP.th (NP.bl (NP.th NP.body)))))) (by kernel_rfl) (by kernel_rfl) rfl rfl rfl rfl ?_
      refine kE 28 rfl (by kernel_rfl) (NP.th (NP.bl (NP.th (NP.th (NP.bl (NP.th NP.body)))))) (by kernel_rfl) (by kernel_rfl) rfl rfl rfl rfl <| kE 29 rfl (by kernel_rfl) (NP.th (NP.bl (NP.th (NP.th (NP.bl (NP.th NP.body)))))) (by kernel_rfl) (by kernel_rfl) rfl rfl rfl rfl <| kE 30 rfl (by kernel_rfl) (NP.th (NP.bl (NP.th (NP.th (NP.bl (NP.th NP.body)))))) (by kernel_rfl) (by kernel_rfl) rfl rfl rfl rfl <| kE 31 rfl (by kernel_rfl) (NP.th (NP.bl (NP.th (NP.th (NP.bl (NP.th NP.body)))))) (by kernel_rfl) (by kernel_rfl) rfl rfl rfl rfl <| kE 32 rfl (by kernel_rfl) (NP.th (NP.bl (NP.th (NP.th (NP.bl (NP.th NP.body)))))) (by kernel_rfl) (by kernel_rfl) rfl rfl rfl rfl <| jd 33 (b := true) rfl (by kernel_rfl) (NP.th (NP.bl (NP.th (NP.th (NP.bl (NP.th NP.body)))))) (by kernel_rfl) (by kernel_rfl) rfl rfl rfl (cB (cN h_7)) <| jL 34 rfl (jh (v := .bool true) (cB (cN h_7)) rfl) <| kI (by kernel_rfl) <| jB <| jW (cB rfl) ?_
      refine jC <| jF <| jA (jG (v := .bool false) rfl) <| jE <| jB <| jN <| jv <| jX <| jX <| jv ?_
      refine jX <| jV (.inl rfl) rfl (jJ (v := .bool false) rfl) (List.nil_sublist _) ?_
      exact ⟨cB (storeOk_bad hlt (by simp only [storeG, Bool.and_true, Bool.true_and, Bool.and_false, Bool.false_and, Bool.or_true, Bool.true_or, Bool.or_false, Bool.false_or, Bool.not_true, Bool.not_false, ((dT h_4)), (h_6), (h_7)])).symm, rfl⟩
    refine jd 8 (b := true) rfl (by kernel_rfl) (NP.th (NP.bl (NP.th (NP.th (NP.bl (NP.th NP.body)))))) (by kernel_rfl) (by kernel_rfl) rfl rfl rfl (cB (cN h_6)) <| jd 9 (b := true) rfl (by kernel_rfl) (NP.th (NP.bl (NP.th (NP.th (NP.bl (NP.th NP.body)))))) (by kernel_rfl) (by kernel_rfl) rfl rfl rfl (cB (cN h_6)) <| jd 10 (b := true) rfl (by kernel_rfl) (NP.th (NP.bl (NP.th (NP.th (NP.bl (NP.th NP.body)))))) (by kernel_rfl) (by kernel_rfl) rfl rfl rfl (cB (cN h_6)) <| jd 11 (b := true) rfl (by kernel_rfl) (NP.th (NP.bl (NP.th (NP.th (NP.bl (NP.th NP.body)))))) (by kernel_rfl) (by kernel_rfl) rfl rfl rfl (cB (cN h_6)) <| jd 12 (b := true) rfl (by kernel_rfl) (NP.th (NP.bl (NP.th (NP.th (NP.bl (NP.th NP.body)))))) (by kernel_rfl) (by kernel_rfl) rfl rfl rfl (cB (cN h_6)) <| jd 13 (b := true) rfl (by kernel_rfl) (NP.th (NP.bl (NP.th (NP.th (NP.bl (NP.th NP.body)))))) (by kernel_rfl) (by kernel_rfl) rfl rfl rfl (cB (cN h_6)) <| jd 14 (b := true) rfl (by kernel_rfl) (NP.th (NP.bl (NP.th (NP.th (NP.bl (NP.th NP.body)))))) (by kernel_rfl) (by kernel_rfl) rfl rfl rfl (cB (cN h_6)) <| jd 15 (b := true) rfl (by kernel_rfl) (NP.th (NP.bl (NP.th (NP.th (NP.bl (NP.th NP.body)))))) (by kernel_rfl) (by kernel_rfl) rfl rfl rfl (cB (cN h_6)) <| jL 16 rfl (jh (v := .bool true) (cB (cN h_6)) rfl) <| jL 17 rfl (jD (v := .bool true) rfl) ?_
    refine jd 18 (b := true) rfl (by kernel_rfl) (NP.th (NP.bl (NP.th (NP.th (NP.bl (NP.th NP.body)))))) (by kernel_rfl) (by kernel_rfl) rfl rfl rfl (cB rfl) <| jd 19 (b := true) rfl (by kernel_rfl) (NP.th (NP.bl (NP.th (NP.th (NP.bl (NP.th NP.body)))))) (by kernel_rfl) (by kernel_rfl) rfl rfl rfl (cB rfl) <| jd 20 (b := true) rfl (by kernel_rfl) (NP.th (NP.bl (NP.th (NP.th (NP.bl (NP.th NP.body)))))) (by kernel_rfl) (by kernel_rfl) rfl rfl rfl (cB rfl) <| kE 21 rfl (by kernel_rfl) (NP.th (NP.bl (NP.th (NP.th (NP.bl (NP.th NP.body)))))) (by kernel_rfl) (by kernel_rfl) rfl rfl rfl rfl <| kE 22 rfl (by kernel_rfl) (NP.th (NP.bl (NP.th (NP.th (NP.bl (NP.th NP.body)))))) (by kernel_rfl) (by kernel_rfl) rfl rfl rfl rfl <| kE 23 rfl (by kernel_rfl) (NP.th (NP.bl (NP.th (NP.th (NP.bl (NP.th NP.body)))))) (by kernel_rfl) (by kernel_rfl) rfl rfl rfl rfl <| kE 24 rfl (by kernel_rfl) (NP.th (NP.bl (NP.th (NP.th (NP.bl (NP.th NP.body)))))) (by kernel_rfl) (by kernel_rfl) rfl rfl rfl rfl <| kE 25 rfl (by kernel_rfl) (NP.th (NP.bl (NP.th (NP.th (NP.bl (NP.th NP.body)))))) (by kernel_rfl) (by kernel_rfl) rfl rfl rfl rfl <| kE 26 rfl (by kernel_rfl) (NP.th (NP.bl (NP.th (NP.th (NP.bl (NP.th NP.body)))))) (by kernel_rfl) (by kernel_rfl) rfl rfl rfl rfl <| kE 27 rfl (by kernel_rfl) (NP.th (NP.bl (NP.th (NP.th (NP.bl (NP.th NP.body)))))) (by kernel_rfl) (by kernel_rfl) rfl rfl rfl rfl ?_
    refine kE 28 rfl (by kernel_rfl) (NP.th (NP.bl (NP.th (NP.th (NP.bl (NP.th NP.body)))))) (by kernel_rfl) (by kernel_rfl) rfl rfl rfl rfl <| kE 29 rfl (by kernel_rfl) (NP.th (NP.bl (NP.th (NP.th (NP.bl (NP.th NP.body)))))) (by kernel_rfl) (by kernel_rfl) rfl rfl rfl rfl <| kE 30 rfl (by kernel_rfl) (NP.th (NP.bl (NP.th (NP.th (NP.bl (NP.th NP.body)))))) (by kernel_rfl) (by kernel_rfl) rfl rfl rfl rfl <| kE 31 rfl (by kernel_rfl) (NP.th (NP.bl (NP.th (NP.th (NP.bl (NP.th NP.body)))))) (by kernel_rfl) (by kernel_rfl) rfl rfl rfl rfl <| kE 32 rfl (by kernel_rfl) (NP.th (NP.bl (NP.th (NP.th (NP.bl (NP.th NP.body)))))) (by kernel_rfl) (by kernel_rfl) rfl rfl rfl rfl <| jd 33 (b := true) rfl (by kernel_rfl) (NP.th (NP.bl (NP.th (NP.th (NP.bl (NP.th NP.body)))))) (by kernel_rfl) (by kernel_rfl) rfl rfl rfl (cB rfl) <| jL 34 rfl (jh (v := .bool true) (cB rfl) rfl) <| kI (by kernel_rfl) <| jB <| jW (cB rfl) ?_
    refine jC <| jF <| jA (jG (v := .bool false) rfl) <| jE <| jB <| jN <| jv <| jX <| jX <| jv ?_
    refine jX <| jV (.inl rfl) rfl (jJ (v := .bool false) rfl) (List.nil_sublist _) ?_
    exact ⟨cB (storeOk_bad hlt (by simp only [storeG, Bool.and_true, Bool.true_and, Bool.and_false, Bool.false_and, Bool.or_true, Bool.true_or, Bool.or_false, Bool.false_or, Bool.not_true, Bool.not_false, ((dT h_4)), (h_6)])).symm, rfl⟩
  refine jR (cB (dF h_4)) <| jx <| jb <| jb <| jy <| jB <| jC <| jF <| jA (jD (v := .slice a s.length c) he_2) <| jA (jr kf rfl) ?_
  refine jA (PO.leq rfl rfl) <| jA (jG (v := .bool (decide (((s.length : Nat) : Int) ≤ 900))) rfl) <| jE <| jB <| jN <| jV (.inl rfl) rfl (jJ (v := .bool (decide (((s.length : Nat) : Int) ≤ 900))) rfl) (List.nil_sublist _) ?_
  exact ⟨cB (storeOk_end (by omega) hN).symm, rfl⟩

theorem Y_implJournalOk (t : Str) (js : Int) (hl : t.length ≤ 9223372036854775807) :
    Ct Tryz.prog 75 [.agg #[str t, .int .i64 js]] [] (fun _ => True) (fun v A' => v = .bool (jourOk t js) ∧ A' = []) := by
  refine Ct.intro Tryz.func75 rfl Tryz.ntmps75 (lb rfl) fun w0 hpre => ?_
  refine jC <| jF ?_
  refine jH rfl (kG (cs := [str t, iv js]) rfl rfl) ?_
  rintro _ _ ⟨b_1, rfl, rfl⟩
  refine jA (jG (v := .bool false) rfl) <| jE <| jB <| jC <| jF <| jA (jQ fo29_0 rfl) <| jK (jZ 0 (v := str t) rfl rfl ki rfl) <| jA (kF kg rfl) <| jA (PO.leq rfl rfl) <| jA (jD (v := .bool (decide ((t.length : Int) ≤ 20000))) rfl) ?_
  by_cases h_2 : (t.length : Int) ≤ 20000
  · refine jM rfl rfl rfl (cB (dT h_2)) (jP (jU (jQ fo29_1 rfl))) ?_
    rintro _ _ ⟨rfl, rfl⟩
    refine jM rfl rfl rfl (cB (dT h_2)) (jP (jZ 0 (v := iv js) rfl rfl kq rfl)) ?_
    rintro _ _ ⟨rfl, rfl⟩
    refine jM rfl rfl rfl (cB (dT h_2)) (jP (jU (jQ fo29_0 rfl))) ?_
    rintro _ _ ⟨rfl, rfl⟩
    refine jM rfl rfl rfl (cB (dT h_2)) (jP (jZ 0 (v := str t) rfl rfl ki rfl)) ?_
    rintro _ _ ⟨rfl, rfl⟩
    refine jM rfl rfl rfl (cB (dT h_2)) (jP (jU (kF kg rfl))) ?_
    rintro _ _ ⟨rfl, rfl⟩
    refine jM rfl rfl rfl (cB (dT h_2)) (jI [] Tryz.call76 rfl (Y_within js 0 (t.length : Int)) rfl (fun _ _ => trivial)) ?_
    rintro _ _ ⟨_, ⟨rfl, rfl⟩, rfl⟩
    refine jA (jh (v := .bool (within 0 js (t.length : Int))) (cB (dT h_2)) rfl) <| jA (jG (v := .bool (within 0 js (t.length : Int))) rfl) <| jE <| jB <| jN <| jV (.inl rfl) rfl (jJ (v := .bool (within 0 js (t.length : Int))) rfl) (List.nil_sublist _) ?_
    exact ⟨cB (by simp only [jourOk, Bool.and_true, Bool.true_and, Bool.and_false, Bool.false_and, Bool.or_true, Bool.true_or, Bool.or_false, Bool.false_or, Bool.not_true, Bool.not_false, ((dT h_2))]), rfl⟩
  refine jS (b := false) rfl rfl rfl (cB (dF h_2)) <| jS (b := false) rfl rfl rfl (cB (dF h_2)) <| jS (b := false) rfl rfl rfl (cB (dF h_2)) <| jS (b := false) rfl rfl rfl (cB (dF h_2)) <| jS (b := false) rfl rfl rfl (cB (dF h_2)) <| jS (b := false) rfl rfl rfl (cB (dF h_2)) <| jA (ji (v := .bool false) (cB (dF h_2)) rfl) <| jA (jG (v := .bool false) rfl) <| jE <| jB ?_
  refine jN <| jV (.inl rfl) rfl (jJ (v := .bool false) rfl) (List.nil_sublist _) ?_
  exact ⟨cB (by simp only [jourOk, Bool.and_true, Bool.true_and, Bool.and_false, Bool.false_and, Bool.or_true, Bool.true_or, Bool.or_false, Bool.false_or, Bool.not_true, Bool.not_false, ((dF h_2))]), rfl⟩

set_option maxRecDepth 4000 in
set_option maxHeartbeats 1000000 in
theorem Y_implDiskOk (d : DX) (hz : d.dat.okz) (hl : d.l.length ≤ 1000000000) :
    Ct Tryz.prog 47 [.agg #[.slice d.a d.l.length d.c, str d.jt, .int .i64 d.js]] [] (fun w => SeesA w (rdsD d)) (fun v A' => v = .bool (diskOk d.dat) ∧ A' = []) := by
  refine Ct.intro Tryz.func47 rfl Tryz.ntmps47 (lb rfl) fun w0 hpre => ?_
  have hjl := hz.k2
  have hs_1 : Sees w0 (.slice d.a d.l.length d.c) 3 d.l.length (d.l.flatMap encO) := (hpre).head
  have hi_2 : SeesA w0 (d.l.flatMap rdsO) := (hpre).tail
  refine jC <| jF ?_
  refine jH rfl (kG (cs := [.slice d.a d.l.length d.c, str d.jt, iv d.js]) rfl rfl) ?_
  rintro _ _ ⟨b_3, rfl, rfl⟩
  refine jA (jG (v := .bool false) rfl) <| jE <| jB <| jC <| jC <| jF <| jA (jQ fo31_0 rfl) <| jK (jZ 0 (v := .slice d.a d.l.length d.c) rfl rfl ks rfl) <| jA (jr km rfl) <| jA (kS rfl rfl) ?_
  refine jA (jD (v := .bool (!(decide (((d.l.length : Nat) : Int) = 2)))) rfl) ?_
  by_cases h_4 : ((d.l.length : Nat) : Int) = 2
  · refine jM rfl rfl rfl (cB (cN (dT h_4))) (jP (jU (jQ fo31_0 rfl))) ?_
    rintro _ _ ⟨rfl, rfl⟩
    refine jM rfl rfl rfl (cB (cN (dT h_4))) (jP (jZ 0 (v := .slice d.a d.l.length d.c) rfl rfl ks rfl)) ?_
    rintro _ _ ⟨rfl, rfl⟩
    obtain ⟨hr_5, hr_5b, -⟩ := sees_some hs_1 (by omega)
    refine jM rfl rfl rfl (cB (cN (dT h_4))) (jP (jU (jk (i := 0) km kj hr_5 hr_5b rfl rfl (by omega)))) ?_
    rintro _ _ ⟨rfl, rfl⟩
    refine jM rfl rfl rfl (cB (cN (dT h_4))) (jP (jU (kL fo60_2 hr_5 rfl))) ?_
    rintro _ _ ⟨rfl, rfl⟩
    have hi_6 := SeesA.elem hi_2 o0 (show 0 < d.l.length by omega)
    have hs_7 := seesO hi_6
    refine jM rfl rfl rfl (cB (cN (dT h_4))) (jP (kY (v := .bool ((d.l.getD 0 o0).t.whole)) hs_1 nM rfl gI (flat_at encO_len o0 d.l 0 2 (by omega) (by decide)))) ?_
    rintro _ _ ⟨rfl, rfl⟩
    refine jM rfl rfl rfl (cB (cN (dT h_4))) (jP (jU (jp rfl))) ?_
    rintro _ _ ⟨rfl, rfl⟩
    refine jM rfl rfl rfl (cB (cN (dT h_4))) (jP (jU (jD (v := .bool (!((d.l.getD 0 o0).t.whole))) rfl))) ?_
    rintro _ _ ⟨rfl, rfl⟩
    rcases Bool.eq_false_or_eq_true ((d.l.getD 0 o0).t.whole) with h_8 | h_8
    · refine jS (b := false) rfl rfl rfl (cB (cN h_8)) <| jS (b := false) rfl rfl rfl (cB (cN h_8)) <| jS (b := false) rfl rfl rfl (cB (cN h_8)) <| jS (b := false) rfl rfl rfl (cB (cN h_8)) <| jS (b := false) rfl rfl rfl (cB (cN h_8)) <| jS (b := false) rfl rfl rfl (cB (cN h_8)) <| jM rfl rfl rfl (cB (cN (dT h_4))) (jP (jU (ji (v := .bool false) (cB (cN h_8)) rfl))) ?_
      rintro _ _ ⟨rfl, rfl⟩
      refine jA (ji (v := .bool false) (cB (cN (dT h_4))) rfl) <| jE <| jB <| jR (cB rfl) <| jT <| jB <| jC <| jC <| jF <| jA (jQ fo31_0 rfl) ?_
      refine jK (jZ 0 (v := .slice d.a d.l.length d.c) rfl rfl ks rfl) <| jA (jr km rfl) <| jA (jD (v := iv 0) rfl) <| jE <| jB <| jf <| kD (fun k_ e_ L_ => ∃ j : Nat, (j ≤ d.l.length) ∧ (∀ i, i < j → slotG (d.l.getD i o0).t = true) ∧ e_ 1 = .pointer (some ⟨b_3, 0, none⟩) ∧ e_ 26 = .slice d.a d.l.length d.c ∧ e_ 27 = nv d.l.length ∧ e_ 28 = nv j ∧ L_ = [bk b_3 31 [.slice d.a d.l.length d.c, str d.jt, iv d.js]] ∧ k_ = d.l.length - j) _ ⟨0, by omega, (fun i hi => absurd hi (Nat.not_lt_zero i)), rfl, rfl, rfl, rfl, rfl, rfl⟩ ?_
      rintro _ e_9 _ ⟨j, hj, hN, he_10, he_11, he_12, he_13, rfl, rfl⟩
      refine jC <| jF <| jA (jl he_13 he_12) <| jE <| jB <| jC ?_
      by_cases h_14 : ((j : Nat) : Int) < ((d.l.length : Nat) : Int)
      · have hlt : j < d.l.length := by omega
        refine jW (cB (dT h_14)) <| jT <| jB <| jC <| jf <| jC <| jF <| jA (jk (i := j) km kj hr_5 hr_5b he_11 he_13 (by omega)) ?_
        have hi_15 := SeesA.elem hi_2 o0 (show j < d.l.length by omega)
        have hs_16 := seesO hi_15
        refine jK (kX (vs := [iv ((d.l.getD j o0).t.seq), .slice ((d.l.getD j o0).x.a0) ((d.l.getD j o0).t.cells.length) ((d.l.getD j o0).x.c0), .bool ((d.l.getD j o0).t.whole)]) hs_1 nM rfl gB kj (flat_take encO_len o0 d.l j (by omega)) rfl (by decide)) ?_
        refine jH rfl (jo (z := .agg #[iv 0, .slice none 0 0, .bool false]) (cs := [iv 0, .slice none 0 0, .bool false]) gD rfl) ?_
        rintro _ _ ⟨b_17, rfl, rfl⟩
        refine jH rfl (ja 0 (vs := [iv ((d.l.getD j o0).t.seq), .slice ((d.l.getD j o0).x.a0) ((d.l.getD j o0).t.cells.length) ((d.l.getD j o0).x.c0), .bool ((d.l.getD j o0).t.whole)]) (cs' := [iv ((d.l.getD j o0).t.seq), .slice ((d.l.getD j o0).x.a0) ((d.l.getD j o0).t.cells.length) ((d.l.getD j o0).x.c0), .bool ((d.l.getD j o0).t.whole)]) rfl rfl rfl rfl kj rfl rfl (lb rfl) rfl) ?_
        rintro _ _ rfl
        refine jE <| jB <| jC <| jF <| jA (jQ fo60_2 rfl) <| jK (jZ 0 (v := .bool ((d.l.getD j o0).t.whole)) rfl rfl gI rfl) <| jA (jD (v := .bool ((d.l.getD j o0).t.whole)) rfl) ?_
        rcases Bool.eq_false_or_eq_true ((d.l.getD j o0).t.whole) with h_18 | h_18
        · refine jM rfl rfl rfl (cB h_18) (jP (jU (jQ fo60_0 rfl))) ?_
          rintro _ _ ⟨rfl, rfl⟩
          refine jM rfl rfl rfl (cB h_18) (jP (jZ 0 (v := iv ((d.l.getD j o0).t.seq)) rfl rfl kq rfl)) ?_
          rintro _ _ ⟨rfl, rfl⟩
          refine jM rfl rfl rfl (cB h_18) (jI [] Tryz.call76 rfl (Y_within ((d.l.getD j o0).t.seq) 0 99999) rfl (fun _ _ => trivial)) ?_
          rintro _ _ ⟨_, ⟨rfl, rfl⟩, rfl⟩
          refine jM rfl rfl rfl (cB h_18) (jP (jU (jp rfl))) ?_
          rintro _ _ ⟨rfl, rfl⟩
          refine jM rfl rfl rfl (cB h_18) (jP (jU (jD (v := .bool (!(within 0 ((d.l.getD j o0).t.seq) 99999))) rfl))) ?_
          rintro _ _ ⟨rfl, rfl⟩
          rcases Bool.eq_false_or_eq_true (within 0 ((d.l.getD j o0).t.seq) 99999) with h_19 | h_19
          · refine jM rfl rfl rfl (cB (cN h_19)) (jP (jU (jQ fo60_1 rfl))) ?_
            rintro _ _ ⟨rfl, rfl⟩
            refine jM rfl rfl rfl (cB (cN h_19)) (jP (jZ 0 (v := .slice ((d.l.getD j o0).x.a0) ((d.l.getD j o0).t.cells.length) ((d.l.getD j o0).x.c0)) rfl rfl kz rfl)) ?_
            rintro _ _ ⟨rfl, rfl⟩
            refine jM rfl rfl rfl (cB (cN h_19)) (jI [] Tryz.call85 rfl (Y_implStoreOk (d.l.getD j o0).x.a0 ((d.l.getD j o0).x.c0) ((d.l.getD j o0).t.cells) (DX.okz_get hz j (by omega)).k0) rfl (fun w hw => hw.seeOut_ hs_16 nM)) ?_
            rintro _ _ ⟨_, ⟨rfl, rfl⟩, rfl⟩
            refine jM rfl rfl rfl (cB (cN h_19)) (jP (jU (jp rfl))) ?_
            rintro _ _ ⟨rfl, rfl⟩
            refine jM rfl rfl rfl (cB h_18) (jP (jU (ji (v := .bool (!(storeOk ((d.l.getD j o0).t.cells)))) (cB (cN h_19)) rfl))) ?_
            rintro _ _ ⟨rfl, rfl⟩
            refine jA (jh (v := .bool (!(storeOk ((d.l.getD j o0).t.cells)))) (cB h_18) rfl) <| jE <| jB ?_
            rcases Bool.eq_false_or_eq_true (storeOk ((d.l.getD j o0).t.cells)) with h_20 | h_20
            · refine jR (cB (cN h_20)) <| jT <| jm <| jB <| jF <| jA (jc (c := ((j + 1 : Nat) : Int)) he_13 rfl (wr (by omega))) <| jA (jD (v := iv ((j + 1 : Nat) : Int)) rfl) <| jE <| kB [1] (A := [bk b_3 31 [.slice d.a d.l.length d.c, str d.jt, iv d.js]]) rfl ?_
              refine jq (d.l.length - (j + 1)) (by omega) ⟨j + 1, by omega, (fun i hi => if h : i = j then h ▸ (by simp only [slotG, Bool.and_true, Bool.true_and, Bool.and_false, Bool.false_and, Bool.or_true, Bool.true_or, Bool.or_false, Bool.false_or, Bool.not_true, Bool.not_false, ((dT h_4)), (h_8), ((dT h_14)), (h_18), (h_19), (h_20)]) else hN i (by omega)), he_10, he_11, he_12, rfl, rfl, rfl⟩
            refine jW (cB (cN h_20)) <| jC <| jF <| jA (jG (v := .bool false) rfl) <| jE <| jB <| jN <| jv <| jX <| jX ?_
            refine jv <| jX <| jV (.inl rfl) rfl (jJ (v := .bool false) rfl) (List.nil_sublist _) ?_
            refine ⟨cB ?_, rfl⟩
            rw [diskOk_dat]
            exact (diskOkF_slot (f := (fun i => (d.l.getD i o0).t)) hlt (by simp only [slotG, Bool.and_true, Bool.true_and, Bool.and_false, Bool.false_and, Bool.or_true, Bool.true_or, Bool.or_false, Bool.false_or, Bool.not_true, Bool.not_false, ((dT h_4)), (h_8), ((dT h_14)), (h_18), (h_19), (h_20)])).symm
          refine jS (b := true) rfl rfl rfl (cB (cN h_19)) <| jS (b := true) rfl rfl rfl (cB (cN h_19)) <| jS (b := true) rfl rfl rfl (cB (cN h_19)) <| jS (b := true) rfl rfl rfl (cB (cN h_19)) <| jM rfl rfl rfl (cB h_18) (jP (jU (jh (v := .bool true) (cB (cN h_19)) rfl))) ?_
          rintro _ _ ⟨rfl, rfl⟩
          refine jA (jh (v := .bool true) (cB h_18) rfl) <| jE <| jB <| jW (cB rfl) <| jC <| jF <| jA (jG (v := .bool false) rfl) <| jE <| jB <| jN ?_
          refine jv <| jX <| jX <| jv <| jX <| jV (.inl rfl) rfl (jJ (v := .bool false) rfl) (List.nil_sublist _) ?_
          refine ⟨cB ?_, rfl⟩
          rw [diskOk_dat]
          exact (diskOkF_slot (f := (fun i => (d.l.getD i o0).t)) hlt (by simp only [slotG, Bool.and_true, Bool.true_and, Bool.and_false, Bool.false_and, Bool.or_true, Bool.true_or, Bool.or_false, Bool.false_or, Bool.not_true, Bool.not_false, ((dT h_4)), (h_8), ((dT h_14)), (h_18), (h_19)])).symm
        refine jS (b := false) rfl rfl rfl (cB h_18) <| jS (b := false) rfl rfl rfl (cB h_18) <| jS (b := false) rfl rfl rfl (cB h_18) <| jS (b := false) rfl rfl rfl (cB h_18) <| jS (b := false) rfl rfl rfl (cB h_18) <| kP rfl rfl rfl rfl <| kP rfl rfl rfl rfl <| kP rfl rfl rfl rfl <| kP rfl rfl rfl rfl <| jS (b := false) rfl rfl rfl (cB h_18) ?_
        refine jA (ji (v := .bool false) (cB h_18) rfl) <| jE <| jB <| jR (cB rfl) <| jT <| jm <| jB <| jF <| jA (jc (c := ((j + 1 : Nat) : Int)) he_13 rfl (wr (by omega))) <| jA (jD (v := iv ((j + 1 : Nat) : Int)) rfl) ?_
        refine jE <| kB [1] (A := [bk b_3 31 [.slice d.a d.l.length d.c, str d.jt, iv d.js]]) rfl ?_
        refine jq (d.l.length - (j + 1)) (by omega) ⟨j + 1, by omega, (fun i hi => if h : i = j then h ▸ (by simp only [slotG, Bool.and_true, Bool.true_and, Bool.and_false, Bool.false_and, Bool.or_true, Bool.true_or, Bool.or_false, Bool.false_or, Bool.not_true, Bool.not_false, ((dT h_4)), (h_8), ((dT h_14)), (h_18)]) else hN i (by omega)), he_10, he_11, he_12, rfl, rfl, rfl⟩
      refine jR (cB (dF h_14)) <| jx <| jb <| jb <| jy <| jB <| jC <| jF <| jA (jQ fo31_1 he_10) <| jK (jO 0 (vs := [str d.jt, iv d.js]) rfl rfl kp kl rfl rfl) ?_
      refine jH rfl (jI [] Tryz.call75 rfl (Y_implJournalOk d.jt d.js hjl) rfl (fun _ _ => trivial)) ?_
      rintro _ _ ⟨_, ⟨rfl, rfl⟩, rfl⟩
      refine jA (jG (v := .bool (jourOk d.jt d.js)) rfl) <| jE <| jB <| jN <| jV (.inl rfl) rfl (jJ (v := .bool (jourOk d.jt d.js)) rfl) (List.nil_sublist _) ?_
      refine ⟨cB ?_, rfl⟩
      rw [diskOk_dat]
      first | (refine (diskOkF_end (f := (fun i => (d.l.getD i o0).t)) (i := 0) (by omega) (by omega) ?_ (by omega) hN).symm; assumption) | (refine (diskOkF_end (f := (fun i => (d.l.getD i o0).t)) (i := 1) (by omega) (by omega) ?_ (by omega) hN).symm; assumption)
    refine jM rfl rfl rfl (cB (cN h_8)) (jP (jU (jQ fo31_0 rfl))) ?_
    rintro _ _ ⟨rfl, rfl⟩
    refine jM rfl rfl rfl (cB (cN h_8)) (jP (jZ 0 (v := .slice d.a d.l.length d.c) rfl rfl ks rfl)) ?_
    rintro _ _ ⟨rfl, rfl⟩
    refine jM rfl rfl rfl (cB (cN h_8)) (jP (jU (jk (i := 1) km kj hr_5 hr_5b rfl rfl (by omega)))) ?_
    rintro _ _ ⟨rfl, rfl⟩
    refine jM rfl rfl rfl (cB (cN h_8)) (jP (jU (kL fo60_2 hr_5 rfl))) ?_
    rintro _ _ ⟨rfl, rfl⟩
    have hi_21 := SeesA.elem hi_2 o0 (show 1 < d.l.length by omega)
    have hs_22 := seesO hi_21
    refine jM rfl rfl rfl (cB (cN h_8)) (jP (kY (v := .bool ((d.l.getD 1 o0).t.whole)) hs_1 nM rfl gI (flat_at encO_len o0 d.l 1 2 (by omega) (by decide)))) ?_
    rintro _ _ ⟨rfl, rfl⟩
    refine jM rfl rfl rfl (cB (cN h_8)) (jP (jU (jp rfl))) ?_
    rintro _ _ ⟨rfl, rfl⟩
    refine jM rfl rfl rfl (cB (cN (dT h_4))) (jP (jU (jh (v := .bool (!((d.l.getD 1 o0).t.whole))) (cB (cN h_8)) rfl))) ?_
    rintro _ _ ⟨rfl, rfl⟩
    refine jA (ji (v := .bool (!((d.l.getD 1 o0).t.whole))) (cB (cN (dT h_4))) rfl) <| jE <| jB ?_
    rcases Bool.eq_false_or_eq_true ((d.l.getD 1 o0).t.whole) with h_23 | h_23
    · refine jR (cB (cN h_23)) <| jT <| jB <| jC <| jC <| jF <| jA (jQ fo31_0 rfl) <| jK (jZ 0 (v := .slice d.a d.l.length d.c) rfl rfl ks rfl) <| jA (jr km rfl) <| jA (jD (v := iv 0) rfl) ?_
      refine jE <| jB <| jf <| kD (fun k_ e_ L_ => ∃ j : Nat, (j ≤ d.l.length) ∧ (∀ i, i < j → slotG (d.l.getD i o0).t = true) ∧ e_ 1 = .pointer (some ⟨b_3, 0, none⟩) ∧ e_ 26 = .slice d.a d.l.length d.c ∧ e_ 27 = nv d.l.length ∧ e_ 28 = nv j ∧ L_ = [bk b_3 31 [.slice d.a d.l.length d.c, str d.jt, iv d.js]] ∧ k_ = d.l.length - j) _ ⟨0, by omega, (fun i hi => absurd hi (Nat.not_lt_zero i)), rfl, rfl, rfl, rfl, rfl, rfl⟩ ?_
      rintro _ e_24 _ ⟨j, hj, hN, he_25, he_26, he_27, he_28, rfl, rfl⟩
      refine jC <| jF <| jA (jl he_28 he_27) <| jE <| jB <| jC ?_
      by_cases h_29 : ((j : Nat) : Int) < ((d.l.length : Nat) : Int)
      · have hlt : j < d.l.length := by omega
        refine jW (cB (dT h_29)) <| jT <| jB <| jC <| jf <| jC <| jF <| jA (jk (i := j) km kj hr_5 hr_5b he_26 he_28 (by omega)) ?_
        have hi_30 := SeesA.elem hi_2 o0 (show j < d.l.length by omega)
        have hs_31 := seesO hi_30
        refine jK (kX (vs := [iv ((d.l.getD j o0).t.seq), .slice ((d.l.getD j o0).x.a0) ((d.l.getD j o0).t.cells.length) ((d.l.getD j o0).x.c0), .bool ((d.l.getD j o0).t.whole)]) hs_1 nM rfl gB kj (flat_take encO_len o0 d.l j (by omega)) rfl (by decide)) ?_
        refine jH rfl (jo (z := .agg #[iv 0, .slice none 0 0, .bool false]) (cs := [iv 0, .slice none 0 0, .bool false]) gD rfl) ?_
        rintro _ _ ⟨b_32, rfl, rfl⟩
        refine jH rfl (ja 0 (vs := [iv ((d.l.getD j o0).t.seq), .slice ((d.l.getD j o0).x.a0) ((d.l.getD j o0).t.cells.length) ((d.l.getD j o0).x.c0), .bool ((d.l.getD j o0).t.whole)]) (cs' := [iv ((d.l.getD j o0).t.seq), .slice ((d.l.getD j o0).x.a0) ((d.l.getD j o0).t.cells.length) ((d.l.getD j o0).x.c0), .bool ((d.l.getD j o0).t.whole)]) rfl rfl rfl rfl kj rfl rfl (lb rfl) rfl) ?_
        rintro _ _ rfl
        refine jE <| jB <| jC <| jF <| jA (jQ fo60_2 rfl) <| jK (jZ 0 (v := .bool ((d.l.getD j o0).t.whole)) rfl rfl gI rfl) <| jA (jD (v := .bool ((d.l.getD j o0).t.whole)) rfl) ?_
        rcases Bool.eq_false_or_eq_true ((d.l.getD j o0).t.whole) with h_33 | h_33
        · refine jM rfl rfl rfl (cB h_33) (jP (jU (jQ fo60_0 rfl))) ?_
          rintro _ _ ⟨rfl, rfl⟩
          refine jM rfl rfl rfl (cB h_33) (jP (jZ 0 (v := iv ((d.l.getD j o0).t.seq)) rfl rfl kq rfl)) ?_
          rintro _ _ ⟨rfl, rfl⟩
          refine jM rfl rfl rfl (cB h_33) (jI [] Tryz.call76 rfl (Y_within ((d.l.getD j o0).t.seq) 0 99999) rfl (fun _ _ => trivial)) ?_
          rintro _ _ ⟨_, ⟨rfl, rfl⟩, rfl⟩
          refine jM rfl rfl rfl (cB h_33) (jP (jU (jp rfl))) ?_
          rintro _ _ ⟨rfl, rfl⟩
          refine jM rfl rfl rfl (cB h_33) (jP (jU (jD (v := .bool (!(within 0 ((d.l.getD j o0).t.seq) 99999))) rfl))) ?_
          rintro _ _ ⟨rfl, rfl⟩
          rcases Bool.eq_false_or_eq_true (within 0 ((d.l.getD j o0).t.seq) 99999) with h_34 | h_34
          · refine jM rfl rfl rfl (cB (cN h_34)) (jP (jU (jQ fo60_1 rfl))) ?_
            rintro _ _ ⟨rfl, rfl⟩
            refine jM rfl rfl rfl (cB (cN h_34)) (jP (jZ 0 (v := .slice ((d.l.getD j o0).x.a0) ((d.l.getD j o0).t.cells.length) ((d.l.getD j o0).x.c0)) rfl rfl kz rfl)) ?_
            rintro _ _ ⟨rfl, rfl⟩
            refine jM rfl rfl rfl (cB (cN h_34)) (jI [] Tryz.call85 rfl (Y_implStoreOk (d.l.getD j o0).x.a0 ((d.l.getD j o0).x.c0) ((d.l.getD j o0).t.cells) (DX.okz_get hz j (by omega)).k0) rfl (fun w hw => hw.seeOut_ hs_31 nM)) ?_
            rintro _ _ ⟨_, ⟨rfl, rfl⟩, rfl⟩
            refine jM rfl rfl rfl (cB (cN h_34)) (jP (jU (jp rfl))) ?_
            rintro _ _ ⟨rfl, rfl⟩
            refine jM rfl rfl rfl (cB h_33) (jP (jU (ji (v := .bool (!(storeOk ((d.l.getD j o0).t.cells)))) (cB (cN h_34)) rfl))) ?_
            rintro _ _ ⟨rfl, rfl⟩
            refine jA (jh (v := .bool (!(storeOk ((d.l.getD j o0).t.cells)))) (cB h_33) rfl) <| jE <| jB ?_
            rcases Bool.eq_false_or_eq_true (storeOk ((d.l.getD j o0).t.cells)) with h_35 | h_35
            · refine jR (cB (cN h_35)) <| jT <| jm <| jB <| jF <| jA (jc (c := ((j + 1 : Nat) : Int)) he_28 rfl (wr (by omega))) <| jA (jD (v := iv ((j + 1 : Nat) : Int)) rfl) <| jE <| kB [1] (A := [bk b_3 31 [.slice d.a d.l.length d.c, str d.jt, iv d.js]]) rfl ?_
              refine jq (d.l.length - (j + 1)) (by omega) ⟨j + 1, by omega, (fun i hi => if h : i = j then h ▸ (by simp only [slotG, Bool.and_true, Bool.true_and, Bool.and_false, Bool.false_and, Bool.or_true, Bool.true_or, Bool.or_false, Bool.false_or, Bool.not_true, Bool.not_false, ((dT h_4)), (h_8), (h_23), ((dT h_29)), (h_33), (h_34), (h_35)]) else hN i (by omega)), he_25, he_26, he_27, rfl, rfl, rfl⟩
            refine jW (cB (cN h_35)) <| jC <| jF <| jA (jG (v := .bool false) rfl) <| jE <| jB <| jN <| jv <| jX <| jX ?_
            refine jv <| jX <| jV (.inl rfl) rfl (jJ (v := .bool false) rfl) (List.nil_sublist _) ?_
            refine ⟨cB ?_, rfl⟩
            rw [diskOk_dat]
            exact (diskOkF_slot (f := (fun i => (d.l.getD i o0).t)) hlt (by simp only [slotG, Bool.and_true, Bool.true_and, Bool.and_false, Bool.false_and, Bool.or_true, Bool.true_or, Bool.or_false, Bool.false_or, Bool.not_true, Bool.not_false, ((dT h_4)), (h_8), (h_23), ((dT h_29)), (h_33), (h_34), (h_35)])).symm
          refine jS (b := true) rfl rfl rfl (cB (cN h_34)) <| jS (b := true) rfl rfl rfl (cB (cN h_34)) <| jS (b := true) rfl rfl rfl (cB (cN h_34)) <| jS (b := true) rfl rfl rfl (cB (cN h_34)) <| jM rfl rfl rfl (cB h_33) (jP (jU (jh (v := .bool true) (cB (cN h_34)) rfl))) ?_
          rintro _ _ ⟨rfl, rfl⟩
          refine jA (jh (v := .bool true) (cB h_33) rfl) <| jE <| jB <| jW (cB rfl) <| jC <| jF <| jA (jG (v := .bool false) rfl) <| jE <| jB <| jN ?_
          refine jv <| jX <| jX <| jv <| jX <| jV (.inl rfl) rfl (jJ (v := .bool false) rfl) (List.nil_sublist _) ?_
          refine ⟨cB ?_, rfl⟩
          rw [diskOk_dat]
          exact (diskOkF_slot (f := (fun i => (d.l.getD i o0).t)) hlt (by simp only [slotG, Bool.and_true, Bool.true_and, Bool.and_false, Bool.false_and, Bool.or_true, Bool.true_or, Bool.or_false, Bool.false_or, Bool.not_true, Bool.not_false, ((dT h_4)), (h_8), (h_23), ((dT h_29)), (h_33), (h_34)])).symm
        refine jS (b := false) rfl rfl rfl (cB h_33) <| jS (b := false) rfl rfl rfl (cB h_33) <| jS (b := false) rfl rfl rfl (cB h_33) <| jS (b := false) rfl rfl rfl (cB h_33) <| jS (b := false) rfl rfl rfl (cB h_33) <| kP rfl rfl rfl rfl <| kP rfl rfl rfl rfl <| kP rfl rfl rfl rfl <| kP rfl rfl rfl rfl <| jS (b := false) rfl rfl rfl (cB h_33) ?_
        refine jA (ji (v := .bool false) (cB h_33) rfl) <| jE <| jB <| jR (cB rfl) <| jT <| jm <| jB <| jF <| jA (jc (c := ((j + 1 : Nat) : Int)) he_28 rfl (wr (by omega))) <| jA (jD (v := iv ((j + 1 : Nat) : Int)) rfl) ?_
        refine jE <| kB [1] (A := [bk b_3 31 [.slice d.a d.l.length d.c, str d.jt, iv d.js]]) rfl ?_
        refine jq (d.l.length - (j + 1)) (by omega) ⟨j + 1, by omega, (fun i hi => if h : i = j then h ▸ (by simp only [slotG, Bool.and_true, Bool.true_and, Bool.and_false, Bool.false_and, Bool.or_true, Bool.true_or, Bool.or_false, Bool.false_or, Bool.not_true, Bool.not_false, ((dT h_4)), (h_8), (h_23), ((dT h_29)), (h_33)]) else hN i (by omega)), he_25, he_26, he_27, rfl, rfl, rfl⟩
      refine jR (cB (dF h_29)) <| jx <| jb <| jb <| jy <| jB <| jC <| jF <| jA (jQ fo31_1 he_25) <| jK (jO 0 (vs := [str d.jt, iv d.js]) rfl rfl kp kl rfl rfl) ?_
      refine jH rfl (jI [] Tryz.call75 rfl (Y_implJournalOk d.jt d.js hjl) rfl (fun _ _ => trivial)) ?_
      rintro _ _ ⟨_, ⟨rfl, rfl⟩, rfl⟩
      refine jA (jG (v := .bool (jourOk d.jt d.js)) rfl) <| jE <| jB <| jN <| jV (.inl rfl) rfl (jJ (v := .bool (jourOk d.jt d.js)) rfl) (List.nil_sublist _) ?_
      refine ⟨cB ?_, rfl⟩
      rw [diskOk_dat]
      first | (refine (diskOkF_end (f := (fun i => (d.l.getD i o0).t)) (i := 0) (by omega) (by omega) ?_ (by omega) hN).symm; assumption) | (refine (diskOkF_end (f := (fun i => (d.l.getD i o0).t)) (i := 1) (by omega) (by omega) ?_ (by omega) hN).symm; assumption)
    refine jW (cB (cN h_23)) <| jC <| jF <| jA (jG (v := .bool false) rfl) <| jE <| jB <| jN <| jX <| jV (.inl rfl) rfl (jJ (v := .bool false) rfl) (List.nil_sublist _) ?_
    refine ⟨cB ?_, rfl⟩
    rw [diskOk_dat]
    first | exact (diskOkF_len (by omega)).symm | (refine (diskOkF_none (f := (fun i => (d.l.getD i o0).t)) (by omega) ?_ ?_).symm <;> assumption)
  refine jS (b := true) rfl rfl rfl (cB (cN (dF h_4))) <| jS (b := true) rfl rfl rfl (cB (cN (dF h_4))) <| jS (b := true) rfl rfl rfl (cB (cN (dF h_4))) <| jS (b := true) rfl rfl rfl (cB (cN (dF h_4))) <| jS (b := true) rfl rfl rfl (cB (cN (dF h_4))) <| jS (b := true) rfl rfl rfl (cB (cN (dF h_4))) <| jS (b := true) rfl rfl rfl (cB (cN (dF h_4))) <| kP rfl rfl rfl rfl <| kP rfl rfl rfl rfl <| kP rfl rfl rfl rfl ?_
  refine kP rfl rfl rfl rfl <| kP rfl rfl rfl rfl <| kP rfl rfl rfl rfl <| jS (b := true) rfl rfl rfl (cB (cN (dF h_4))) <| jA (jh (v := .bool true) (cB (cN (dF h_4))) rfl) <| jE <| jB <| jW (cB rfl) <| jC <| jF ?_
  refine jA (jG (v := .bool false) rfl) <| jE <| jB <| jN <| jX <| jV (.inl rfl) rfl (jJ (v := .bool false) rfl) (List.nil_sublist _) ?_
  refine ⟨cB ?_, rfl⟩
  rw [diskOk_dat]
  first | exact (diskOkF_len (by omega)).symm | (refine (diskOkF_none (f := (fun i => (d.l.getD i o0).t)) (by omega) ?_ ?_).symm <;> assumption)

theorem Y_specJournalOk (t : Str) (js : Int) (hl : t.length ≤ 9223372036854775807) :
    Ct Tryz.prog 95 [.agg #[str t, .int .i64 js]] [] (fun _ => True) (fun v A' => v = .bool (jourOk t js) ∧ A' = []) := by
  refine Ct.intro Tryz.func95 rfl Tryz.ntmps95 (lb rfl) fun w0 hpre => ?_
  refine jC <| jF ?_
  refine jH rfl (kG (cs := [str t, iv js]) rfl rfl) ?_
  rintro _ _ ⟨b_1, rfl, rfl⟩
  refine jA (jG (v := .bool false) rfl) <| jE <| jB <| jC <| jF <| jA (jQ fo29_0 rfl) <| jK (jZ 0 (v := str t) rfl rfl ki rfl) <| jA (kF kg rfl) <| jA (PO.leq rfl rfl) <| jA (jD (v := .bool (decide ((t.length : Int) ≤ 20000))) rfl) ?_
  by_cases h_2 : (t.length : Int) ≤ 20000
  · refine jM rfl rfl rfl (cB (dT h_2)) (jP (jU (jQ fo29_1 rfl))) ?_
    rintro _ _ ⟨rfl, rfl⟩
    refine jM rfl rfl rfl (cB (dT h_2)) (jP (jZ 0 (v := iv js) rfl rfl kq rfl)) ?_
    rintro _ _ ⟨rfl, rfl⟩
    refine jM rfl rfl rfl (cB (dT h_2)) (jP (jU (jQ fo29_0 rfl))) ?_
    rintro _ _ ⟨rfl, rfl⟩
    refine jM rfl rfl rfl (cB (dT h_2)) (jP (jZ 0 (v := str t) rfl rfl ki rfl)) ?_
    rintro _ _ ⟨rfl, rfl⟩
    refine jM rfl rfl rfl (cB (dT h_2)) (jP (jU (kF kg rfl))) ?_
    rintro _ _ ⟨rfl, rfl⟩
    refine jM rfl rfl rfl (cB (dT h_2)) (jI [] Tryz.call89 rfl (Y_l01In js 0 (t.length : Int)) rfl (fun _ _ => trivial)) ?_
    rintro _ _ ⟨_, ⟨rfl, rfl⟩, rfl⟩
    refine jA (jh (v := .bool (within 0 js (t.length : Int))) (cB (dT h_2)) rfl) <| jA (jG (v := .bool (within 0 js (t.length : Int))) rfl) <| jE <| jB <| jN <| jV (.inl rfl) rfl (jJ (v := .bool (within 0 js (t.length : Int))) rfl) (List.nil_sublist _) ?_
    exact ⟨cB (by simp only [jourOk, Bool.and_true, Bool.true_and, Bool.and_false, Bool.false_and, Bool.or_true, Bool.true_or, Bool.or_false, Bool.false_or, Bool.not_true, Bool.not_false, ((dT h_2))]), rfl⟩
  refine jS (b := false) rfl rfl rfl (cB (dF h_2)) <| jS (b := false) rfl rfl rfl (cB (dF h_2)) <| jS (b := false) rfl rfl rfl (cB (dF h_2)) <| jS (b := false) rfl rfl rfl (cB (dF h_2)) <| jS (b := false) rfl rfl rfl (cB (dF h_2)) <| jS (b := false) rfl rfl rfl (cB (dF h_2)) <| jA (ji (v := .bool false) (cB (dF h_2)) rfl) <| jA (jG (v := .bool false) rfl) <| jE <| jB ?_
  refine jN <| jV (.inl rfl) rfl (jJ (v := .bool false) rfl) (List.nil_sublist _) ?_
  exact ⟨cB (by simp only [jourOk, Bool.and_true, Bool.true_and, Bool.and_false, Bool.false_and, Bool.or_true, Bool.true_or, Bool.or_false, Bool.false_or, Bool.not_true, Bool.not_false, ((dF h_2))]), rfl⟩

set_option maxRecDepth 4000 in
set_option maxHeartbeats 1000000 in
theorem Y_sBest (d : DX) (hz : d.dat.okz) (hl : d.l.length ≤ 1000000000) :
    Ct Tryz.prog 49 [.agg #[.slice d.a d.l.length d.c, str d.jt, .int .i64 d.js]] [] (fun w => SeesA w (rdsD d)) (fun v A' => v = .int .i64 (bestD d.dat) ∧ A' = []) := by
  refine Ct.intro Tryz.func49 rfl Tryz.ntmps49 (lb rfl) fun w0 hpre => ?_
  have hs_1 : Sees w0 (.slice d.a d.l.length d.c) 3 d.l.length (d.l.flatMap encO) := (hpre).head
  have hi_2 : SeesA w0 (d.l.flatMap rdsO) := (hpre).tail
  refine jC <| jF ?_
  refine jH rfl (kG (cs := [.slice d.a d.l.length d.c, str d.jt, iv d.js]) rfl rfl) ?_
  rintro _ _ ⟨b_3, rfl, rfl⟩
  refine jA (jG (v := iv 0) rfl) <| jE <| jB <| jC <| jF <| jA (jG (v := iv (-1)) rfl) <| jE <| jB <| jC <| jC ?_
  refine jF <| jA (jG (v := iv 0) rfl) <| jE <| jB <| jf <| kD (fun k_ e_ L_ => ∃ j : Nat, (j ≤ d.l.length) ∧ e_ 1 = .pointer (some ⟨b_3, 0, none⟩) ∧ e_ 2 = iv 0 ∧ e_ 3 = iv (bestF (fun i => (d.l.getD i o0).t) j) ∧ e_ 4 = nv j ∧ L_ = [bk b_3 31 [.slice d.a d.l.length d.c, str d.jt, iv d.js]] ∧ k_ = d.l.length - j) _ ⟨0, by omega, rfl, rfl, rfl, rfl, rfl, rfl⟩ ?_
  rintro _ e_4 _ ⟨j, hj, he_5, he_6, he_7, he_8, rfl, rfl⟩
  refine jC <| jC <| jF <| jA (jD (v := nv j) he_8) <| jA (jQ fo31_0 he_5) <| jK (jZ 0 (v := .slice d.a d.l.length d.c) rfl rfl ks rfl) <| jA (jr km rfl) <| jA (jl rfl rfl) <| jE <| jB ?_
  by_cases h_9 : ((j : Nat) : Int) < ((d.l.length : Nat) : Int)
  · have hlt : j < d.l.length := by omega
    refine jW (cB (dT h_9)) <| jT <| jB <| jC <| jf <| jC <| kJ [bk b_3 31 [.slice d.a d.l.length d.c, str d.jt, iv d.js]] 1000 mixed (by simp) <| jL 0 rfl (jQ fo31_0 he_5) <| jw 1 rfl (jZ 0 (v := .slice d.a d.l.length d.c) rfl rfl ks rfl) <| jL 2 rfl (jD (v := nv j) he_8) ?_
    obtain ⟨hr_10, hr_10b, -⟩ := sees_some hs_1 (by omega)
    refine jL 3 rfl (jk (i := j) km kj hr_10 hr_10b rfl rfl (by omega)) <| jL 4 rfl (kL fo60_2 hr_10 rfl) ?_
    have hi_11 := SeesA.elem hi_2 o0 (show j < d.l.length by omega)
    have hs_12 := seesO hi_11
    refine jw 5 rfl (kY (v := .bool ((d.l.getD j o0).t.whole)) hs_1 nM rfl gI (flat_at encO_len o0 d.l j 2 (by omega) (by decide))) <| jL 6 rfl (jD (v := .bool ((d.l.getD j o0).t.whole)) rfl) ?_
    rcases Bool.eq_false_or_eq_true ((d.l.getD j o0).t.whole) with h_13 | h_13
    · refine jg 7 rfl (by kernel_rfl) (NP.th (NP.bl (NP.th (NP.th (NP.bl (NP.th NP.body)))))) (by kernel_rfl) (by kernel_rfl) rfl rfl rfl (cB h_13) (jD (v := iv (bestF (fun i => (d.l.getD i o0).t) j)) he_7) <| jg 8 rfl (by kernel_rfl) (NP.th (NP.bl (NP.th (NP.th (NP.bl (NP.th NP.body)))))) (by kernel_rfl) (by kernel_rfl) rfl rfl rfl (cB h_13) (jl rfl rfl) <| jg 9 rfl (by kernel_rfl) (NP.th (NP.bl (NP.th (NP.th (NP.bl (NP.th NP.body)))))) (by kernel_rfl) (by kernel_rfl) rfl rfl rfl (cB h_13) (jD (v := .bool (decide ((bestF (fun i => (d.l.getD i o0).t) j) < 0))) rfl) ?_
      by_cases h_14 : (bestF (fun i => (d.l.getD i o0).t) j) < 0
      · refine jd 10 (b := true) rfl (by kernel_rfl) (NP.th (NP.bl (NP.th (NP.th (NP.bl (NP.th NP.body)))))) (by kernel_rfl) (by kernel_rfl) rfl rfl rfl (cB (dT h_14)) <| jd 11 (b := true) rfl (by kernel_rfl) (NP.th (NP.bl (NP.th (NP.th (NP.bl (NP.th NP.body)))))) (by kernel_rfl) (by kernel_rfl) rfl rfl rfl (cB (dT h_14)) <| jd 12 (b := true) rfl (by kernel_rfl) (NP.th (NP.bl (NP.th (NP.th (NP.bl (NP.th NP.body)))))) (by kernel_rfl) (by kernel_rfl) rfl rfl rfl (cB (dT h_14)) <| jd 13 (b := true) rfl (by kernel_rfl) (NP.th (NP.bl (NP.th (NP.th (NP.bl (NP.th NP.body)))))) (by kernel_rfl) (by kernel_rfl) rfl rfl rfl (cB (dT h_14)) <| jd 14 (b := true) rfl (by kernel_rfl) (NP.th (NP.bl (NP.th (NP.th (NP.bl (NP.th NP.body)))))) (by kernel_rfl) (by kernel_rfl) rfl rfl rfl (cB (dT h_14)) <| jd 15 (b := true) rfl (by kernel_rfl) (NP.th (NP.bl (NP.th (NP.th (NP.bl (NP.th NP.body)))))) (by kernel_rfl) (by kernel_rfl) rfl rfl rfl (cB (dT h_14)) <| jd 16 (b := true) rfl (by kernel_rfl) (NP.th (NP.bl (NP.th (NP.th (NP.bl (NP.th NP.body)))))) (by kernel_rfl) (by kernel_rfl) rfl rfl rfl (cB (dT h_14)) <| jd 17 (b := true) rfl (by kernel_rfl) (NP.th (NP.bl (NP.th (NP.th (NP.bl (NP.th NP.body)))))) (by kernel_rfl) (by kernel_rfl) rfl rfl rfl (cB (dT h_14)) <| jd 18 (b := true) rfl (by kernel_rfl) (NP.th (NP.bl (NP.th (NP.th (NP.bl (NP.th NP.body)))))) (by kernel_rfl) (by kernel_rfl) rfl rfl rfl (cB (dT h_14)) <| jd 19 (b := true) rfl (by kernel_rfl) (NP.th (NP.bl (NP.th (NP.th (NP.bl (NP.th NP.body)))))) (by kernel_rfl) (by kernel_rfl) rfl rfl rfl (cB (dT h_14)) ?_
        refine jd 20 (b := true) rfl (by kernel_rfl) (NP.th (NP.bl (NP.th (NP.th (NP.bl (NP.th NP.body)))))) (by kernel_rfl) (by kernel_rfl) rfl rfl rfl (cB (dT h_14)) <| jd 21 (b := true) rfl (by kernel_rfl) (NP.th (NP.bl (NP.th (NP.th (NP.bl (NP.th NP.body)))))) (by kernel_rfl) (by kernel_rfl) rfl rfl rfl (cB (dT h_14)) <| jd 22 (b := true) rfl (by kernel_rfl) (NP.th (NP.bl (NP.th (NP.th (NP.bl (NP.th NP.body)))))) (by kernel_rfl) (by kernel_rfl) rfl rfl rfl (cB (dT h_14)) <| jg 23 rfl (by kernel_rfl) (NP.th (NP.bl (NP.th (NP.th (NP.bl (NP.th NP.body)))))) (by kernel_rfl) (by kernel_rfl) rfl rfl rfl (cB h_13) (jh (v := .bool true) (cB (dT h_14)) rfl) <| jL 24 rfl (jh (v := .bool true) (cB h_13) rfl) <| kI (by kernel_rfl) <| jB <| jW (cB rfl) <| jF <| jA (jD (v := nv j) he_8) ?_
        refine jA (jG (v := nv j) rfl) <| jE <| jm <| jB <| jF <| jA (jD (v := nv j) he_8) <| jA (jc (c := ((j + 1 : Nat) : Int)) rfl rfl (wr (by omega))) <| jA (jG (v := iv ((j + 1 : Nat) : Int)) rfl) <| jE ?_
        refine jq (d.l.length - (j + 1)) (by omega) ⟨j + 1, by omega, he_5, he_6, (by simp only [bestF]; first | (rw [if_pos ⟨by assumption, .inl (by assumption)⟩]; first | rfl | assumption) | (rw [if_neg (by rintro ⟨h_, _⟩; simp_all)]; first | rfl | assumption)), rfl, rfl, rfl⟩
      have hlo := bestF_lo (fun i => (d.l.getD i o0).t) j
      obtain ⟨q_15, hq_16⟩ : ∃ n_ : Nat, bestF (fun i => (d.l.getD i o0).t) j = ((n_ : Nat) : Int) := ⟨(bestF (fun i => (d.l.getD i o0).t) j).toNat, by omega⟩
      refine jg 10 rfl (by kernel_rfl) (NP.th (NP.bl (NP.th (NP.th (NP.bl (NP.th NP.body)))))) (by kernel_rfl) (by kernel_rfl) rfl rfl rfl (cB (dF h_14)) (jQ fo31_0 he_5) <| kK 11 rfl (by kernel_rfl) (NP.th (NP.bl (NP.th (NP.th (NP.bl (NP.th NP.body)))))) (by kernel_rfl) (by kernel_rfl) (by kernel_rfl) rfl rfl rfl (cB (dF h_14)) (jZ 0 (v := .slice d.a d.l.length d.c) rfl rfl ks rfl) <| jg 12 rfl (by kernel_rfl) (NP.th (NP.bl (NP.th (NP.th (NP.bl (NP.th NP.body)))))) (by kernel_rfl) (by kernel_rfl) rfl rfl rfl (cB (dF h_14)) (jD (v := nv j) he_8) <| jg 13 rfl (by kernel_rfl) (NP.th (NP.bl (NP.th (NP.th (NP.bl (NP.th NP.body)))))) (by kernel_rfl) (by kernel_rfl) rfl rfl rfl (cB (dF h_14)) (jk (i := j) km kj hr_10 hr_10b rfl rfl (by omega)) <| jg 14 rfl (by kernel_rfl) (NP.th (NP.bl (NP.th (NP.th (NP.bl (NP.th NP.body)))))) (by kernel_rfl) (by kernel_rfl) rfl rfl rfl (cB (dF h_14)) (kL fo60_0 hr_10 rfl) <| kK 15 rfl (by kernel_rfl) (NP.th (NP.bl (NP.th (NP.th (NP.bl (NP.th NP.body)))))) (by kernel_rfl) (by kernel_rfl) (by kernel_rfl) rfl rfl rfl (cB (dF h_14)) (kY (v := iv ((d.l.getD j o0).t.seq)) hs_1 nM rfl kq (flat_at encO_len o0 d.l j 0 (by omega) (by decide))) <| jg 16 rfl (by kernel_rfl) (NP.th (NP.bl (NP.th (NP.th (NP.bl (NP.th NP.body)))))) (by kernel_rfl) (by kernel_rfl) rfl rfl rfl (cB (dF h_14)) (jQ fo31_0 he_5) <| kK 17 rfl (by kernel_rfl) (NP.th (NP.bl (NP.th (NP.th (NP.bl (NP.th NP.body)))))) (by kernel_rfl) (by kernel_rfl) (by kernel_rfl) rfl rfl rfl (cB (dF h_14)) (jZ 0 (v := .slice d.a d.l.length d.c) rfl rfl ks rfl) <| jg 18 rfl (by kernel_rfl) (NP.th (NP.bl (NP.th (NP.th (NP.bl (NP.th NP.body)))))) (by kernel_rfl) (by kernel_rfl) rfl rfl rfl (cB (dF h_14)) (jD (v := nv q_15) ((he_7).trans (congrArg (Value.int .i64) hq_16))) <| jg 19 rfl (by kernel_rfl) (NP.th (NP.bl (NP.th (NP.th (NP.bl (NP.th NP.body)))))) (by kernel_rfl) (by kernel_rfl) rfl rfl rfl (cB (dF h_14)) (jk (i := q_15) km kj hr_10 hr_10b rfl rfl (by omega)) ?_
      refine jg 20 rfl (by kernel_rfl) (NP.th (NP.bl (NP.th (NP.th (NP.bl (NP.th NP.body)))))) (by kernel_rfl) (by kernel_rfl) rfl rfl rfl (cB (dF h_14)) (kL fo60_0 hr_10 rfl) ?_
      have hi_17 := SeesA.elem hi_2 o0 (show q_15 < d.l.length by omega)
      have hs_18 := seesO hi_17
      refine kK 21 rfl (by kernel_rfl) (NP.th (NP.bl (NP.th (NP.th (NP.bl (NP.th NP.body)))))) (by kernel_rfl) (by kernel_rfl) (by kernel_rfl) rfl rfl rfl (cB (dF h_14)) (kY (v := iv ((d.l.getD q_15 o0).t.seq)) hs_1 nM rfl kq (flat_at encO_len o0 d.l q_15 0 (by omega) (by decide))) <| jg 22 rfl (by kernel_rfl) (NP.th (NP.bl (NP.th (NP.th (NP.bl (NP.th NP.body)))))) (by kernel_rfl) (by kernel_rfl) rfl rfl rfl (cB (dF h_14)) (kR rfl rfl) <| jg 23 rfl (by kernel_rfl) (NP.th (NP.bl (NP.th (NP.th (NP.bl (NP.th NP.body)))))) (by kernel_rfl) (by kernel_rfl) rfl rfl rfl (cB h_13) (ji (v := .bool (decide (((d.l.getD q_15 o0).t.seq) < ((d.l.getD j o0).t.seq)))) (cB (dF h_14)) rfl) <| jL 24 rfl (jh (v := .bool (decide (((d.l.getD q_15 o0).t.seq) < ((d.l.getD j o0).t.seq)))) (cB h_13) rfl) <| kI (by kernel_rfl) <| jB ?_
      by_cases h_19 : ((d.l.getD q_15 o0).t.seq) < ((d.l.getD j o0).t.seq)
      · refine jW (cB (dT h_19)) <| jF <| jA (jD (v := nv j) he_8) <| jA (jG (v := nv j) rfl) <| jE <| jm <| jB <| jF <| jA (jD (v := nv j) he_8) <| jA (jc (c := ((j + 1 : Nat) : Int)) rfl rfl (wr (by omega))) ?_
        refine jA (jG (v := iv ((j + 1 : Nat) : Int)) rfl) <| jE ?_
        refine jq (d.l.length - (j + 1)) (by omega) ⟨j + 1, by omega, he_5, he_6, (by first | rfl | (simp only [bestF]; first | (rw [if_pos ⟨by assumption, .inr (by rw [hq_16]; simp only [Int.toNat_natCast]; omega)⟩]; first | rfl | assumption) | (rw [if_neg (by rintro ⟨_, h_ | h_⟩ <;> first | omega | (simp only [hq_16, Int.toNat_natCast] at h_; omega))]; first | assumption | (rw [hq_16]; first | rfl | assumption)))), rfl, rfl, rfl⟩
      refine jR (cB (dF h_19)) <| jT <| jm <| jB <| jF <| jA (jD (v := nv j) he_8) <| jA (jc (c := ((j + 1 : Nat) : Int)) rfl rfl (wr (by omega))) <| jA (jG (v := iv ((j + 1 : Nat) : Int)) rfl) <| jE ?_
      refine jq (d.l.length - (j + 1)) (by omega) ⟨j + 1, by omega, he_5, he_6, (by first | rfl | (simp only [bestF]; first | (rw [if_pos ⟨by assumption, .inr (by rw [hq_16]; simp only [Int.toNat_natCast]; omega)⟩]; first | rfl | assumption) | (rw [if_neg (by rintro ⟨_, h_ | h_⟩ <;> first | omega | (simp only [hq_16, Int.toNat_natCast] at h_; omega))]; first | assumption | (rw [hq_16]; first | rfl | assumption)))), rfl, rfl, rfl⟩
    refine jd 7 (b := false) rfl (by kernel_rfl) (NP.th (NP.bl (NP.th (NP.th (NP.bl (NP.th NP.body)))))) (by kernel_rfl) (by kernel_rfl) rfl rfl rfl (cB h_13) <| jd 8 (b := false) rfl (by kernel_rfl) (NP.th (NP.bl (NP.th (NP.th (NP.bl (NP.th NP.body)))))) (by kernel_rfl) (by kernel_rfl) rfl rfl rfl (cB h_13) <| jd 9 (b := false) rfl (by kernel_rfl) (NP.th (NP.bl (NP.th (NP.th (NP.bl (NP.th NP.body)))))) (by kernel_rfl) (by kernel_rfl) rfl rfl rfl (cB h_13) <| kE 10 rfl (by kernel_rfl) (NP.th (NP.bl (NP.th (NP.th (NP.bl (NP.th NP.body)))))) (by kernel_rfl) (by kernel_rfl) rfl rfl rfl rfl <| kE 11 rfl (by kernel_rfl) (NP.th (NP.bl (NP.th (NP.th (NP.bl (NP.th NP.body)))))) (by kernel_rfl) (by kernel_rfl) rfl rfl rfl rfl <| kE 12 rfl (by kernel_rfl) (NP.th (NP.bl (NP.th (NP.th (NP.bl (NP.th NP.body)))))) (by kernel_rfl) (by kernel_rfl) rfl rfl rfl rfl <| kE 13 rfl (by kernel_rfl) (NP.th (NP.bl (NP.th (NP.th (NP.bl (NP.th NP.body)))))) (by kernel_rfl) (by kernel_rfl) rfl rfl rfl rfl <| kE 14 rfl (by kernel_rfl) (NP.th (NP.bl (NP.th (NP.th (NP.bl (NP.th NP.body)))))) (by kernel_rfl) (by kernel_rfl) rfl rfl rfl rfl <| kE 15 rfl (by kernel_rfl) (NP.th (NP.bl (NP.th (NP.th (NP.bl (NP.th NP.body)))))) (by kernel_rfl) (by kernel_rfl) rfl rfl rfl rfl <| kE 16 rfl (by kernel_rfl) (NP.th (NP.bl (NP.th (NP.th (NP.bl (NP.th NP.body)))))) (by kernel_rfl) (by kernel_rfl) rfl rfl rfl rfl ?_
    refine kE 17 rfl (by kernel_rfl) (NP.th (NP.bl (NP.th (NP.th (NP.bl (NP.th NP.body)))))) (by kernel_rfl) (by kernel_rfl) rfl rfl rfl rfl <| kE 18 rfl (by kernel_rfl) (NP.th (NP.bl (NP.th (NP.th (NP.bl (NP.th NP.body)))))) (by kernel_rfl) (by kernel_rfl) rfl rfl rfl rfl <| kE 19 rfl (by kernel_rfl) (NP.th (NP.bl (NP.th (NP.th (NP.bl (NP.th NP.body)))))) (by kernel_rfl) (by kernel_rfl) rfl rfl rfl rfl <| kE 20 rfl (by kernel_rfl) (NP.th (NP.bl (NP.th (NP.th (NP.bl (NP.th NP.body)))))) (by kernel_rfl) (by kernel_rfl) rfl rfl rfl rfl <| kE 21 rfl (by kernel_rfl) (NP.th (NP.bl (NP.th (NP.th (NP.bl (NP.th NP.body)))))) (by kernel_rfl) (by kernel_rfl) rfl rfl rfl rfl <| kE 22 rfl (by kernel_rfl) (NP.th (NP.bl (NP.th (NP.th (NP.bl (NP.th NP.body)))))) (by kernel_rfl) (by kernel_rfl) rfl rfl rfl rfl <| jd 23 (b := false) rfl (by kernel_rfl) (NP.th (NP.bl (NP.th (NP.th (NP.bl (NP.th NP.body)))))) (by kernel_rfl) (by kernel_rfl) rfl rfl rfl (cB h_13) <| jL 24 rfl (ji (v := .bool false) (cB h_13) rfl) <| kI (by kernel_rfl) <| jB ?_
    refine jR (cB rfl) <| jT <| jm <| jB <| jF <| jA (jD (v := nv j) he_8) <| jA (jc (c := ((j + 1 : Nat) : Int)) rfl rfl (wr (by omega))) <| jA (jG (v := iv ((j + 1 : Nat) : Int)) rfl) <| jE ?_
    refine jq (d.l.length - (j + 1)) (by omega) ⟨j + 1, by omega, he_5, he_6, (by simp only [bestF]; first | (rw [if_pos ⟨by assumption, .inl (by assumption)⟩]; first | rfl | assumption) | (rw [if_neg (by rintro ⟨h_, _⟩; simp_all)]; first | rfl | assumption)), rfl, rfl, rfl⟩
  refine jR (cB (dF h_9)) <| jx <| jb <| jb <| jy <| jB <| jC <| jF <| jA (jD (v := iv (bestF (fun i => (d.l.getD i o0).t) j)) he_7) <| jA (jG (v := iv (bestF (fun i => (d.l.getD i o0).t) j)) rfl) ?_
  refine jE <| jB <| jN <| jV (.inl rfl) rfl (jJ (v := iv (bestF (fun i => (d.l.getD i o0).t) j)) rfl) (List.nil_sublist _) ?_
  refine ⟨congrArg (Value.int .i64) ?_, rfl⟩
  rw [bestD_dat, show d.l.length = j by omega]

set_option maxRecDepth 4000 in
set_option maxHeartbeats 1000000 in
theorem Y_specDiskOk (d : DX) (hz : d.dat.okz) (hl : d.l.length ≤ 1000000000) :
    Ct Tryz.prog 42 [.agg #[.slice d.a d.l.length d.c, str d.jt, .int .i64 d.js]] [] (fun w => SeesA w (rdsD d)) (fun v A' => v = .bool (diskOk d.dat) ∧ A' = []) := by
  refine Ct.intro Tryz.func42 rfl Tryz.ntmps42 (lb rfl) fun w0 hpre => ?_
  have hjl := hz.k2
  have hs_1 : Sees w0 (.slice d.a d.l.length d.c) 3 d.l.length (d.l.flatMap encO) := (hpre).head
  have hi_2 : SeesA w0 (d.l.flatMap rdsO) := (hpre).tail
  refine jC <| jF ?_
  refine jH rfl (kG (cs := [.slice d.a d.l.length d.c, str d.jt, iv d.js]) rfl rfl) ?_
  rintro _ _ ⟨b_3, rfl, rfl⟩
  refine jA (jG (v := .bool false) rfl) <| jE <| jB <| jC <| jC <| jF <| jA (jG (v := iv 0) rfl) <| jE <| jB <| jf ?_
  refine kD (fun k_ e_ L_ => ∃ j : Nat, (j ≤ d.l.length) ∧ (∀ i, i < j → slotG (d.l.getD i o0).t = true) ∧ e_ 1 = .pointer (some ⟨b_3, 0, none⟩) ∧ e_ 3 = nv j ∧ L_ = [bk b_3 31 [.slice d.a d.l.length d.c, str d.jt, iv d.js]] ∧ k_ = d.l.length - j) _ ⟨0, by omega, (fun i hi => absurd hi (Nat.not_lt_zero i)), rfl, rfl, rfl, rfl⟩ ?_
  rintro _ e_4 _ ⟨j, hj, hN, he_5, he_6, rfl, rfl⟩
  refine jC <| jC <| jF <| jA (jD (v := nv j) he_6) <| jA (jQ fo31_0 he_5) <| jK (jZ 0 (v := .slice d.a d.l.length d.c) rfl rfl ks rfl) <| jA (jr km rfl) <| jA (jl rfl rfl) <| jE <| jB ?_
  by_cases h_7 : ((j : Nat) : Int) < ((d.l.length : Nat) : Int)
  · have hlt : j < d.l.length := by omega
    refine jW (cB (dT h_7)) <| jT <| jB <| jC <| jf <| jC <| jF <| jA (jQ fo31_0 he_5) <| jK (jZ 0 (v := .slice d.a d.l.length d.c) rfl rfl ks rfl) <| jA (jD (v := nv j) he_6) ?_
    obtain ⟨hr_8, hr_8b, -⟩ := sees_some hs_1 (by omega)
    refine jA (jk (i := j) km kj hr_8 hr_8b rfl rfl (by omega)) ?_
    have hi_9 := SeesA.elem hi_2 o0 (show j < d.l.length by omega)
    have hs_10 := seesO hi_9
    refine jK (kX (vs := [iv ((d.l.getD j o0).t.seq), .slice ((d.l.getD j o0).x.a0) ((d.l.getD j o0).t.cells.length) ((d.l.getD j o0).x.c0), .bool ((d.l.getD j o0).t.whole)]) hs_1 nM rfl gB kj (flat_take encO_len o0 d.l j (by omega)) rfl (by decide)) ?_
    refine jH rfl (jo (z := .agg #[iv 0, .slice none 0 0, .bool false]) (cs := [iv 0, .slice none 0 0, .bool false]) gD rfl) ?_
    rintro _ _ ⟨b_11, rfl, rfl⟩
    refine jH rfl (ja 0 (vs := [iv ((d.l.getD j o0).t.seq), .slice ((d.l.getD j o0).x.a0) ((d.l.getD j o0).t.cells.length) ((d.l.getD j o0).x.c0), .bool ((d.l.getD j o0).t.whole)]) (cs' := [iv ((d.l.getD j o0).t.seq), .slice ((d.l.getD j o0).x.a0) ((d.l.getD j o0).t.cells.length) ((d.l.getD j o0).x.c0), .bool ((d.l.getD j o0).t.whole)]) rfl rfl rfl rfl kj rfl rfl (lb rfl) rfl) ?_
    rintro _ _ rfl
    refine jE <| jB <| jC <| jF <| jA (jQ fo60_2 rfl) <| jK (jZ 0 (v := .bool ((d.l.getD j o0).t.whole)) rfl rfl gI rfl) <| jA (jD (v := .bool ((d.l.getD j o0).t.whole)) rfl) ?_
    rcases Bool.eq_false_or_eq_true ((d.l.getD j o0).t.whole) with h_12 | h_12
    · refine jM rfl rfl rfl (cB h_12) (jP (jU (jQ fo60_0 rfl))) ?_
      rintro _ _ ⟨rfl, rfl⟩
      refine jM rfl rfl rfl (cB h_12) (jP (jZ 0 (v := iv ((d.l.getD j o0).t.seq)) rfl rfl kq rfl)) ?_
      rintro _ _ ⟨rfl, rfl⟩
      refine jM rfl rfl rfl (cB h_12) (jI [] Tryz.call89 rfl (Y_l01In ((d.l.getD j o0).t.seq) 0 99999) rfl (fun _ _ => trivial)) ?_
      rintro _ _ ⟨_, ⟨rfl, rfl⟩, rfl⟩
      refine jM rfl rfl rfl (cB h_12) (jP (jU (jp rfl))) ?_
      rintro _ _ ⟨rfl, rfl⟩
      refine jM rfl rfl rfl (cB h_12) (jP (jU (jD (v := .bool (!(within 0 ((d.l.getD j o0).t.seq) 99999))) rfl))) ?_
      rintro _ _ ⟨rfl, rfl⟩
      rcases Bool.eq_false_or_eq_true (within 0 ((d.l.getD j o0).t.seq) 99999) with h_13 | h_13
      · refine jM rfl rfl rfl (cB (cN h_13)) (jP (jU (jQ fo60_1 rfl))) ?_
        rintro _ _ ⟨rfl, rfl⟩
        refine jM rfl rfl rfl (cB (cN h_13)) (jP (jZ 0 (v := .slice ((d.l.getD j o0).x.a0) ((d.l.getD j o0).t.cells.length) ((d.l.getD j o0).x.c0)) rfl rfl kz rfl)) ?_
        rintro _ _ ⟨rfl, rfl⟩
        refine jM rfl rfl rfl (cB (cN h_13)) (jI [] Tryz.call53 rfl (Y_specStoreOk (d.l.getD j o0).x.a0 ((d.l.getD j o0).x.c0) ((d.l.getD j o0).t.cells) (DX.okz_get hz j (by omega)).k0) rfl (fun w hw => hw.seeOut_ hs_10 nM)) ?_
        rintro _ _ ⟨_, ⟨rfl, rfl⟩, rfl⟩
        refine jM rfl rfl rfl (cB (cN h_13)) (jP (jU (jp rfl))) ?_
        rintro _ _ ⟨rfl, rfl⟩
        refine jM rfl rfl rfl (cB h_12) (jP (jU (ji (v := .bool (!(storeOk ((d.l.getD j o0).t.cells)))) (cB (cN h_13)) rfl))) ?_
        rintro _ _ ⟨rfl, rfl⟩
        refine jA (jh (v := .bool (!(storeOk ((d.l.getD j o0).t.cells)))) (cB h_12) rfl) <| jE <| jB ?_
        rcases Bool.eq_false_or_eq_true (storeOk ((d.l.getD j o0).t.cells)) with h_14 | h_14
        · refine jR (cB (cN h_14)) <| jT <| jm <| jB <| jF <| jA (jD (v := nv j) he_6) <| jA (jc (c := ((j + 1 : Nat) : Int)) rfl rfl (wr (by omega))) <| jA (jG (v := iv ((j + 1 : Nat) : Int)) rfl) <| jE <| kB [1] (A := [bk b_3 31 [.slice d.a d.l.length d.c, str d.jt, iv d.js]]) rfl ?_
          refine jq (d.l.length - (j + 1)) (by omega) ⟨j + 1, by omega, (fun i hi => if h : i = j then h ▸ (by simp only [slotG, Bool.and_true, Bool.true_and, Bool.and_false, Bool.false_and, Bool.or_true, Bool.true_or, Bool.or_false, Bool.false_or, Bool.not_true, Bool.not_false, ((dT h_7)), (h_12), (h_13), (h_14)]) else hN i (by omega)), he_5, rfl, rfl, rfl⟩
        refine jW (cB (cN h_14)) <| jC <| jF <| jA (jG (v := .bool false) rfl) <| jE <| jB <| jN <| jv <| jX <| jX ?_
        refine jv <| jX <| jV (.inl rfl) rfl (jJ (v := .bool false) rfl) (List.nil_sublist _) ?_
        refine ⟨cB ?_, rfl⟩
        rw [diskOk_dat]
        exact (diskOkF_slot (f := (fun i => (d.l.getD i o0).t)) hlt (by simp only [slotG, Bool.and_true, Bool.true_and, Bool.and_false, Bool.false_and, Bool.or_true, Bool.true_or, Bool.or_false, Bool.false_or, Bool.not_true, Bool.not_false, ((dT h_7)), (h_12), (h_13), (h_14)])).symm
      refine jS (b := true) rfl rfl rfl (cB (cN h_13)) <| jS (b := true) rfl rfl rfl (cB (cN h_13)) <| jS (b := true) rfl rfl rfl (cB (cN h_13)) <| jS (b := true) rfl rfl rfl (cB (cN h_13)) <| jM rfl rfl rfl (cB h_12) (jP (jU (jh (v := .bool true) (cB (cN h_13)) rfl))) ?_
      rintro _ _ ⟨rfl, rfl⟩
      refine jA (jh (v := .bool true) (cB h_12) rfl) <| jE <| jB <| jW (cB rfl) <| jC <| jF <| jA (jG (v := .bool false) rfl) <| jE <| jB <| jN ?_
      refine jv <| jX <| jX <| jv <| jX <| jV (.inl rfl) rfl (jJ (v := .bool false) rfl) (List.nil_sublist _) ?_
      refine ⟨cB ?_, rfl⟩
      rw [diskOk_dat]
      exact (diskOkF_slot (f := (fun i => (d.l.getD i o0).t)) hlt (by simp only [slotG, Bool.and_true, Bool.true_and, Bool.and_false, Bool.false_and, Bool.or_true, Bool.true_or, Bool.or_false, Bool.false_or, Bool.not_true, Bool.not_false, ((dT h_7)), (h_12), (h_13)])).symm
    refine jS (b := false) rfl rfl rfl (cB h_12) <| jS (b := false) rfl rfl rfl (cB h_12) <| jS (b := false) rfl rfl rfl (cB h_12) <| jS (b := false) rfl rfl rfl (cB h_12) <| jS (b := false) rfl rfl rfl (cB h_12) <| kP rfl rfl rfl rfl <| kP rfl rfl rfl rfl <| kP rfl rfl rfl rfl <| kP rfl rfl rfl rfl <| jS (b := false) rfl rfl rfl (cB h_12) ?_
    refine jA (ji (v := .bool false) (cB h_12) rfl) <| jE <| jB <| jR (cB rfl) <| jT <| jm <| jB <| jF <| jA (jD (v := nv j) he_6) <| jA (jc (c := ((j + 1 : Nat) : Int)) rfl rfl (wr (by omega))) ?_
    refine jA (jG (v := iv ((j + 1 : Nat) : Int)) rfl) <| jE <| kB [1] (A := [bk b_3 31 [.slice d.a d.l.length d.c, str d.jt, iv d.js]]) rfl ?_
    refine jq (d.l.length - (j + 1)) (by omega) ⟨j + 1, by omega, (fun i hi => if h : i = j then h ▸ (by simp only [slotG, Bool.and_true, Bool.true_and, Bool.and_false, Bool.false_and, Bool.or_true, Bool.true_or, Bool.or_false, Bool.false_or, Bool.not_true, Bool.not_false, ((dT h_7)), (h_12)]) else hN i (by omega)), he_5, rfl, rfl, rfl⟩
  refine jR (cB (dF h_7)) <| jx <| jb <| jb <| jy <| jB <| jC <| jF <| jA (jQ fo31_0 he_5) <| jK (jZ 0 (v := .slice d.a d.l.length d.c) rfl rfl ks rfl) ?_
  refine jA (jr km rfl) <| jA (kO rfl rfl) <| jA (jD (v := .bool (decide (((d.l.length : Nat) : Int) = 2))) rfl) ?_
  by_cases h_15 : ((d.l.length : Nat) : Int) = 2
  · refine jM rfl rfl rfl (cB (dT h_15)) (jP (jO 0 (vs := [.slice d.a d.l.length d.c, str d.jt, iv d.js]) rfl he_5 ke kd rfl rfl)) ?_
    rintro _ _ ⟨rfl, rfl⟩
    refine jM rfl rfl rfl (cB (dT h_15)) (jI [] Tryz.call49 rfl (Y_sBest d hz (by omega)) rfl (fun w hw => hw.seeOutA hpre nMA)) ?_
    rintro _ _ ⟨_, ⟨rfl, rfl⟩, rfl⟩
    refine jM rfl rfl rfl (cB (dT h_15)) (jP (jU (PO.geq rfl rfl))) ?_
    rintro _ _ ⟨rfl, rfl⟩
    refine jA (jh (v := .bool (decide (0 ≤ (bestD d.dat)))) (cB (dT h_15)) rfl) <| jA (jD (v := .bool (decide (0 ≤ (bestD d.dat)))) rfl) ?_
    by_cases h_16 : 0 ≤ (bestD d.dat)
    · refine jM rfl rfl rfl (cB (dT h_16)) (jP (jU (jQ fo31_1 he_5))) ?_
      rintro _ _ ⟨rfl, rfl⟩
      refine jM rfl rfl rfl (cB (dT h_16)) (jP (jO 0 (vs := [str d.jt, iv d.js]) rfl rfl kp kl rfl rfl)) ?_
      rintro _ _ ⟨rfl, rfl⟩
      refine jM rfl rfl rfl (cB (dT h_16)) (jI [] Tryz.call95 rfl (Y_specJournalOk d.jt d.js hjl) rfl (fun _ _ => trivial)) ?_
      rintro _ _ ⟨_, ⟨rfl, rfl⟩, rfl⟩
      refine jA (jh (v := .bool (jourOk d.jt d.js)) (cB (dT h_16)) rfl) <| jA (jG (v := .bool (jourOk d.jt d.js)) rfl) <| jE <| jB <| jN <| jV (.inl rfl) rfl (jJ (v := .bool (jourOk d.jt d.js)) rfl) (List.nil_sublist _) ?_
      refine ⟨cB ?_, rfl⟩
      rw [diskOk_dat, diskOkF_spec (f := (fun i => (d.l.getD i o0).t)) (by omega) hN, ← bestD_dat]
      simp only [Bool.and_true, Bool.true_and, Bool.and_false, Bool.false_and, Bool.or_true, Bool.true_or, Bool.or_false, Bool.false_or, Bool.not_true, Bool.not_false, ((dF h_7)), ((dT h_15)), ((dT h_16))]
    refine jS (b := false) rfl rfl rfl (cB (dF h_16)) <| jS (b := false) rfl rfl rfl (cB (dF h_16)) <| jS (b := false) rfl rfl rfl (cB (dF h_16)) <| jA (ji (v := .bool false) (cB (dF h_16)) rfl) <| jA (jG (v := .bool false) rfl) <| jE <| jB <| jN <| jV (.inl rfl) rfl (jJ (v := .bool false) rfl) (List.nil_sublist _) ?_
    refine ⟨cB ?_, rfl⟩
    rw [diskOk_dat, diskOkF_spec (f := (fun i => (d.l.getD i o0).t)) (by omega) hN, ← bestD_dat]
    simp only [Bool.and_true, Bool.true_and, Bool.and_false, Bool.false_and, Bool.or_true, Bool.true_or, Bool.or_false, Bool.false_or, Bool.not_true, Bool.not_false, ((dF h_7)), ((dT h_15)), ((dF h_16))]
  refine jS (b := false) rfl rfl rfl (cB (dF h_15)) <| jS (b := false) rfl rfl rfl (cB (dF h_15)) <| jS (b := false) rfl rfl rfl (cB (dF h_15)) <| jA (ji (v := .bool false) (cB (dF h_15)) rfl) <| jA (jD (v := .bool false) rfl) <| jS (b := false) rfl rfl rfl (cB rfl) <| jS (b := false) rfl rfl rfl (cB rfl) <| jS (b := false) rfl rfl rfl (cB rfl) <| jA (ji (v := .bool false) (cB rfl) rfl) <| jA (jG (v := .bool false) rfl) ?_
  refine jE <| jB <| jN <| jV (.inl rfl) rfl (jJ (v := .bool false) rfl) (List.nil_sublist _) ?_
  refine ⟨cB ?_, rfl⟩
  rw [diskOk_dat, diskOkF_spec (f := (fun i => (d.l.getD i o0).t)) (by omega) hN, ← bestD_dat]
  simp only [Bool.and_true, Bool.true_and, Bool.and_false, Bool.false_and, Bool.or_true, Bool.true_or, Bool.or_false, Bool.false_or, Bool.not_true, Bool.not_false, ((dF h_7)), ((dF h_15))]

end Go.Proofs.YtjncpgcccgdeiaaGreatDoor
