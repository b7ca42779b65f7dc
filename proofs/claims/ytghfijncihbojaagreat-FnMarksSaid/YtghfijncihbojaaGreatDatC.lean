/-
  Texts of the walk, joined: what each one proves stands at its theorems.
-/
import Derived.Test.YtghfijncihbojaaGreatProg
import Derived.WalkKit
import Derived.Lib.LaidTab
import Derived.Lib.ItoaNum
import Derived.Lib.AtoiAll
import Derived.Laws.Cover1
import Derived.Orders
import Derived.Laws.IdiomStrings
import Derived.Lib.AppendZerosOnto
import Derived.Lib.Overlaps
import Derived.Laws.Cover3
import Derived.WideLaws
import Derived.Lib.ItoaLen
set_option linter.unusedSimpArgs false
set_option linter.unusedVariables false
namespace Go.Proofs.YtghfijncihbojaaGreat
open Go Go.RowKit

/-- How many blocks hold package-level variables. -/
def GB : Nat := 0
/-- The type of a byte. -/
def TB : Nat := 5
/-- Nothing is asked of them. -/
def Glob (w : World) : Prop := 0 ≤ w.heap.size
theorem Glob.keep {w w' : World} (h : ∀ k, k < GB → w'.heap[k]? = w.heap[k]?) (hg : Glob w) : Glob w' := Nat.zero_le _
theorem ko : type_of% @Tryz.sizeOf51 := @Tryz.sizeOf51
theorem kp : type_of% @Tryz.isAgg3 := @Tryz.isAgg3
theorem kq : type_of% @Tryz.sizeOf31 := @Tryz.sizeOf31
theorem kr : type_of% @Tryz.sizeOf45 := @Tryz.sizeOf45
theorem ks : type_of% @Tryz.underlying26 := @Tryz.underlying26
theorem kt : type_of% @Tryz.sizeOf3 := @Tryz.sizeOf3
theorem ku : type_of% @Tryz.isAgg51 := @Tryz.isAgg51
theorem kv : type_of% @Tryz.isAgg9 := @Tryz.isAgg9
theorem kw : type_of% @Tryz.sizeOf9 := @Tryz.sizeOf9
theorem kx : type_of% @Tryz.sizeOf28 := @Tryz.sizeOf28
theorem ky : type_of% @Tryz.underlying9 := @Tryz.underlying9
theorem kz : type_of% @Tryz.isAgg31 := @Tryz.isAgg31
theorem gA : type_of% @Tryz.isAgg45 := @Tryz.isAgg45
theorem gB : type_of% @Tryz.underlying29 := @Tryz.underlying29
theorem gC : type_of% @Tryz.underlying48 := @Tryz.underlying48
theorem gD : type_of% @Tryz.underlying24 := @Tryz.underlying24
theorem gF : type_of% @Tryz.isAgg26 := @Tryz.isAgg26
theorem gG : type_of% @Tryz.zeroValue45 := @Tryz.zeroValue45
theorem gH : type_of% @Tryz.zeroValue31 := @Tryz.zeroValue31
theorem gI : type_of% @Tryz.zeroValue99 := @Tryz.zeroValue99
theorem gJ : type_of% @Tryz.sizeOf167 := @Tryz.sizeOf167
theorem gL : type_of% @Tryz.isAgg28 := @Tryz.isAgg28
theorem gM : type_of% @Tryz.underlying22 := @Tryz.underlying22
theorem gN : type_of% @Tryz.underlying25 := @Tryz.underlying25
theorem gO : type_of% @Tryz.typeInfo9 := @Tryz.typeInfo9
theorem gQ : type_of% @Tryz.zeroValue9 := @Tryz.zeroValue9
theorem gS : type_of% @Tryz.isAgg29 := @Tryz.isAgg29
theorem gT : type_of% @Tryz.underlying137 := @Tryz.underlying137
theorem gU : type_of% @Tryz.zeroValue28 := @Tryz.zeroValue28
theorem gY : type_of% @Tryz.isAgg48 := @Tryz.isAgg48
theorem gZ : type_of% @Tryz.underlying5 := @Tryz.underlying5
theorem ga : type_of% @Tryz.sizeOf206 := @Tryz.sizeOf206
theorem gb : type_of% @Tryz.isAgg24 := @Tryz.isAgg24
theorem gg : type_of% @Tryz.underlying3 := @Tryz.underlying3
theorem gh : type_of% @Tryz.isAgg25 := @Tryz.isAgg25
theorem gi : type_of% @Tryz.sizeOf5 := @Tryz.sizeOf5
theorem gk : type_of% @Tryz.sizeOf99 := @Tryz.sizeOf99
theorem gn : type_of% @Tryz.zeroValue167 := @Tryz.zeroValue167
theorem gp : type_of% @Tryz.zeroValue5 := @Tryz.zeroValue5
theorem gq : type_of% @Tryz.typeInfo167 := @Tryz.typeInfo167
theorem gr : type_of% @Tryz.zeroValue51 := @Tryz.zeroValue51
theorem gt : type_of% @Tryz.sizeOf26 := @Tryz.sizeOf26
theorem gy : type_of% @Tryz.isAgg99 := @Tryz.isAgg99
end Go.Proofs.YtghfijncihbojaaGreat

set_option linter.unusedSimpArgs false
set_option linter.unusedVariables false
set_option linter.unnecessarySimpa false
namespace Go.Proofs.YtghfijncihbojaaGreat
open Go

abbrev Str := List UInt8
abbrev Cell := Str × Str
abbrev c0 : Cell := ([], [])
def gtrB (a b : Str) : Bool := !Op.bytesLess a b && !decide (a = b)
def geqB (a b : Str) : Bool := !Op.bytesLess a b

def getKey (s : List Cell) (key : Str) : Str := match s with
  | [] => []
  | c :: s => if c.1 = key then c.2 else getKey s key

def keyByte (c : UInt8) : Bool := decide (33 ≤ c.toNat) && decide (c.toNat ≤ 126) && !decide (c.toNat = 42)
def keyOk (key : Str) : Bool := key.all keyByte && decide (1 ≤ key.length) && decide (key.length ≤ 40)

/-- Where the first element stands of which p holds; the length if there is none. -/
def findAt {α : Type} (p : α → Bool) : List α → Nat
  | [] => 0
  | x :: l => if p x then 0 else findAt p l + 1

def insertAt {α : Type} (i : Nat) (x : α) (l : List α) : List α := l.take i ++ x :: l.drop i

def addSpan (l : List Str) (x : Str) : List Str :=
  let i := findAt (fun y => geqB y x) l
  if i < l.length then (if l.getD i [] = x then l else insertAt i x l) else l ++ [x]

def putKey (s : List Cell) (key val : Str) : List Cell :=
  if !keyOk key || decide (60 < val.length) then s
  else
    let f := s.filter (fun c => !decide (c.1 = key))
    if val = [] then f else insertAt (findAt (fun c => gtrB c.1 key) f) (key, val) f

def prefixB (s p : Str) : Bool := decide (p.length ≤ s.length) && decide (s.take p.length = p)
def keysUnder (s : List Cell) (p : Str) : List Str := (s.filter (fun c => prefixB c.1 p)).map (·.1)

/-- A machine, as data: the store, the keys read, the keys written. -/
structure MS where
  s : List Cell
  r : List Str
  w : List Str

def MS.look (m : MS) (key : Str) : MS × Str := (⟨m.s, addSpan m.r key, m.w⟩, getKey m.s key)
def MS.lay (m : MS) (key val : Str) : MS := ⟨putKey m.s key val, m.r, addSpan m.w key⟩
def MS.under (m : MS) (p : Str) : MS × List Str := (⟨m.s, addSpan m.r (p ++ [42]), m.w⟩, keysUnder m.s p)
def MS.wipe (m : MS) (p : Str) : MS := (m.under p).2.foldl (fun m k => m.lay k []) (m.under p).1

def dec (n : Int) : Str := Lib.itoa n
/-- The number in 0 .. 10^9 whose numeral this is. -/
def readDec (t : Str) : Int × Bool :=
  match Lib.atoiAll t with
  | .ok n => if 0 ≤ n ∧ n ≤ 1000000000 ∧ dec n = t then (n, true) else (0, false)
  | _ => (0, false)
def numOf (t : Str) : Int := if 999 < (readDec t).1 then 0 else (readDec t).1
def MS.num (m : MS) (key : Str) : MS × Int := ((m.look key).1, numOf (m.look key).2)
def MS.setNum (m : MS) (key : Str) (n : Int) : MS := m.lay key (if 1 ≤ n ∧ n ≤ 999 then dec n else [])
def MS.bump (m : MS) (key : Str) : MS × Int :=
  if 999 < (m.num key).2 + 1 then ((m.num key).1, 0) else ((m.num key).1.setNum key ((m.num key).2 + 1), (m.num key).2 + 1)
def keyNum (h : Str) (n : Int) (t : Str) : Str := h ++ dec n ++ t

theorem findAt_le {α : Type} (p : α → Bool) : ∀ l : List α, findAt p l ≤ l.length
  | [] => Nat.le_refl _
  | x :: l => by
    unfold findAt
    split
    · exact Nat.zero_le _
    · exact Nat.succ_le_succ (findAt_le p l)
theorem findAt_eq {α : Type} (p : α → Bool) (d : α) : ∀ (l : List α) (i : Nat), i < l.length → (∀ j, j < i → p (l.getD j d) = false) → p (l.getD i d) = true → findAt p l = i
  | [], i, h, _, _ => by simp at h
  | x :: l, 0, _, _, h => by simp at h; simp [findAt, h]
  | x :: l, i + 1, h, hj, hp => by
    have h0 := hj 0 (by omega)
    simp at h0
    simp only [findAt, h0]
    have := findAt_eq p d l i (by simpa using h) (fun j hji => by have := hj (j + 1) (by omega); simpa using this) (by simpa using hp)
    simp [this]
theorem findAt_none {α : Type} (p : α → Bool) (d : α) : ∀ (l : List α), (∀ j, j < l.length → p (l.getD j d) = false) → findAt p l = l.length
  | [], _ => rfl
  | x :: l, h => by
    have h0 := h 0 (by simp)
    simp at h0
    simp only [findAt, h0]
    have := findAt_none p d l (fun j hj => by have := h (j + 1) (by simpa using hj); simpa using this)
    simp [this]
theorem insertAt_length {α : Type} (i : Nat) (x : α) (l : List α) (h : i ≤ l.length) : (insertAt i x l).length = l.length + 1 := by
  unfold insertAt
  simp
  omega

end Go.Proofs.YtghfijncihbojaaGreat

set_option linter.unusedSimpArgs false
set_option linter.unusedVariables false
set_option linter.unnecessarySimpa false
namespace Go.Proofs.YtghfijncihbojaaGreat
open Go Go.RowKit

def str (l : Str) : Value := .string ⟨l.toArray⟩

abbrev Env := Nat → Value
def upd (e : Env) (d : Nat) (v : Value) : Env := fun i => bif Nat.beq i d then v else e i
def updO (e : Env) (d : Option Nat) (v : Value) : Env := match d with | some d => upd e d v | none => e
def act (n : Nat) (e : Env) : Act := { tmps := Array.ofFn (n := n) (fun i => e i.val), defers := [] }
def rd (n : Nat) (e : Env) : Operand → Value
  | .tmp t => bif Nat.blt t n then e t else undef
  | .const v => v
  | .global g => .pointer (some ⟨g, 0, none⟩)
  | .func f => .func (.func f) #[] #[]

theorem act_eval (n : Nat) (e : Env) (x : Operand) : (act n e).eval x = rd n e x := by
  cases x with
  | tmp t =>
    simp only [Act.eval, act, rd]
    by_cases h : t < n
    · have : Nat.blt t n = true := by simp [Nat.blt_eq, h]
      simp [this, h]
    · have : Nat.blt t n = false := by
        cases hb : Nat.blt t n with
        | false => rfl
        | true => exact absurd (Nat.blt_eq ▸ hb) h
      simp [this, h]
  | const v => rfl
  | global g => rfl
  | func f => rfl

theorem act_eval' (n : Nat) (e : Env) : (act n e).eval = rd n e := funext (act_eval n e)

theorem act_put (n : Nat) (e : Env) (d : Option Nat) (v : Value) : (act n e).put d v = act n (updO e d v) := by
  cases d with
  | none => rfl
  | some d =>
    simp only [Act.put, act, updO, upd]
    congr 1
    apply Array.ext
    · simp
    · intro i h1 h2
      by_cases hd : d = i
      · subst hd; simp
      · have : Nat.beq i d = false := by
          cases hb : Nat.beq i d with
          | false => rfl
          | true => exact absurd (Nat.eq_of_beq_eq_true hb).symm hd
        have h3 : i < (Array.ofFn (n := n) fun i => e i.val).size := by simpa using h2
        rw [Array.getElem_setIfInBounds_ne h3 hd]
        simp only [Array.getElem_ofFn, this, cond_false]

/-- A block of cells; nothing of them is frozen (but a row of bytes may bear the mark of a text's copy behind its last cell). -/
def CellsAt (w : World) (g : Nat) (cur : Array Value) (t : TypeId) : Prop := ∃ fz : Nat × Nat, w.heap[g]? = some (.cells cur t fz) ∧ (fz.2 ≤ fz.1 ∨ (cur.size ≤ fz.1 ∧ t = TB))
section
variable {w w' : World} {g : Nat} {cur cs : Array Value} {t : TypeId}
theorem CellsAt.lt (h : CellsAt w g cur t) : g < w.heap.size := by
  obtain ⟨fz, h, _⟩ := h
  exact (Array.getElem?_eq_some_iff.1 h).1
theorem CellsAt.cell (h : CellsAt w g cur t) (o : Nat) : w.cell? ⟨g, o, none⟩ = cur[o]? := by
  obtain ⟨fz, h, _⟩ := h
  exact cell_of_row w g o cur t fz h
theorem CellsAt.keep (h : CellsAt w g cur t) (hk : w'.heap[g]? = w.heap[g]?) : CellsAt w' g cur t := by
  obtain ⟨fz, h, hz⟩ := h
  exact ⟨fz, hk.trans h, hz⟩
theorem CellsAt.setRow (h : CellsAt w g cur t) (hs : cs.size = cur.size) : CellsAt (w.setRow g cs) g cs t := by
  obtain ⟨fz, h, hz⟩ := h
  exact ⟨fz, setRow_heap w g cur cs t fz h, by rw [hs]; exact hz⟩
theorem CellsAt.new (w : World) (cur : Array Value) (t : TypeId) : CellsAt (w.alloc (.cells cur t)) w.heap.size cur t := ⟨(0, 0), heap_alloc_new w _, .inl (Nat.le_refl _)⟩
theorem CellsAt.unfrozen (h : CellsAt w g cur t) {o : Nat} (ho : o < cur.size ∨ t ≠ TB) : w.frozen? ⟨g, o, none⟩ = false := by
  obtain ⟨⟨lo, hi⟩, h, hz⟩ := h
  simp only [World.frozen?, h, Bool.and_eq_false_iff, decide_eq_false_iff_not]
  simp only at hz
  rcases hz with hz | ⟨hz, ht⟩
  · omega
  · rcases ho with ho | ho
    · omega
    · exact absurd ht ho
end
theorem run_storeCells_R (P : Program) (g o : Nat) (t : TypeId) : ∀ (vs : List Value) (i : Nat) (cur : Array Value) (w : World), CellsAt w g cur t → o + i + vs.length ≤ cur.size → (∀ v ∈ vs, v.oneCell' = true) →
    (storeCells ⟨g, o, none⟩ vs i).run P w = .ok () (w.setRow g (cur.toList.take (o + i) ++ vs ++ cur.toList.drop (o + i + vs.length)).toArray)
  | [], i, cur, w, hg, _, _ => by
    obtain ⟨fz, hg, _⟩ := hg
    simp only [storeCells, List.append_nil, List.length_nil, Nat.add_zero, List.take_append_drop, Array.toArray_toList]
    rw [setRow_self w g cur t fz hg]
    rfl
  | v :: rest, i, cur, w, hg, hl, h1 => by
    have hi : o + i < cur.size := by simp at hl; omega
    have hadd : (⟨g, o, none⟩ : Addr).add i = ⟨g, o + i, none⟩ := by unfold Addr.add; split <;> simp_all
    have hcell : w.cell? ⟨g, o + i, none⟩ = some cur[o + i] := by rw [hg.cell]; simp [hi]
    have hfro : w.frozen? ⟨g, o + i, none⟩ = false := hg.unfrozen (.inl hi)
    have hgg := hg
    obtain ⟨fz, hg', _⟩ := hgg
    have hst : (store ((⟨g, o, none⟩ : Addr).add i) v).run P w = .ok () (w.setRow g (cur.setIfInBounds (o + i) v)) := by
      rw [hadd, run_store P w _ v _ (h1 v (by simp)), hcell]
      simp [hfro, setCell_eq_setRow w g (o + i) cur t fz v hg']
    have ih := run_storeCells_R P g o t rest (i + 1) (cur.setIfInBounds (o + i) v) (w.setRow g (cur.setIfInBounds (o + i) v)) (hg.setRow (by simp)) (by simp at hl ⊢; omega) (fun x hx => h1 x (by simp [hx]))
    simp only [storeCells, Sem.run_bind, hst, Result.andThen_ok, ih, setRow_setRow]
    congr 3
    have e := list_seg_step cur.toList (o + i) v rest (by simp at hl ⊢; omega)
    simpa [Array.toList_setIfInBounds, Nat.add_assoc] using e
/-- A slice value that owns its cells. -/
def World.ownsR (w : World) (base : Nat) (e : TypeId) (size : Nat) (v : Value) (n : Nat) (xs : List Value) : Prop :=
  xs.length = n * size ∧
  ((v = .slice none 0 0 ∧ n = 0) ∨
   ∃ g cap cur, v = .slice (some ⟨g, 0, none⟩) n cap ∧ base ≤ g ∧ CellsAt w g cur e ∧ n ≤ cap ∧ cap ≤ maxLen ∧ cap * size ≤ cur.size ∧ cur.toList.take (n * size) = xs)
theorem World.ownsR.lt {w : World} {base : Nat} {e : TypeId} {size : Nat} {v : Value} {n : Nat} {xs : List Value} (h : World.ownsR w base e size v n xs) : ∀ k, v.ownBlock = some k → base ≤ k ∧ k < w.heap.size := by
  intro k hk
  rcases h.2 with ⟨rfl, _⟩ | ⟨g, cap, cur, rfl, hb, hg, _⟩
  · simp [Value.ownBlock] at hk
  · simp [Value.ownBlock] at hk
    subst hk
    exact ⟨hb, hg.lt⟩
theorem World.ownsR.of {w : World} {base : Nat} {e : TypeId} {size : Nat} {v : Value} {n : Nat} {xs : List Value} (h : w.ownsRow base e size v n xs) : World.ownsR w base e size v n xs := by
  refine ⟨h.1, ?_⟩
  rcases h.2 with h | ⟨g, cap, cur, hv, hb, hg, r1, r2, r3, r4⟩
  · exact .inl h
  · exact .inr ⟨g, cap, cur, hv, hb, ⟨(0, 0), hg, .inl (Nat.le_refl _)⟩, r1, r2, Nat.le_of_eq r3.symm, r4⟩

/-- A row behind a slice value, told. -/
structure RD where
  v : Value
  t : Nat
  k : Nat
  n : Nat
  cs : List Value
/-- What the call owns: a block known whole, a row behind a slice value, or some rows. -/
inductive Res where
  | blk (b : Nat) (o : Obj)
  | row (v : Value) (t k n : Nat) (cs : List Value)
  | rows (rs : List RD)
def RD.res (r : RD) : Res := .row r.v r.t r.k r.n r.cs

def Res.ids : Res → List Nat
  | .blk b _ => [b]
  | .row v _ _ _ _ => v.ownBlock.toList
  | .rows rs => rs.flatMap (fun r => r.v.ownBlock.toList)

def Res.holds (w : World) : Res → Prop
  | .blk b o => w.heap[b]? = some o
  | .row v t k n cs => World.ownsR w 0 t k v n cs
  | .rows rs => ∀ r ∈ rs, World.ownsR w 0 r.t r.k r.v r.n r.cs

def idsOf (L : List Res) : List Nat := L.flatMap Res.ids

theorem idsOf_cons (r : Res) (L : List Res) : idsOf (r :: L) = r.ids ++ idsOf L := by simp [idsOf]
theorem idsOf_append (L M : List Res) : idsOf (L ++ M) = idsOf L ++ idsOf M := by simp [idsOf]
theorem mem_idsOf {L : List Res} {i : Nat} : i ∈ idsOf L ↔ ∃ r ∈ L, i ∈ r.ids := by simp [idsOf]

theorem Res.lt {w : World} {r : Res} (h : r.holds w) : ∀ i ∈ r.ids, i < w.heap.size := by
  intro i hi
  cases r with
  | blk b o =>
    simp only [Res.ids, List.mem_singleton] at hi
    subst hi
    exact (Array.getElem?_eq_some_iff.1 h).1
  | row v t k n cs =>
    simp only [Res.ids, Option.mem_toList] at hi
    exact (World.ownsR.lt h i hi).2
  | rows rs =>
    simp only [Res.ids, List.mem_flatMap, Option.mem_toList] at hi
    obtain ⟨q, hq, hi⟩ := hi
    exact (World.ownsR.lt (h q hq) i hi).2

theorem World.ownsR.same {w w' : World} {t k n : Nat} {v : Value} {cs : List Value} (h : World.ownsR w 0 t k v n cs) (hs : ∀ i, v.ownBlock = some i → w'.heap[i]? = w.heap[i]?) : World.ownsR w' 0 t k v n cs := by
  refine ⟨h.1, ?_⟩
  rcases h.2 with hn | ⟨g, cap, cur, rfl, hb, hgg, rest⟩
  · exact .inl hn
  · exact .inr ⟨g, cap, cur, rfl, hb, hgg.keep (hs g (by simp [Value.ownBlock])), rest⟩
/-- A resource that lies outside what turned still holds. -/
theorem Res.holds_of_same {w w' : World} {r : Res} (h : r.holds w) (hs : ∀ i ∈ r.ids, w'.heap[i]? = w.heap[i]?) : r.holds w' := by
  cases r with
  | blk b o => simp only [Res.holds] at *; rw [hs b (by simp [Res.ids])]; exact h
  | row v t k n cs =>
    simp only [Res.holds] at *
    refine ⟨h.1, ?_⟩
    rcases h.2 with hn | ⟨g, cap, cur, rfl, hb, hgg, rest⟩
    · exact .inl hn
    · refine .inr ⟨g, cap, cur, rfl, hb, ?_, rest⟩
      exact hgg.keep (hs g (by simp [Res.ids, Value.ownBlock]))
  | rows rs =>
    intro q hq
    refine World.ownsR.same (h q hq) fun i hi => hs i ?_
    simp only [Res.ids, List.mem_flatMap, Option.mem_toList]
    exact ⟨q, hq, hi⟩

/-- The resources hold, and no block is owned twice. -/
structure Has (L : List Res) (w : World) : Prop where
  holds : ∀ r ∈ L, r.holds w
  nodup : (idsOf L).Nodup
  low : ∀ i ∈ idsOf L, GB ≤ i
  room : GB ≤ w.heap.size
  glob : Glob w

/-- Since w0 nothing has turned but the blocks D and new ones; of these the resources L are known. -/
structure St (w0 : World) (D : List Nat) (L : List Res) (w : World) : Prop extends Has L w where
  os : w.os = w0.os
  tape : w.tape = w0.tape
  output : w.output = w0.output
  size : w0.heap.size ≤ w.heap.size
  fresh : ∀ i ∈ idsOf L, i ∈ D ∨ w0.heap.size ≤ i
  keep : ∀ k, k < w0.heap.size → k ∉ D → w.heap[k]? = w0.heap[k]?

theorem St.start {L : List Res} {w : World} (h : Has L w) : St w (idsOf L) L w :=
  ⟨h, rfl, rfl, rfl, Nat.le_refl _, fun _ hi => .inl hi, fun _ _ _ => rfl⟩

theorem idsOf_sublist {L M : List Res} (hs : M.Sublist L) : (idsOf M).Sublist (idsOf L) := by
  induction hs with
  | slnil => exact List.Sublist.refl _
  | cons r _ ih => rw [idsOf_cons]; exact ih.trans (List.sublist_append_right _ _)
  | cons_cons r _ ih => rw [idsOf_cons, idsOf_cons]; exact List.Sublist.append (List.Sublist.refl _) ih

theorem idsOf_perm {L M : List Res} (hs : M.Perm L) : (idsOf M).Perm (idsOf L) := by
  unfold idsOf
  exact List.Perm.flatMap_right _ hs

theorem Has.sub {L M : List Res} {w : World} (h : Has L w) (hs : M.Sublist L) : Has M w :=
  ⟨fun r hr => h.holds r (hs.subset hr), List.Nodup.sublist (idsOf_sublist hs) h.nodup, fun i hi => h.low i ((idsOf_sublist hs).subset hi), h.room, h.glob⟩

theorem Has.perm {L M : List Res} {w : World} (h : Has L w) (hs : M.Perm L) : Has M w :=
  ⟨fun r hr => h.holds r (hs.subset hr), (idsOf_perm hs).nodup_iff.2 h.nodup, fun i hi => h.low i ((idsOf_perm hs).subset hi), h.room, h.glob⟩

section
variable {w0 w w' : World} {D : List Nat} {L M : List Res}

theorem St.sub (h : St w0 D L w) (hs : M.Sublist L) : St w0 D M w :=
  { h with toHas := h.toHas.sub hs, fresh := fun i hi => h.fresh i ((idsOf_sublist hs).subset hi) }

theorem St.perm (h : St w0 D L w) (hs : M.Perm L) : St w0 D M w :=
  { h with toHas := h.toHas.perm hs, fresh := fun i hi => h.fresh i ((idsOf_perm hs).subset hi) }

theorem St.lt (h : St w0 D L w) : ∀ i ∈ idsOf L, i < w.heap.size := fun i hi => by
  obtain ⟨r, hr, hir⟩ := mem_idsOf.1 hi
  exact Res.lt (h.holds r hr) i hir

/-- The general step: the resources A are turned into A'; all else stays. -/
theorem St.turn {A A' F : List Res} (h : St w0 D L w) (hp : L.Perm (A ++ F)) (hos : w'.os = w.os) (htape : w'.tape = w.tape) (hout : w'.output = w.output)
    (hsize : w.heap.size ≤ w'.heap.size) (hkeep : ∀ k, k < w.heap.size → k ∉ idsOf A → w'.heap[k]? = w.heap[k]?)
    (hA : ∀ r ∈ A', r.holds w') (hAn : (idsOf A').Nodup) (hfresh : ∀ i ∈ idsOf A', i ∈ idsOf A ∨ w.heap.size ≤ i) : St w0 D (A' ++ F) w' := by
  have h2 : St w0 D (A ++ F) w := h.perm hp.symm
  have hnd := h2.nodup
  rw [idsOf_append] at hnd
  obtain ⟨_, hF, hdis⟩ := List.nodup_append.1 hnd
  have hlt := h2.lt
  have hFin : ∀ r ∈ F, r.holds w' := fun r hr => Res.holds_of_same (h2.holds r (List.mem_append_right _ hr)) fun i hi =>
    hkeep i (Res.lt (h2.holds r (List.mem_append_right _ hr)) i hi) fun hiA => hdis i hiA i (mem_idsOf.2 ⟨r, hr, hi⟩) rfl
  have hlow : ∀ i ∈ idsOf A', GB ≤ i := fun i hi => by
    rcases hfresh i hi with hiA | hge
    · exact h2.low i (by rw [idsOf_append]; exact List.mem_append_left _ hiA)
    · exact Nat.le_trans h.room hge
  have hkeepLow : ∀ k, k < GB → w'.heap[k]? = w.heap[k]? := fun k hk => hkeep k (Nat.lt_of_lt_of_le hk h.room) fun hkA => by
    have := h2.low k (by rw [idsOf_append]; exact List.mem_append_left _ hkA)
    omega
  refine ⟨⟨fun r hr => ?_, ?_, fun i hi => ?_, Nat.le_trans h.room hsize, h.glob.keep hkeepLow⟩, hos.trans h.os, htape.trans h.tape, hout.trans h.output, Nat.le_trans h.size hsize, fun i hi => ?_, fun k hk hkD => ?_⟩
  · rcases List.mem_append.1 hr with hr | hr
    · exact hA r hr
    · exact hFin r hr
  · rw [idsOf_append]
    refine List.nodup_append.2 ⟨hAn, hF, fun i hi j hj hij => ?_⟩
    subst hij
    rcases hfresh i hi with hiA | hge
    · exact hdis i hiA i hj rfl
    · exact absurd (hlt i (by rw [idsOf_append]; exact List.mem_append_right _ hj)) (by omega)
  · rw [idsOf_append] at hi
    rcases List.mem_append.1 hi with hi | hi
    · exact hlow i hi
    · exact h2.low i (by rw [idsOf_append]; exact List.mem_append_right _ hi)
  · rw [idsOf_append] at hi
    rcases List.mem_append.1 hi with hi | hi
    · rcases hfresh i hi with hiA | hge
      · exact h2.fresh i (by rw [idsOf_append]; exact List.mem_append_left _ hiA)
      · exact .inr (Nat.le_trans h.size hge)
    · exact h2.fresh i (by rw [idsOf_append]; exact List.mem_append_right _ hi)
  · rw [hkeep k (Nat.lt_of_lt_of_le hk h.size) fun hkA => ?_]
    · exact h.keep k hk hkD
    · rcases h2.fresh k (by rw [idsOf_append]; exact List.mem_append_left _ hkA) with hd | hge
      · exact hkD hd
      · omega

/-- What a reader needs of a world. -/
structure Qw (w0 : World) (D : List Nat) (L : List Res) (w : World) : Prop where
  holds : ∀ r ∈ L, r.holds w
  keep : ∀ k, k < w0.heap.size → k ∉ D → w.heap[k]? = w0.heap[k]?

theorem St.qw (h : St w0 D L w) : Qw w0 D L w := ⟨h.holds, h.keep⟩
theorem Qw.sub (h : Qw w0 D L w) (hs : ∀ r ∈ M, r ∈ L) : Qw w0 D M w := ⟨fun r hr => h.holds r (hs r hr), h.keep⟩
theorem Qw.get {i : Nat} {r : Res} (h : Qw w0 D L w) (hL : L[i]? = some r) : r.holds w := h.holds r (List.mem_of_getElem? hL)

theorem St.drew (h : St w0 D L w) : St w0 D L w.drew :=
  ⟨⟨fun r hr => Res.holds_of_same (h.holds r hr) fun _ _ => rfl, h.nodup, h.low, h.room, h.glob.keep fun _ _ => rfl⟩, h.os, h.tape, h.output, h.size, h.fresh, h.keep⟩

/-- Some rows are as good as each of them. -/
theorem idsOf_rows (rs : List RD) (L : List Res) : idsOf (.rows rs :: L) = idsOf (rs.map RD.res ++ L) := by
  rw [idsOf_cons, idsOf_append]
  congr 1
  simp only [Res.ids, idsOf, List.flatMap_map]
  rfl
theorem St.openRows {rs : List RD} (h : St w0 D (.rows rs :: L) w) : St w0 D (rs.map RD.res ++ L) w :=
  { h with
    toHas := ⟨fun r hr => by
      rcases List.mem_append.1 hr with hr | hr
      · obtain ⟨q, hq, rfl⟩ := List.mem_map.1 hr
        exact h.holds _ (List.mem_cons_self ..) q hq
      · exact h.holds r (List.mem_cons_of_mem _ hr), by rw [← idsOf_rows]; exact h.nodup, by rw [← idsOf_rows]; exact h.low, h.room, h.glob⟩
    fresh := by rw [← idsOf_rows]; exact h.fresh }
theorem St.closeRows {rs : List RD} (h : St w0 D (rs.map RD.res ++ L) w) : St w0 D (.rows rs :: L) w :=
  { h with
    toHas := ⟨fun r hr => by
      rcases List.mem_cons.1 hr with rfl | hr
      · exact fun q hq => h.holds _ (List.mem_append_left _ (List.mem_map.2 ⟨q, hq, rfl⟩))
      · exact h.holds r (List.mem_append_right _ hr), by rw [idsOf_rows]; exact h.nodup, by rw [idsOf_rows]; exact h.low, h.room, h.glob⟩
    fresh := by rw [idsOf_rows]; exact h.fresh }
/-- A new block. -/
theorem St.alloc (h : St w0 D L w) (o : Obj) : St w0 D (.blk w.heap.size o :: L) (w.alloc o) := by
  refine h.turn (A := []) (A' := [.blk w.heap.size o]) (F := L) (List.Perm.refl _) rfl rfl rfl (by simp) (fun k hk _ => Below.heap_alloc _ _ _ hk) ?_ ?_ ?_
  · intro r hr
    simp only [List.mem_singleton] at hr
    subst hr
    exact heap_alloc_new w o
  · simp [idsOf, Res.ids]
  · intro i hi
    simp only [idsOf, Res.ids, List.flatMap_cons, List.flatMap_nil, List.append_nil, List.mem_singleton] at hi
    exact .inr (by omega)

theorem perm_set (i : Nat) (r r' : Res) (hL : L[i]? = some r) : L.Perm ([r] ++ L.eraseIdx i) ∧ (L.set i r').Perm ([r'] ++ L.eraseIdx i) := by
  induction L generalizing i with
  | nil => simp at hL
  | cons a L ih =>
    cases i with
    | zero => simp at hL; subst hL; exact ⟨List.Perm.refl _, List.Perm.refl _⟩
    | succ i =>
      simp only [List.getElem?_cons_succ] at hL
      obtain ⟨h1, h2⟩ := ih i hL
      refine ⟨?_, ?_⟩
      · simp only [List.eraseIdx_cons_succ, List.singleton_append]
        exact ((List.Perm.cons a h1).trans (List.Perm.swap r a _))
      · simp only [List.set_cons_succ, List.eraseIdx_cons_succ, List.singleton_append]
        exact ((List.Perm.cons a h2).trans (List.Perm.swap r' a _))

theorem perm_erase (i : Nat) (r : Res) (hL : L[i]? = some r) : L.Perm (r :: L.eraseIdx i) := (perm_set i r r hL).1

/-- One resource turned in its place. -/
theorem St.turn1 {r r' : Res} {i : Nat} (h : St w0 D L w) (hL : L[i]? = some r) (hos : w'.os = w.os) (htape : w'.tape = w.tape) (hout : w'.output = w.output)
    (hsize : w.heap.size ≤ w'.heap.size) (hkeep : ∀ k, k < w.heap.size → k ∉ r.ids → w'.heap[k]? = w.heap[k]?)
    (hr : r'.holds w') (hnd : r'.ids.Nodup) (hfresh : ∀ i ∈ r'.ids, i ∈ r.ids ∨ w.heap.size ≤ i) : St w0 D (L.set i r') w' := by
  obtain ⟨h1, h2⟩ := perm_set i r r' hL
  have e1 : idsOf [r] = r.ids := by simp [idsOf]
  have e2 : idsOf [r'] = r'.ids := by simp [idsOf]
  refine (h.turn (A := [r]) (A' := [r']) h1 hos htape hout hsize (by rw [e1]; exact hkeep) ?_ (by rw [e2]; exact hnd) (by rw [e1, e2]; exact hfresh)).perm h2
  intro x hx
  simp only [List.mem_singleton] at hx
  subst hx
  exact hr

theorem St.get {i : Nat} {r : Res} (h : St w0 D L w) (hL : L[i]? = some r) : r.holds w := h.holds r (List.mem_of_getElem? hL)

end

/- ---- judgements ---- -/

section
variable {P : Program} {ops : Array Oper} {Q : Exit → Act → World → Prop} {n : Nat} {w0 : World} {D : List Nat} {L : List Res} {e : Env}

/-- A list of operations. -/
def JL (P : Program) (ops : Array Oper) (Q : Exit → Act → World → Prop) (n : Nat) (w0 : World) (D : List Nat) (L : List Res) (l : List Oper) (e : Env) : Prop :=
  ∀ w, St w0 D L w → wpList P ops Q l (act n e) w

/-- A piece of code. -/
def JC (P : Program) (Q : Exit → Act → World → Prop) (n : Nat) (w0 : World) (D : List Nat) (L : List Res) (c : Code) (e : Env) : Prop :=
  ∀ w, St w0 D L w → c.wp P Q (act n e) w

/-- An exit. -/
def JQ (Q : Exit → Act → World → Prop) (x : Exit) (n : Nat) (w0 : World) (D : List Nat) (L : List Res) (e : Env) : Prop :=
  ∀ w, St w0 D L w → Q x (act n e) w

/-- What a single operation does: it yields v and leaves the resources L'. -/
def JO (P : Program) (n : Nat) (w0 : World) (D : List Nat) (L : List Res) (e : Env) (o : Oper) (Φ : Value → List Res → Prop) : Prop :=
  ∀ w, St w0 D L w → ∀ (K : Act → World → Prop) (Q : Exit → Act → World → Prop), (∀ v L' w', Φ v L' → St w0 D L' w' → K (act n (updO e o.dst v)) w') → o.wp P (act n e) w K Q

/-- An operation that yields v and leaves the world as it is, whatever it is. -/
def PO (P : Program) (n : Nat) (e : Env) (o : Oper) (v : Value) : Prop := ∀ w, (execOp (rd n e) o).run P w = .ok (.value v) w

/-- An operation that yields v wherever the resources L hold, and leaves the world as it is. -/
def LO (P : Program) (n : Nat) (w0 : World) (D : List Nat) (L : List Res) (e : Env) (o : Oper) (v : Value) : Prop := ∀ w, Qw w0 D L w → (execOp (rd n e) o).run P w = .ok (.value v) w

theorem jf {o : Oper} {v : Value} (h : PO P n e o v) : LO P n w0 D L e o v := fun w _ => h w
theorem ja {o : Oper} {v : Value} (h : LO P n w0 D L e o v) : JO P n w0 D L e o (fun u L' => u = v ∧ L' = L) := fun w hw K Q hK => by
  unfold Oper.wp
  rw [act_eval', h w hw.qw, Oper.upon_value, act_put]
  exact hK v L w ⟨rfl, rfl⟩ hw

/-- What the resources tell of the values. -/
theorem kc {l : List Oper} (h : (∃ w, St w0 D L w) → JL P ops Q n w0 D L l e) : JL P ops Q n w0 D L l e := fun w hw => h ⟨w, hw⟩ w hw
theorem JC.facts {c : Code} (h : (∃ w, St w0 D L w) → JC P Q n w0 D L c e) : JC P Q n w0 D L c e := fun w hw => h ⟨w, hw⟩ w hw
theorem JQ.facts {x : Exit} (h : (∃ w, St w0 D L w) → JQ Q x n w0 D L e) : JQ Q x n w0 D L e := fun w hw => h ⟨w, hw⟩ w hw

theorem jD (h : JQ Q .normal n w0 D L e) : JL P ops Q n w0 D L [] e := fun w hw => wpList_nil (h w hw)

theorem jH {o : Oper} {rest : List Oper} {Φ : Value → List Res → Prop} (hg : o.guard = none) (ho : JO P n w0 D L e o Φ)
    (h : ∀ v L', Φ v L' → JL P ops Q n w0 D L' rest (updO e o.dst v)) : JL P ops Q n w0 D L (o :: rest) e := fun w hw =>
  wpList_plain hg fun K hK => ho w hw K Q fun v L' w' hΦ hw' => hK _ _ (h v L' hΦ w' hw')

theorem JO.pure {o : Oper} {v : Value} (h : (∃ w, St w0 D L w) → PO P n e o v) : JO P n w0 D L e o (fun u L' => u = v ∧ L' = L) := fun w hw K Q hK => by
  unfold Oper.wp
  rw [act_eval', h ⟨w, hw⟩ w, Oper.upon_value, act_put]
  exact hK v L w ⟨rfl, rfl⟩ hw

theorem jd {o : Oper} {rest : List Oper} {v : Value} (hg : o.guard = none) (ho : PO P n e o v)
    (h : JL P ops Q n w0 D L rest (updO e o.dst v)) : JL P ops Q n w0 D L (o :: rest) e :=
  jH hg (JO.pure fun _ => ho) fun _ _ ⟨hv, hL⟩ => by subst hv; subst hL; exact h

theorem km {o : Oper} {rest : List Oper} {v : Value} (hg : o.guard = none) (ho : LO P n w0 D L e o v)
    (h : JL P ops Q n w0 D L rest (updO e o.dst v)) : JL P ops Q n w0 D L (o :: rest) e :=
  jH hg (ja ho) fun _ _ ⟨hv, hL⟩ => by subst hv; subst hL; exact h

/-- A guard that says yes, and one that says no. -/
theorem jZ {o : Oper} {rest : List Oper} {Φ : Value → List Res → Prop} {j : Nat} {b : Bool} {t : Tmp} (hg : o.guard = some (j, b)) (hj : (ops[j]?).bind (·.dst) = some t) (ht : Nat.blt t n = true) (hv : e t = .bool b)
    (ho : JO P n w0 D L e o Φ) (h : ∀ v L', Φ v L' → JL P ops Q n w0 D L' rest (updO e o.dst v)) : JL P ops Q n w0 D L (o :: rest) e := fun w hw => by
  have hlt : t < n := (Nat.blt_eq (x := t) (y := n)) ▸ ht
  have hy : yielded ops (act n e).tmps j = some b := by simp [yielded, hj, act, hlt, hv]
  refine wpList_step fun K hK => ?_
  rw [if_pos (by simp [Region.wanted, hg, hy])]
  exact ho w hw K Q fun v L' w' hΦ hw' => hK _ _ (h v L' hΦ w' hw')

theorem jS {o : Oper} {rest : List Oper} {j : Nat} {b : Bool} {t : Tmp} (hg : o.guard = some (j, !b)) (hj : (ops[j]?).bind (·.dst) = some t) (ht : Nat.blt t n = true) (hv : e t = .bool b)
    (h : JL P ops Q n w0 D L rest (updO e o.dst undef)) : JL P ops Q n w0 D L (o :: rest) e := fun w hw => by
  have hlt : t < n := (Nat.blt_eq (x := t) (y := n)) ▸ ht
  have hy : yielded ops (act n e).tmps j = some b := by simp [yielded, hj, act, hlt, hv]
  refine wpList_step fun K hK => ?_
  rw [if_neg (by cases b <;> simp [Region.wanted, hg, hy]), act_put]
  exact hK _ _ (h w hw)

theorem JL.perm {l : List Oper} {L' : List Res} (hL : L'.Perm L) (h : JL P ops Q n w0 D L' l e) : JL P ops Q n w0 D L l e := fun w hw => h w (hw.perm hL)
theorem JQ.sub {x : Exit} {L' : List Res} (hL : L'.Sublist L) (h : JQ Q x n w0 D L' e) : JQ Q x n w0 D L e := fun w hw => h w (hw.sub hL)
theorem kR {x : Exit} {L' : List Res} (hL : L'.Perm L) (h : JQ Q x n w0 D L' e) : JQ Q x n w0 D L e := fun w hw => h w (hw.perm hL)
theorem JC.sub {c : Code} {L' : List Res} (hL : L'.Sublist L) (h : JC P Q n w0 D L' c e) : JC P Q n w0 D L c e := fun w hw => h w (hw.sub hL)
theorem JC.perm {c : Code} {L' : List Res} (hL : L'.Perm L) (h : JC P Q n w0 D L' c e) : JC P Q n w0 D L c e := fun w hw => h w (hw.perm hL)

theorem jE {id : Nat} {l : List Oper} (h : JL P l.toArray Q n w0 D L l e) : JC P Q n w0 D L (.region id l.toArray false) e := fun w hw => wp_region_lit (h w hw)
theorem jC {x y : Code} (h : JC P (Exit.then (y.wp P Q) Q) n w0 D L x e) : JC P Q n w0 D L (.seq x y) e := fun w hw => wp_seq (h w hw)
theorem jB {y : Code} (h : JC P Q n w0 D L y e) : JQ (Exit.then (y.wp P Q) Q) .normal n w0 D L e := fun w hw => h w hw
theorem jj {K : Act → World → Prop} {id : Nat} (h : JQ Q (.exit id) n w0 D L e) : JQ (Exit.then K Q) (.exit id) n w0 D L e := h
theorem jW {K : Act → World → Prop} (h : JQ Q .ret n w0 D L e) : JQ (Exit.then K Q) .ret n w0 D L e := h
theorem jU (h : JQ Q .normal n w0 D L e) : JC P Q n w0 D L .skip e := fun w hw => wp_skip (h w hw)
theorem jz {id : Nat} (h : JQ Q (.exit id) n w0 D L e) : JC P Q n w0 D L (.exit id) e := fun w hw => wp_exit (h w hw)
theorem jL (h : JQ Q .ret n w0 D L e) : JC P Q n w0 D L .ret e := fun w hw => wp_ret (h w hw)
theorem jO {c : Operand} {x y : Code} (hc : rd n e c = .bool true) (h : JC P Q n w0 D L x e) : JC P Q n w0 D L (.cond c x y) e := fun w hw => wp_cond_true (by rw [act_eval]; exact hc) (h w hw)
theorem jP {c : Operand} {x y : Code} (hc : rd n e c = .bool false) (h : JC P Q n w0 D L y e) : JC P Q n w0 D L (.cond c x y) e := fun w hw => wp_cond_false (by rw [act_eval]; exact hc) (h w hw)
theorem jg {id : Nat} {c : Code} (h : JC P (Exit.inBlock id Q) n w0 D L c e) : JC P Q n w0 D L (.block id c) e := fun w hw => wp_block (h w hw)
theorem jk {id : Nat} (h : JQ Q .normal n w0 D L e) : JQ (Exit.inBlock id Q) .normal n w0 D L e := fun w hw => h w hw
theorem kA {id : Nat} (h : JQ Q .normal n w0 D L e) : JQ (Exit.inBlock id Q) (.exit id) n w0 D L e := fun w hw => by
  have := h w hw
  simpa [Exit.inBlock] using this
theorem jq {id : Nat} (h : JQ Q .ret n w0 D L e) : JQ (Exit.inBlock id Q) .ret n w0 D L e := fun w hw => h w hw

/-- The end of a round: the relation holds again, at a smaller count. -/
def Again (n : Nat) (w0 : World) (D : List Nat) (I : Nat → Env → List Res → Prop) (k : Nat) (a : Act) (w : World) : Prop :=
  ∃ k' e' L', k' < k ∧ a = act n e' ∧ St w0 D L' w ∧ I k' e' L'

theorem ju {I : Nat → Env → List Res → Prop} {k : Nat} (k' : Nat) (hk : k' < k) (h : I k' e L) : JQ (Exit.then (Again n w0 D I k) Q) .normal n w0 D L e :=
  fun _ hw => ⟨k', e, L, hk, rfl, hw, h⟩

theorem kC {c : Code} (I : Nat → Env → List Res → Prop) (k : Nat) (h0 : I k e L)
    (round : ∀ k e L, I k e L → JC P (Exit.then (Again n w0 D I k) Q) n w0 D L c e) : JC P Q n w0 D L (.loop c) e := by
  have key : ∀ m k, k < m → ∀ e L w, I k e L → St w0 D L w → Code.rounds P c Q m (act n e) w := by
    intro m
    induction m with
    | zero => intro k hk; omega
    | succ m ih =>
      intro k hk e L w hI hw
      rw [rounds_succ]
      refine wp_mono (round k e L hI w hw) fun x a w' hq => ?_
      cases x with
      | normal =>
        obtain ⟨k', e', L', hk', rfl, hw', hI'⟩ := hq
        exact ih k' (by omega) e' L' w' hI' hw'
      | _ => exact hq
  exact fun w hw => wp_loop_rounds (k + 1) (key (k + 1) k (by omega) e L w h0 hw)

/-- What a function does: called with these arguments, the resources A at hand, it returns v and leaves A'; of what else was there nothing has turned. -/
def Ct (P : Program) (f : FuncId) (args : List Value) (A : List Res) (Pre : World → Prop) (Post : Value → List Res → Prop) : Prop :=
  ∀ w, Has A w → Pre w → Calls P f args.toArray w (fun e w' => ∃ v A', e = .returned v ∧ Post v A' ∧ St w (idsOf A) A' w')

/-- The end of a body. -/
def Done (w0 : World) (D : List Nat) (Post : Value → List Res → Prop) (e : Ending) (w : World) : Prop :=
  ∃ v A', e = .returned v ∧ Post v A' ∧ St w0 D A' w

def argEnv (l : List Value) : Env := fun i => l.getD i undef

theorem act_args (n : Nat) (l : List Value) (h : l.length ≤ n) : ({ tmps := l.toArray ++ Array.replicate (n - l.toArray.size) undef, defers := [] } : Act) = act n (argEnv l) := by
  simp only [act, argEnv]
  congr 1
  apply Array.ext
  · simp; omega
  · intro i h1 h2
    simp only [Array.getElem_ofFn, Array.getElem_append, List.size_toArray, List.getElem_toArray, Array.getElem_replicate, List.getD_eq_getElem?_getD]
    split
    · rename_i hi; simp [hi]
    · rename_i hi; simp [List.getElem?_eq_none (by omega : l.length ≤ i)]

theorem Ct.intro {f : FuncId} {fn : Func} {c : Code} {args : List Value} {A : List Res} {Pre : World → Prop} {Post : Value → List Res → Prop}
    (hf : P.funcs[f]? = some fn) (hb : fn.body = some c) (hn : fn.ntmps = n) (hle : args.length ≤ n)
    (h : ∀ w0, Pre w0 → JC P (bodyPost P fn (Done w0 (idsOf A) Post)) n w0 (idsOf A) A c (argEnv args)) : Ct P f args A Pre Post := fun w hA hpre => by
  refine calls_of_wp hf hb ?_
  rw [hn, act_args n args hle]
  exact h w hpre w (St.start hA)

end

end Go.Proofs.YtghfijncihbojaaGreat

set_option linter.unusedSimpArgs false
set_option linter.unusedVariables false
set_option linter.unnecessarySimpa false
namespace Go.Proofs.YtghfijncihbojaaGreat
open Go Go.RowKit

section
variable {P : Program} {ops : Array Oper} {Q : Exit → Act → World → Prop} {n : Nat} {w0 : World} {D : List Nat} {L : List Res} {e : Env}
variable {d : Option Tmp} {ty : TypeId} {pos : String} {aft : Array Edge} {gd : Option (Nat × Bool)}

theorem beq_dec {α : Type} [BEq α] [LawfulBEq α] [DecidableEq α] (a b : α) : (a == b) = decide (a = b) := by by_cases h : a = b <;> simp [h]

/- ---- operations that only reckon ---- -/
theorem jF {x : Operand} {v : Value} (hx : rd n e x = v) : PO P n e ⟨d, .move x, ty, pos, aft, gd⟩ v := fun w => by simp [execOp, hx]
theorem jG {x : Operand} {v : Value} (hx : rd n e x = v) : PO P n e ⟨d, .assign x, ty, pos, aft, gd⟩ v := fun w => by simp [execOp, hx]
theorem kG {c x y : Operand} {v : Value} (hc : rd n e c = .bool true) (hx : rd n e x = v) : PO P n e ⟨d, .pick c x y, ty, pos, aft, gd⟩ v := fun w => by simp [execOp, hc, hx, asBool]
theorem jv {c x y : Operand} {v : Value} (hc : rd n e c = .bool false) (hy : rd n e y = v) : PO P n e ⟨d, .pick c x y, ty, pos, aft, gd⟩ v := fun w => by simp [execOp, hc, hy, asBool]
theorem PO.nilCheck {x : Operand} {a : Addr} (hx : rd n e x = .pointer (some a)) : PO P n e ⟨d, .nilCheck x, ty, pos, aft, gd⟩ (.pointer (some a)) := fun w => by simp [execOp, hx]
theorem PO.makeFunc {fn : Fn} {f c : Array Operand} {fv cv : List Value} (hf : f.toList.map (rd n e) = fv) (hc : c.toList.map (rd n e) = cv) :
    PO P n e ⟨d, .makeFunc fn f c, ty, pos, aft, gd⟩ (.func fn fv.toArray cv.toArray) := fun w => by
  subst hf; subst hc
  simp [execOp, Instr.makeFunc]
  constructor <;> (apply Array.ext'; simp)
theorem jb {x : Operand} {vs : Array Value} {i : Nat} {v : Value} (hx : rd n e x = .tuple vs) (hi : vs[i]? = some v) : PO P n e ⟨d, .extract x i, ty, pos, aft, gd⟩ v := fun w => by
  simp [execOp, Instr.extract, hx, hi]

/-- The address of a field. -/
def FieldOff (P : Program) (s f off : Nat) : Prop := ∀ b o w, (Instr.fieldAt s (.pointer (some ⟨b, o, none⟩)) f).run P w = .ok (.pointer (some ⟨b, o + off, none⟩)) w
theorem FieldOff.mk {s f off ft k : Nat} {fs : Array Field} {fl : Field} (hu : P.underlying s = some (.struct fs)) (hf : fs[f]? = some fl) (hft : fl.type = ft) (ho : fl.offset = off)
    (hs : ∀ w, (sizeOf ft).run P w = .ok (k + 1) w) : FieldOff P s f off := fun b o w => by
  subst hft; subst ho
  have ha : ∀ m, (⟨b, o, none⟩ : Addr).add m = ⟨b, o + m, none⟩ := fun m => by unfold Addr.add; split <;> simp_all
  simp [Instr.fieldAt, run_underlying hu, hf, Instr.sureAddr, fieldPlace, hs, ha]
theorem jJ {x : Operand} {s f off b o : Nat} (hf : FieldOff P s f off) (hx : rd n e x = .pointer (some ⟨b, o, none⟩)) :
    PO P n e ⟨d, .fieldAddr s x f, ty, pos, aft, gd⟩ (.pointer (some ⟨b, o + off, none⟩)) := fun w => by simp [execOp, hx, hf b o w]

/-- The place of a cell behind a slice. -/
def elp (a : Option Addr) (o : Nat) : Value := match a with | some a => .pointer (some ⟨a.block, a.off + o, none⟩) | none => undef
theorem kD {x : Operand} {s f off o : Nat} {a : Option Addr} (hf : FieldOff P s f off) (ha : a.isSome = true) (hx : rd n e x = elp a o) :
    PO P n e ⟨d, .fieldAddr s x f, ty, pos, aft, gd⟩ (elp a (o + off)) := fun w => by
  cases a with
  | none => simp at ha
  | some a => simp [execOp, hx, elp, hf a.block (a.off + o) w, Nat.add_assoc]

/- integers -/
theorem wr {x c : Int} (h : x = c ∧ -9223372036854775808 ≤ x ∧ x ≤ 9223372036854775807) : IntKind.i64.wrap x = c := (IntWalk.i64_in x h.2).trans h.1
theorem getD_some {α : Type} {l : List α} {i : Nat} {d : α} (h : i < l.length) : l[i]? = some (l.getD i d) := by simp [h]
theorem kY {t : TypeId} {parts : Array (Nat × Operand)} {ps : List (Nat × Value)} {cs : List Value} (hp : parts.toList.map (fun x => (x.1, rd n e x.2)) = ps) (hb : P.built t ps = some cs.toArray) :
    PO P n e ⟨d, .build t parts, ty, pos, aft, gd⟩ (.agg cs.toArray) := fun w => by
  have hps : (parts.map fun x => (x.1, rd n e x.2)).toList = ps := by rw [← hp]; simp
  have := run_build (P := P) w t (parts.map fun x => (x.1, rd n e x.2)) cs.toArray (by rw [hps]; exact hb)
  simp [execOp, this]
theorem i64_in {x : Int} (h : -9223372036854775808 ≤ x ∧ x ≤ 9223372036854775807) : IntKind.i64.wrap x = x := IntWalk.i64_in x h
theorem PO.addW {x y : Operand} {k : IntKind} {a b : Int} {t u : TypeId} (hx : rd n e x = .int k a) (hy : rd n e y = .int k b) : PO P n e ⟨d, .binOp .add t x y u, ty, pos, aft, gd⟩ (.int k (k.wrap (a + b))) := fun w => by
  simp [execOp, hx, hy, eqGuard, binOp, Op.intArith]
theorem PO.subW {x y : Operand} {k : IntKind} {a b : Int} {t u : TypeId} (hx : rd n e x = .int k a) (hy : rd n e y = .int k b) : PO P n e ⟨d, .binOp .sub t x y u, ty, pos, aft, gd⟩ (.int k (k.wrap (a - b))) := fun w => by
  simp [execOp, hx, hy, eqGuard, binOp, Op.intArith]
theorem PO.mulW {x y : Operand} {k : IntKind} {a b : Int} {t u : TypeId} (hx : rd n e x = .int k a) (hy : rd n e y = .int k b) : PO P n e ⟨d, .binOp .mul t x y u, ty, pos, aft, gd⟩ (.int k (k.wrap (a * b))) := fun w => by
  simp [execOp, hx, hy, eqGuard, binOp, Op.intArith]
theorem ji {x y : Operand} {k : IntKind} {a b c : Int} {t u : TypeId} (hx : rd n e x = .int k a) (hy : rd n e y = .int k b) (hc : k.wrap (a + b) = c) : PO P n e ⟨d, .binOp .add t x y u, ty, pos, aft, gd⟩ (.int k c) := hc ▸ PO.addW hx hy
theorem kW {x y : Operand} {k : IntKind} {a b c : Int} {t u : TypeId} (hx : rd n e x = .int k a) (hy : rd n e y = .int k b) (hc : k.wrap (a - b) = c) : PO P n e ⟨d, .binOp .sub t x y u, ty, pos, aft, gd⟩ (.int k c) := hc ▸ PO.subW hx hy
theorem PO.mul {x y : Operand} {k : IntKind} {a b c : Int} {t u : TypeId} (hx : rd n e x = .int k a) (hy : rd n e y = .int k b) (hc : k.wrap (a * b) = c) : PO P n e ⟨d, .binOp .mul t x y u, ty, pos, aft, gd⟩ (.int k c) := hc ▸ PO.mulW hx hy
theorem PO.quo {x y : Operand} {k : IntKind} {a b c : Int} {t u : TypeId} (hx : rd n e x = .int k a) (hy : rd n e y = .int k b) (hb : b ≠ 0) (hc : k.wrap (a.tdiv b) = c) : PO P n e ⟨d, .binOp .quo t x y u, ty, pos, aft, gd⟩ (.int k c) := fun w => by
  simp [execOp, hx, hy, eqGuard, binOp, Op.intDiv, hb, hc]
theorem PO.rem {x y : Operand} {k : IntKind} {a b c : Int} {t u : TypeId} (hx : rd n e x = .int k a) (hy : rd n e y = .int k b) (hb : b ≠ 0) (hc : a.tmod b = c) : PO P n e ⟨d, .binOp .rem t x y u, ty, pos, aft, gd⟩ (.int k c) := fun w => by
  simp [execOp, hx, hy, eqGuard, binOp, Op.intDiv, hb, hc]
theorem PO.bits {op : BinOp} {x y : Operand} {k : IntKind} {a b : Int} {t u : TypeId} (hop : op = .and ∨ op = .or ∨ op = .xor) (hx : rd n e x = .int k a) (hy : rd n e y = .int k b) :
    PO P n e ⟨d, .binOp op t x y u, ty, pos, aft, gd⟩ (.int k (Go.bits op k a b)) := fun w => by
  rcases hop with rfl | rfl | rfl <;> simp [execOp, hx, hy, eqGuard, binOp, intBits_and, intBits_or, intBits_xor]
theorem PO.shr {x y : Operand} {k yk : IntKind} {a b : Int} {t u : TypeId} (hx : rd n e x = .int k a) (hy : rd n e y = .int yk b) (h0 : 0 ≤ b) (h1 : b ≤ k.bits) :
    PO P n e ⟨d, .binOp .shr t x y u, ty, pos, aft, gd⟩ (.int k (a / 2 ^ b.toNat)) := fun w => by
  simp [execOp, hx, hy, eqGuard, binOp_shr, shift_shr k yk a b h0 h1]
theorem jo {x y : Operand} {k : IntKind} {a b : Int} {t u : TypeId} (hx : rd n e x = .int k a) (hy : rd n e y = .int k b) : PO P n e ⟨d, .binOp .lss t x y u, ty, pos, aft, gd⟩ (.bool (decide (a < b))) := fun w => by
  simp [execOp, hx, hy, eqGuard, binOp, Op.intCmp]
theorem PO.leq {x y : Operand} {k : IntKind} {a b : Int} {t u : TypeId} (hx : rd n e x = .int k a) (hy : rd n e y = .int k b) : PO P n e ⟨d, .binOp .leq t x y u, ty, pos, aft, gd⟩ (.bool (decide (a ≤ b))) := fun w => by
  simp [execOp, hx, hy, eqGuard, binOp, Op.intCmp]
theorem ke {x y : Operand} {k : IntKind} {a b : Int} {t u : TypeId} (hx : rd n e x = .int k a) (hy : rd n e y = .int k b) : PO P n e ⟨d, .binOp .gtr t x y u, ty, pos, aft, gd⟩ (.bool (decide (b < a))) := fun w => by
  simp [execOp, hx, hy, eqGuard, binOp, Op.intCmp]
theorem kh {x y : Operand} {k : IntKind} {a b : Int} {t u : TypeId} (hx : rd n e x = .int k a) (hy : rd n e y = .int k b) : PO P n e ⟨d, .binOp .geq t x y u, ty, pos, aft, gd⟩ (.bool (decide (b ≤ a))) := fun w => by
  simp [execOp, hx, hy, eqGuard, binOp, Op.intCmp]
theorem jw {x y : Operand} {k : IntKind} {a b : Int} {t u : TypeId} (hx : rd n e x = .int k a) (hy : rd n e y = .int k b) : PO P n e ⟨d, .binOp .eql t x y u, ty, pos, aft, gd⟩ (.bool (decide (a = b))) := fun w => by
  simp [execOp, hx, hy, eqGuard, binOp, Op.intCmp, beq_dec]
theorem kN {x y : Operand} {k : IntKind} {a b : Int} {t u : TypeId} (hx : rd n e x = .int k a) (hy : rd n e y = .int k b) : PO P n e ⟨d, .binOp .neq t x y u, ty, pos, aft, gd⟩ (.bool (!decide (a = b))) := fun w => by
  simp [execOp, hx, hy, eqGuard, binOp, Op.intCmp, bne, beq_dec]
theorem PO.neg {x : Operand} {k : IntKind} {a c : Int} {t : TypeId} (hx : rd n e x = .int k a) (hc : k.wrap (0 - a) = c) : PO P n e ⟨d, .unOp .neg t x, ty, pos, aft, gd⟩ (.int k c) := fun w => by
  simp only [execOp, hx, unary_neg, Op.intArith, hc]; rfl
theorem kP {x : Operand} {b : Bool} {t : TypeId} (hx : rd n e x = .bool b) : PO P n e ⟨d, .unOp .not t x, ty, pos, aft, gd⟩ (.bool (!b)) := fun w => by simp [execOp, hx, Op.unary]

/- strings -/
theorem str_toList (l : Str) : (ByteArray.mk l.toArray).toList = l := ByteArray.toList_mk l
theorem mk_append (a b : Str) : (ByteArray.mk a.toArray) ++ (ByteArray.mk b.toArray) = ByteArray.mk (a ++ b).toArray := by
  apply ByteArray.ext
  simp
theorem ki {x y : Operand} {a b : Str} {t u : TypeId} (hx : rd n e x = str a) (hy : rd n e y = str b) (hl : a.length + b.length ≤ 9223372036854775807) : PO P n e ⟨d, .binOp .add t x y u, ty, pos, aft, gd⟩ (str (a ++ b)) := fun w => by
  simp only [str] at hx hy
  have hl' : ((ByteArray.mk a.toArray).size : Int) + ((ByteArray.mk b.toArray).size : Int) ≤ 9223372036854775807 := by
    have h1 : (ByteArray.mk a.toArray).size = a.length := by simp [ByteArray.size]
    have h2 : (ByteArray.mk b.toArray).size = b.length := by simp [ByteArray.size]
    rw [h1, h2]; omega
  simp [execOp, hx, hy, eqGuard, binOp, Op.stringOp, str, mk_append, hl']
theorem PO.eqlS {x y : Operand} {a b : Str} {t u : TypeId} (hx : rd n e x = str a) (hy : rd n e y = str b) : PO P n e ⟨d, .binOp .eql t x y u, ty, pos, aft, gd⟩ (.bool (decide (a = b))) := fun w => by
  simp only [str] at hx hy
  simp [execOp, hx, hy, eqGuard, binOp_string_eql, str_toList, beq_dec]
theorem kj {x y : Operand} {a b : Str} {t u : TypeId} (hx : rd n e x = str a) (hy : rd n e y = str b) : PO P n e ⟨d, .binOp .neq t x y u, ty, pos, aft, gd⟩ (.bool (!decide (a = b))) := fun w => by
  simp only [str] at hx hy
  simp [execOp, hx, hy, eqGuard, binOp_string_neq, str_toList, beq_dec]
theorem PO.lssS {x y : Operand} {a b : Str} {t u : TypeId} (hx : rd n e x = str a) (hy : rd n e y = str b) : PO P n e ⟨d, .binOp .lss t x y u, ty, pos, aft, gd⟩ (.bool (Op.bytesLess a b)) := fun w => by
  simp only [str] at hx hy
  simp [execOp, hx, hy, eqGuard, binOp_string_lss, str_toList]
theorem PO.gtrS {x y : Operand} {a b : Str} {t u : TypeId} (hx : rd n e x = str a) (hy : rd n e y = str b) : PO P n e ⟨d, .binOp .gtr t x y u, ty, pos, aft, gd⟩ (.bool (!Op.bytesLess a b && !decide (a = b))) := fun w => by
  simp only [str] at hx hy
  simp [execOp, hx, hy, eqGuard, binOp, Op.stringOp, str_toList, beq_dec]
theorem size_mk (l : Str) : (ByteArray.mk l.toArray).size = l.length := by simp [ByteArray.size]
theorem kV {x : Operand} {a : Str} {t : TypeId} (ht : P.underlying t = some .string) (hx : rd n e x = str a) :
    PO P n e ⟨d, .call ⟨.builtin .len, #[x], #[t]⟩, ty, pos, aft, gd⟩ (.int .i64 a.length) := fun w => by
  simp only [str] at hx
  simp [execOp, resolve, invoke, builtin, hx, run_len_string _ _ _ _ ht, size_mk, goInt]
theorem PO.indexS {x y : Operand} {a : Str} {k : IntKind} {i : Nat} {c : UInt8} {t : TypeId} (ht : P.underlying t = some .string) (hx : rd n e x = str a) (hy : rd n e y = .int k i) (hi : a[i]? = some c) :
    PO P n e ⟨d, .index t x y, ty, pos, aft, gd⟩ (.int .u8 c.toNat) := fun w => by
  simp only [str] at hx
  obtain ⟨hlt, hc⟩ := List.getElem?_eq_some_iff.1 hi
  have hlt' : i < (ByteArray.mk a.toArray).size := by rw [size_mk]; exact hlt
  have hb : (ByteArray.mk a.toArray)[i]? = some c := by
    rw [ByteArray.getElem?_lt' _ _ hlt']
    exact congrArg some hc
  simp [execOp, Instr.index, hx, hy, asIntOf, run_underlying ht, hb]
theorem PO.sliceS {x lo hi : Operand} {a : Str} {k k' : IntKind} {i j : Nat} {t : TypeId} (ht : P.underlying t = some .string) (hx : rd n e x = str a) (hlo : rd n e lo = .int k i) (hhi : rd n e hi = .int k' j) (h1 : i ≤ j) (h2 : j ≤ a.length) :
    PO P n e ⟨d, .slice t x (some lo) (some hi) none, ty, pos, aft, gd⟩ (str ((a.drop i).take (j - i))) := fun w => by
  simp only [str] at hx
  have h2' : (j : Int) ≤ ((ByteArray.mk a.toArray).size : Int) := by rw [size_mk]; omega
  have h2'' : j ≤ (ByteArray.mk a.toArray).size := by rw [size_mk]; exact h2
  simp [execOp, run_sliceAt_string _ _ _ _ _ _ ht, Instr.slice, hx, hlo, hhi, run_underlying ht, Instr.sliceBounds, Instr.sliceBound, asIntOf, h2'', h1, str, ByteArray.extract_mk]
theorem PO.sliceSl {x lo : Operand} {a : Str} {k : IntKind} {i : Nat} {t : TypeId} (ht : P.underlying t = some .string) (hx : rd n e x = str a) (hlo : rd n e lo = .int k i) (h1 : i ≤ a.length) :
    PO P n e ⟨d, .slice t x (some lo) none none, ty, pos, aft, gd⟩ (str (a.drop i)) := fun w => by
  simp only [str] at hx
  have h1' : i ≤ (ByteArray.mk a.toArray).size := by rw [size_mk]; exact h1
  have : (a.drop i).take (a.length - i) = a.drop i := List.take_of_length_le (by simp)
  simp [execOp, run_sliceAt_string _ _ _ _ _ _ ht, Instr.slice, hx, hlo, run_underlying ht, Instr.sliceBounds, Instr.sliceBound, asIntOf, h1', str, ByteArray.extract_mk, size_mk, this]
  intro h; omega
theorem PO.sliceSh {x hi : Operand} {a : Str} {k : IntKind} {j : Nat} {t : TypeId} (ht : P.underlying t = some .string) (hx : rd n e x = str a) (hhi : rd n e hi = .int k j) (h2 : j ≤ a.length) :
    PO P n e ⟨d, .slice t x none (some hi) none, ty, pos, aft, gd⟩ (str (a.take j)) := fun w => by
  simp only [str] at hx
  have h2' : j ≤ (ByteArray.mk a.toArray).size := by rw [size_mk]; exact h2
  simp [execOp, run_sliceAt_string _ _ _ _ _ _ ht, Instr.slice, hx, hhi, run_underlying ht, Instr.sliceBounds, Instr.sliceBound, asIntOf, h2', str, ByteArray.extract_mk]
theorem PO.convI {x : Operand} {k k' : IntKind} {a c : Int} {s t : TypeId} {ds : TypeDesc} (hs : P.underlying s = some ds) (ht : P.underlying t = some (.int k')) (hx : rd n e x = .int k a) (hc : k'.wrap a = c) :
    PO P n e ⟨d, .convert s t x, ty, pos, aft, gd⟩ (.int k' c) := fun w => by
  simp [execOp, convert, run_underlying hs, run_underlying ht, hx, Conv.intToInt, hc]

/- slices: what can be told of their outer form -/
theorem jp {x : Operand} {a : Option Addr} {m c : Nat} {t el : TypeId} (ht : P.underlying t = some (.slice el)) (hx : rd n e x = .slice a m c) :
    PO P n e ⟨d, .call ⟨.builtin .len, #[x], #[t]⟩, ty, pos, aft, gd⟩ (.int .i64 m) := fun w => by
  simp [execOp, resolve, invoke, builtin, hx, Builtin.len_, run_underlying ht, goInt]
theorem jl {x y : Operand} {a : Option Addr} {m c : Nat} {k : IntKind} {i s : Nat} {t el : TypeId} (ht : P.underlying t = some (.slice el)) (hs : ∀ w, (sizeOf el).run P w = .ok s w) (ha : a.isSome = true) (hsp : a.bind (·.spot) = none)
    (hx : rd n e x = .slice a m c) (hy : rd n e y = .int k i) (hi : i < m) : PO P n e ⟨d, .indexAddr t x y, ty, pos, aft, gd⟩ (elp a (i * s)) := fun w => by
  cases a with
  | none => simp at ha
  | some a =>
    obtain ⟨b, o, sp⟩ := a
    simp only [Option.bind_some] at hsp
    subst hsp
    have had : ∀ q, (⟨b, o, none⟩ : Addr).add q = ⟨b, o + q, none⟩ := fun q => by unfold Addr.add; split <;> simp_all
    simp [execOp, Instr.indexAt, hx, hy, asIntOf, run_underlying ht, hs, elp, had, hi]

end
end Go.Proofs.YtghfijncihbojaaGreat

set_option linter.unusedSimpArgs false
set_option linter.unusedVariables false
set_option linter.unnecessarySimpa false
namespace Go.Proofs.YtghfijncihbojaaGreat
open Go Go.RowKit

section
variable {P : Program} {ops : Array Oper} {Q : Exit → Act → World → Prop} {n : Nat} {w0 w : World} {D : List Nat} {L : List Res} {e : Env}
variable {d : Option Tmp} {ty : TypeId} {pos : String} {aft : Array Edge} {gd : Option (Nat × Bool)}

/-- A block of a local variable. -/
abbrev bk (b t : Nat) (cs : List Value) : Res := .blk b (.cells cs.toArray t (0, 0))

theorem JO.ofRun {o : Oper} {Φ : Value → List Res → Prop} (h : ∀ w, St w0 D L w → ∃ v L' w', (execOp (rd n e) o).run P w = .ok (.value v) w' ∧ Φ v L' ∧ St w0 D L' w') : JO P n w0 D L e o Φ := fun w hw K Q hK => by
  obtain ⟨v, L', w', hr, hΦ, hw'⟩ := h w hw
  unfold Oper.wp
  rw [act_eval', hr, Oper.upon_value, act_put]
  exact hK v L' w' hΦ hw'

theorem JO.ofRunU {o : Oper} {Φ : Value → List Res → Prop} (h : ∀ w, St w0 D L w → ∃ L' w', (execOp (rd n e) o).run P w = .ok .skip w' ∧ Φ undef L' ∧ St w0 D L' w') : JO P n w0 D L e o Φ := fun w hw K Q hK => by
  obtain ⟨L', w', hr, hΦ, hw'⟩ := h w hw
  unfold Oper.wp
  rw [act_eval', hr, Oper.upon_skip, act_put]
  exact hK _ L' w' hΦ hw'

theorem jy {x : Operand} {t : TypeId} {v : Value} {cs : List Value} (hx : rd n e x = v) (hc : v.cells.toList = cs) :
    JO P n w0 D L e ⟨d, .box t x, ty, pos, aft, gd⟩ (fun u L' => ∃ b, u = .pointer (some ⟨b, 0, none⟩) ∧ L' = bk b t cs :: L) := JO.ofRun fun w hw => by
  subst hc
  refine ⟨_, _, _, ?_, ⟨w.heap.size, rfl, rfl⟩, hw.alloc _⟩
  simp [execOp, Instr.box, newVar, newRow, hx]

theorem jn {t : TypeId} {z : Value} {cs : List Value} (hz : ∀ w, (zeroValue t).run P w = .ok z w) (hc : z.cells.toList = cs) :
    JO P n w0 D L e ⟨d, .alloc t, ty, pos, aft, gd⟩ (fun u L' => ∃ b, u = .pointer (some ⟨b, 0, none⟩) ∧ L' = bk b t cs :: L) := JO.ofRun fun w hw => by
  subst hc
  refine ⟨_, _, _, ?_, ⟨w.heap.size, rfl, rfl⟩, hw.alloc _⟩
  simp [execOp, Instr.alloc, newVar, newRow, hz]

/-- A load of one cell out of a local block. -/
theorem jV (i : Nat) {x : Operand} {t ty' b o : Nat} {cs : List Value} {v : Value} {fr : Nat × Nat} (hL : L[i]? = some (.blk b (.cells cs.toArray ty' fr))) (hx : rd n e x = .pointer (some ⟨b, o, none⟩))
    (ht : ∀ w, (isAgg t).run P w = .ok false w) (hc : cs[o]? = some v) : LO P n w0 D L e ⟨d, .load t x, ty, pos, aft, gd⟩ v := fun w hw => by
  have hb : w.heap[b]? = some (.cells cs.toArray ty' fr) := hw.get hL
  have hcell : w.cell? ⟨b, o, none⟩ = some v := by simp [World.cell?, hb, hc]
  simp [execOp, hx, Instr.loadAt, Instr.sureAddr, loadVar, ht, hcell]

theorem add_lit (b o m : Nat) : (⟨b, o, none⟩ : Addr).add m = ⟨b, o + m, none⟩ := by unfold Addr.add; split <;> simp_all

/-- A load of a struct out of a local block. -/
theorem jX (i : Nat) {x : Operand} {t ty' b o k : Nat} {cs vs : List Value} {fr : Nat × Nat} (hL : L[i]? = some (.blk b (.cells cs.toArray ty' fr))) (hx : rd n e x = .pointer (some ⟨b, o, none⟩))
    (ht : ∀ w, (isAgg t).run P w = .ok true w) (hs : ∀ w, (sizeOf t).run P w = .ok k w) (hc : (cs.drop o).take k = vs) (hk : vs.length = k) :
    LO P n w0 D L e ⟨d, .load t x, ty, pos, aft, gd⟩ (.agg vs.toArray) := fun w hw => by
  have hb : w.heap[b]? = some (.cells cs.toArray ty' fr) := hw.get hL
  have hr := run_loadCells_list (P := P) (w := w) ⟨b, o, none⟩ vs fun j v hj => by
    rw [add_lit]
    subst hc
    have hj2 : cs[o + j]? = some v := by
      rw [List.getElem?_take, List.getElem?_drop] at hj
      split at hj
      · exact hj
      · cases hj
    simp [World.cell?, hb, hj2]
  rw [hk] at hr
  simp [execOp, hx, Instr.loadAt, Instr.sureAddr, loadVar, ht, hs, hr]

/-- A store into a local block: of one cell, or of a struct. -/
theorem jT (i : Nat) {x y : Operand} {t ty' b o k : Nat} {cs cs' vs : List Value} {v : Value} (hL : L[i]? = some (bk b ty' cs)) (hx : rd n e x = .pointer (some ⟨b, o, none⟩)) (hy : rd n e y = v) (hv : v.cells.toList = vs)
    (hs : ∀ w, (sizeOf t).run P w = .ok k w) (hk : vs.length = k) (h1 : vs.all (·.oneCell') = true) (hfit : o + k ≤ cs.length) (hc : cs.take o ++ vs ++ cs.drop (o + k) = cs') :
    JO P n w0 D L e ⟨d, .store t x y, ty, pos, aft, gd⟩ (fun _ L' => L' = L.set i (bk b ty' cs')) := JO.ofRunU fun w hw => by
  have hb : w.heap[b]? = some (.cells cs.toArray ty' (0, 0)) := hw.get hL
  have hlt : b < w.heap.size := (Array.getElem?_eq_some_iff.1 hb).1
  have hst := run_storeCells_at P b o ty' vs 0 cs.toArray w hb (by simp; omega) (fun u hu => (List.all_eq_true.1 h1) u hu)
  simp only [Nat.add_zero, hk, hc] at hst
  refine ⟨_, w.setRow b cs'.toArray, ?_, rfl, ?_⟩
  · have hcs : v.cells.size = k := by rw [← hk, ← hv, Array.length_toList]
    simp [execOp, hx, hy, Instr.storeAt, Instr.sureAddr, storeVar, hs, hcs, hv, hst]
  · refine hw.turn1 hL rfl rfl rfl (by simp) (fun q _ hq => setRow_other w b q _ (by simpa [Res.ids] using hq)) ?_ (by simp [Res.ids]) (fun q hq => .inl (by simpa [Res.ids] using hq))
    exact setRow_heap w b cs.toArray _ ty' _ hb

/- ---- slices ---- -/

/-- What is known of a slice value behind which a row is owned. -/
theorem row_form {v : Value} {t k m : Nat} {cs : List Value} (h : World.ownsR w 0 t k v m cs) : cs.length = m * k ∧ ∃ a c, v = .slice a m c ∧ (a = none → m = 0 ∧ c = 0 ∧ cs = []) ∧ m ≤ c ∧ c ≤ maxLen ∧ a.bind (·.spot) = none ∧ (∀ g, a = some g → g.off = 0) := by
  refine ⟨h.1, ?_⟩
  rcases h.2 with ⟨rfl, rfl⟩ | ⟨g, cap, cur, rfl, _, hg, h1, h2, _⟩
  · refine ⟨none, 0, rfl, fun _ => ⟨rfl, rfl, ?_⟩, Nat.le_refl _, Nat.zero_le _, rfl, fun _ h => by cases h⟩
    have := h.1
    simpa using this
  · exact ⟨some ⟨g, 0, none⟩, cap, rfl, (fun h => by cases h), h1, h2, rfl, fun g h => by cases h; rfl⟩

theorem row_some (i : Nat) {a : Option Addr} {t k m m' c : Nat} {cs : List Value} (hL : L[i]? = some (.row (.slice a m c) t k m' cs)) (h0 : 0 < m') (h : ∃ w, St w0 D L w) : a.isSome = true ∧ a.bind (·.spot) = none ∧ m = m' ∧ m ≤ c := by
  obtain ⟨w, hw⟩ := h
  obtain ⟨_, a', c', hv, h1, h2, h3, h4, _⟩ := row_form (hw.get hL)
  simp only [Value.slice.injEq] at hv
  obtain ⟨rfl, rfl, rfl⟩ := hv
  refine ⟨?_, h4, rfl, h2⟩
  cases a with
  | none => exact absurd (h1 rfl).1 (by omega)
  | some a => rfl

theorem row_cell {a : Option Addr} {t k m m' c o : Nat} {cs : List Value} {u : Value} (h : World.ownsR w 0 t k (.slice a m c) m' cs) (hu : cs[o]? = some u) : ∃ g, a = some ⟨g, 0, none⟩ ∧ w.cell? ⟨g, o, none⟩ = some u := by
  rcases h.2 with ⟨hv, rfl⟩ | ⟨g, cap, cur, hv, _, hg, h1, h2, h3, h4⟩
  · have h0 := h.1
    simp only [Nat.zero_mul, List.length_eq_zero_iff] at h0
    subst h0
    simp at hu
  · simp only [Value.slice.injEq] at hv
    obtain ⟨rfl, _, _⟩ := hv
    refine ⟨g, rfl, ?_⟩
    rw [hg.cell]
    rw [← h4, List.getElem?_take] at hu
    split at hu
    · simpa using hu
    · cases hu

/-- A load of one cell behind a slice whose row is owned. -/
theorem kl (i : Nat) {x : Operand} {t t' k m m' c o : Nat} {a : Option Addr} {cs : List Value} {v : Value} (hL : L[i]? = some (.row (.slice a m c) t' k m' cs)) (hx : rd n e x = elp a o)
    (ht : ∀ w, (isAgg t).run P w = .ok false w) (hc : cs[o]? = some v) : LO P n w0 D L e ⟨d, .load t x, ty, pos, aft, gd⟩ v := fun w hw => by
  obtain ⟨g, rfl, hcell⟩ := row_cell (hw.get hL) hc
  simp [execOp, hx, elp, Instr.loadAt, Instr.sureAddr, loadVar, ht, hcell]

/-- A slice that can be read, whoever owns it. -/
def Sees (w : World) (v : Value) (k m : Nat) (cs : List Value) : Prop :=
  cs.length = m * k ∧ ((v = .slice none 0 0 ∧ m = 0) ∨ ∃ b o c, v = .slice (some ⟨b, o, none⟩) m c ∧ m ≤ c ∧ c ≤ maxLen ∧ b < w.heap.size ∧ ∀ j u, cs[j]? = some u → w.cell? ⟨b, o + j, none⟩ = some u)

theorem St.see {i : Nat} {a : Option Addr} {t k m m' c : Nat} {cs : List Value} (hw : St w0 D L w) (hL : L[i]? = some (.row (.slice a m c) t k m' cs)) : Sees w (.slice a m c) k m' cs := by
  have h := hw.get hL
  refine ⟨h.1, ?_⟩
  rcases h.2 with ⟨hv, rfl⟩ | ⟨g, cap, cur, hv, _, hg, h1, h2, h3, h4⟩
  · exact .inl ⟨hv, rfl⟩
  · refine .inr ⟨g, 0, cap, hv, h1, h2, hg.lt, fun j u hj => ?_⟩
    simp only [Value.slice.injEq] at hv
    obtain ⟨rfl, rfl, rfl⟩ := hv
    obtain ⟨g', hg', hcell⟩ := row_cell h hj
    simp only [Option.some.injEq, Addr.mk.injEq, and_true] at hg'
    rw [Nat.zero_add, hg']
    exact hcell

theorem cell_of_keep {k : Nat} {a : Addr} {u : Value} (hw : Qw w0 D L w) (ha : a.block = k) (hD : k ∉ D) (hu : w0.cell? a = some u) : w.cell? a = some u := by
  subst ha
  have hlt := World.block_lt_of_cell? (w := w0) (a := a) hu
  rw [World.cell?_of_block (w := w0) (hw.keep a.block hlt hD)]
  exact hu

/-- A load behind a slice that came in and is not ours. -/
theorem kK {x : Operand} {t k m m' c o : Nat} {a : Option Addr} {cs : List Value} {v : Value} (hs : Sees w0 (.slice a m c) k m' cs) (hD : ∀ b, (Value.slice a m c).ownBlock = some b → b ∉ D) (hx : rd n e x = elp a o)
    (ht : ∀ w, (isAgg t).run P w = .ok false w) (hc : cs[o]? = some v) : LO P n w0 D L e ⟨d, .load t x, ty, pos, aft, gd⟩ v := fun w hw => by
  obtain ⟨hl, h⟩ := hs
  rcases h with ⟨_, rfl⟩ | ⟨b, o', cap, hv, h1, h2, h3, h4⟩
  · simp only [Nat.zero_mul, List.length_eq_zero_iff] at hl
    subst hl
    simp at hc
  · simp only [Value.slice.injEq] at hv
    obtain ⟨rfl, rfl, rfl⟩ := hv
    have hcell : w.cell? ⟨b, o' + o, none⟩ = some v := cell_of_keep hw rfl (hD b (by simp [Value.ownBlock])) (h4 o v hc)
    simp [execOp, hx, elp, Instr.loadAt, Instr.sureAddr, loadVar, ht, hcell]

theorem kS {x : Operand} {t k k' m m' c o : Nat} {a : Option Addr} {cs vs : List Value} (hs' : Sees w0 (.slice a m c) k' m' cs) (hD : ∀ b, (Value.slice a m c).ownBlock = some b → b ∉ D) (hx : rd n e x = elp a o)
    (ht : ∀ w, (isAgg t).run P w = .ok true w) (hs : ∀ w, (sizeOf t).run P w = .ok k w) (hc : (cs.drop o).take k = vs) (hk : vs.length = k) (h0 : 0 < k) :
    LO P n w0 D L e ⟨d, .load t x, ty, pos, aft, gd⟩ (.agg vs.toArray) := fun w hw => by
  have hat : ∀ j v, vs[j]? = some v → cs[o + j]? = some v := fun j v hj => by
    subst hc
    rw [List.getElem?_take, List.getElem?_drop] at hj
    split at hj
    · exact hj
    · cases hj
  obtain ⟨hl, h⟩ := hs'
  rcases h with ⟨_, rfl⟩ | ⟨b, o', cap, hv, h1, h2, h3, h4⟩
  · simp only [Nat.zero_mul, List.length_eq_zero_iff] at hl
    subst hl
    simp at hc
    subst hc
    simp at hk
    omega
  · simp only [Value.slice.injEq] at hv
    obtain ⟨rfl, rfl, rfl⟩ := hv
    have hr := run_loadCells_list (P := P) (w := w) ⟨b, o' + o, none⟩ vs fun j v hj => by
      rw [add_lit]
      exact cell_of_keep hw rfl (hD b (by simp [Value.ownBlock])) (by have := h4 (o + j) v (hat j v hj); rwa [← Nat.add_assoc] at this)
    rw [hk] at hr
    simp [execOp, hx, elp, Instr.loadAt, Instr.sureAddr, loadVar, ht, hs, hr]

theorem sees_some {a : Option Addr} {k m m' c : Nat} {cs : List Value} (h : Sees w0 (.slice a m c) k m' cs) (h0 : 0 < m') : a.isSome = true ∧ a.bind (·.spot) = none ∧ m = m' ∧ m ≤ c := by
  rcases h.2 with ⟨_, rfl⟩ | ⟨b, o', cap, hv, h1, h2, h3, h4⟩
  · omega
  · simp only [Value.slice.injEq] at hv
    obtain ⟨rfl, rfl, rfl⟩ := hv
    exact ⟨rfl, rfl, rfl, h1⟩

/-- A call. -/
def pick : List Nat → List Res → Option (List Res × List Res)
  | [], L => some ([], L)
  | i :: is, L => match L[i]? with
    | some r => match pick is (L.eraseIdx i) with
      | some (A, F) => some (r :: A, F)
      | none => none
    | none => none

theorem pick_perm : ∀ (is : List Nat) {L A F : List Res}, pick is L = some (A, F) → L.Perm (A ++ F)
  | [], L, A, F, h => by
    simp only [pick, Option.some.injEq, Prod.mk.injEq] at h
    obtain ⟨rfl, rfl⟩ := h
    exact List.Perm.refl _
  | i :: is, L, A, F, h => by
    unfold pick at h
    split at h
    · rename_i r hr
      split at h
      · rename_i A' F' hp
        simp only [Option.some.injEq, Prod.mk.injEq] at h
        obtain ⟨rfl, rfl⟩ := h
        exact (perm_erase i r hr).trans (List.Perm.cons r (pick_perm is hp))
      · cases h
    · cases h

theorem jM (is : List Nat) {f : FuncId} {args : Array Operand} {ats : Array TypeId} {vs : List Value} {A F : List Res} {Pre : World → Prop} {Post : Value → List Res → Prop}
    (hc : ∀ args w, (callFunc f args).run P w = .ok (.enter f args) w) (hp : pick is L = some (A, F)) (hf : Ct P f vs A Pre Post) (hv : args.toList.map (rd n e) = vs) (hpre : ∀ w, St w0 D L w → Pre w) :
    JO P n w0 D L e ⟨d, .call ⟨.value (.func f), args, ats⟩, ty, pos, aft, gd⟩ (fun v L' => ∃ A', Post v A' ∧ L' = A' ++ F) := fun w hw K Q hK => by
  have hperm := pick_perm is hp
  have hA : Has A w := ((hw.perm hperm.symm).sub (List.sublist_append_left _ _)).toHas
  have hargs : args.map (rd n e) = vs.toArray := by
    subst hv
    apply Array.ext'
    simp
  have hrun : (execOp (rd n e) ⟨d, .call ⟨.value (.func f), args, ats⟩, ty, pos, aft, gd⟩).run P w = .ok (.enter f vs.toArray) w := by
    simp [execOp, resolve, Deferred.ofValue, rd, invoke, hargs, hc]
  unfold Oper.wp
  rw [act_eval', hrun, Oper.upon_enter]
  refine (hf w hA (hpre w hw)).mono fun e' w' he => ?_
  obtain ⟨v, A', rfl, hpost, hst⟩ := he
  show K _ _
  rw [act_put]
  refine hK v (A' ++ F) w' ⟨A', hpost, rfl⟩ (hw.turn hperm hst.os hst.tape hst.output hst.size hst.keep hst.holds hst.nodup hst.fresh)

/-- A call of a function value. -/
theorem JO.callV (is : List Nat) {f : FuncId} {x : Operand} {args : Array Operand} {ats : Array TypeId} {cap vs : List Value} {A F : List Res} {Pre : World → Prop} {Post : Value → List Res → Prop}
    (hc : ∀ args w, (callFunc f args).run P w = .ok (.enter f args) w) (hp : pick is L = some (A, F)) (hf : Ct P f vs A Pre Post) (hx : rd n e x = .func (.func f) #[] cap.toArray) (hv : args.toList.map (rd n e) ++ cap = vs) (hpre : ∀ w, St w0 D L w → Pre w) :
    JO P n w0 D L e ⟨d, .call ⟨.value x, args, ats⟩, ty, pos, aft, gd⟩ (fun v L' => ∃ A', Post v A' ∧ L' = A' ++ F) := fun w hw K Q hK => by
  have hperm := pick_perm is hp
  have hA : Has A w := ((hw.perm hperm.symm).sub (List.sublist_append_left _ _)).toHas
  have hargs : args.map (rd n e) ++ cap.toArray = vs.toArray := by
    subst hv
    apply Array.ext'
    simp
  have hrun : (execOp (rd n e) ⟨d, .call ⟨.value x, args, ats⟩, ty, pos, aft, gd⟩).run P w = .ok (.enter f vs.toArray) w := by
    simp [execOp, resolve, Deferred.ofValue, hx, invoke, hargs, hc]
  unfold Oper.wp
  rw [act_eval', hrun, Oper.upon_enter]
  refine (hf w hA (hpre w hw)).mono fun e' w' he => ?_
  obtain ⟨v, A', rfl, hpost, hst⟩ := he
  show K _ _
  rw [act_put]
  refine hK v (A' ++ F) w' ⟨A', hpost, rfl⟩ (hw.turn hperm hst.os hst.tape hst.output hst.size hst.keep hst.holds hst.nodup hst.fresh)

/- the end of a body -/
theorem Done.tmp {fn : Func} {Post : Value → List Res → Prop} {x : Exit} (hx : x = .ret ∨ x = .normal) {t : Tmp} {v : Value} {A' : List Res} (hr : fn.results = #[.tmp t]) (hv : rd n e (.tmp t) = v) (hL : A'.Sublist L) (h : Post v A') :
    JQ (bodyPost P fn (Done w0 D Post)) x n w0 D L e := fun w hw => by
  have : (results fn (act n e).tmps).run P w = .ok v w := by
    rw [results_tmp hr]
    have := act_eval n e (.tmp t)
    simp only [Act.eval] at this
    rw [this, hv]
  rcases hx with rfl | rfl <;> exact ⟨rfl, v, this, v, A', rfl, h, hw.sub hL⟩

theorem Done.none {fn : Func} {Post : Value → List Res → Prop} {x : Exit} (hx : x = .ret ∨ x = .normal) {A' : List Res} (hr : fn.results = #[]) (hL : A'.Sublist L) (h : Post (.tuple #[]) A') :
    JQ (bodyPost P fn (Done w0 D Post)) x n w0 D L e := fun w hw => by
  have : (results fn (act n e).tmps).run P w = .ok (.tuple #[]) w := results_none hr _ _ _
  rcases hx with rfl | rfl <;> exact ⟨rfl, _, this, _, A', rfl, h, hw.sub hL⟩

def rvSem (tmps : Array Value) : ResultVar → Sem Value
  | .tmp t => pure (tmps.getD t undef)
  | .cell a t => do loadVar t (← asAddr (tmps.getD a undef))
theorem results_rv (fn : Func) (tmps : Array Value) : results fn tmps = (do
    let vs ← fn.results.mapM (rvSem tmps)
    pure (if h : vs.size = 1 then vs[0] else .tuple vs)) := by
  unfold results
  have : rvSem tmps = (fun r => match r with | .tmp t => pure (tmps.getD t undef) | .cell a t => (do loadVar t (← asAddr (tmps.getD a undef)))) := by
    funext r
    cases r <;> rfl
  rw [this]
  rfl
/-- How a result variable is read at the end. -/
def RV (P : Program) (n : Nat) (w0 : World) (D : List Nat) (L : List Res) (e : Env) (r : ResultVar) (v : Value) : Prop :=
  ∀ w, Qw w0 D L w → (rvSem (act n e).tmps r).run P w = .ok v w
theorem jN {t : Tmp} {v : Value} (hv : rd n e (.tmp t) = v) : RV P n w0 D L e (.tmp t) v := fun w _ => by
  have := act_eval n e (.tmp t)
  simp only [Act.eval] at this
  simp only [rvSem, this, hv]
  rfl
theorem je {a : Tmp} {t : TypeId} {v : Value} (h : LO P n w0 D L e ⟨none, .load t (.tmp a), 0, "", #[], none⟩ v) (hp : ∃ ad, rd n e (.tmp a) = .pointer (some ad)) : RV P n w0 D L e (.cell a t) v := fun w hw => by
  obtain ⟨ad, hp⟩ := hp
  have h1 := h w hw
  simp only [execOp, hp, Instr.loadAt, Instr.sureAddr, Sem.run_bind, Sem.run_pure, Result.andThen_ok] at h1
  have h2 := act_eval n e (.tmp a)
  simp only [Act.eval] at h2
  simp only [rvSem, h2, hp, asAddr, Sem.run_bind, Sem.run_pure, Result.andThen_ok]
  generalize (loadVar t ad).run P w = r at *
  cases r with
  | ok u w' =>
    simp only [Result.andThen_ok, Result.ok.injEq, Next.value.injEq] at h1
    obtain ⟨rfl, rfl⟩ := h1
    rfl
  | halt x w' => simp [Result.andThen] at h1

theorem jR {fn : Func} {Post : Value → List Res → Prop} {x : Exit} (hx : x = .ret ∨ x = .normal) {r : ResultVar} {v : Value} {A' : List Res} (hr : fn.results = #[r]) (hv : RV P n w0 D L e r v) (hL : A'.Sublist L) (h : Post v A') :
    JQ (bodyPost P fn (Done w0 D Post)) x n w0 D L e := fun w hw => by
  have hv' := hv w hw.qw
  have : (results fn (act n e).tmps).run P w = .ok v w := by
    rw [results_rv, hr]
    simp only [List.mapM_toArray, List.mapM_cons, List.mapM_nil, Sem.run_bind, Sem.run_map, hv', Result.andThen_ok, Sem.run_pure]
    rfl
  rcases hx with rfl | rfl <;> exact ⟨rfl, v, this, v, A', rfl, h, hw.sub hL⟩
theorem kB {fn : Func} {Post : Value → List Res → Prop} {x : Exit} (hx : x = .ret ∨ x = .normal) {r1 r2 : ResultVar} {v1 v2 : Value} {A' : List Res} (hr : fn.results = #[r1, r2]) (h1 : RV P n w0 D L e r1 v1) (h2 : RV P n w0 D L e r2 v2) (hL : A'.Sublist L)
    (h : Post (.tuple #[v1, v2]) A') : JQ (bodyPost P fn (Done w0 D Post)) x n w0 D L e := fun w hw => by
  have h1' := h1 w hw.qw
  have h2' := h2 w hw.qw
  have : (results fn (act n e).tmps).run P w = .ok (.tuple #[v1, v2]) w := by
    rw [results_rv, hr]
    simp only [List.mapM_toArray, List.mapM_cons, List.mapM_nil, Sem.run_bind, Sem.run_map, h1', h2', Result.andThen_ok, Sem.run_pure]
    rfl
  rcases hx with rfl | rfl <;> exact ⟨rfl, _, this, _, A', rfl, h, hw.sub hL⟩
theorem ka {fn : Func} {Post : Value → List Res → Prop} {x : Exit} (hx : x = .ret ∨ x = .normal) {r1 r2 r3 : ResultVar} {v1 v2 v3 : Value} {A' : List Res} (hr : fn.results = #[r1, r2, r3]) (h1 : RV P n w0 D L e r1 v1) (h2 : RV P n w0 D L e r2 v2) (h3 : RV P n w0 D L e r3 v3) (hL : A'.Sublist L)
    (h : Post (.tuple #[v1, v2, v3]) A') : JQ (bodyPost P fn (Done w0 D Post)) x n w0 D L e := fun w hw => by
  have h1' := h1 w hw.qw
  have h2' := h2 w hw.qw
  have h3' := h3 w hw.qw
  have : (results fn (act n e).tmps).run P w = .ok (.tuple #[v1, v2, v3]) w := by
    rw [results_rv, hr]
    simp only [List.mapM_toArray, List.mapM_cons, List.mapM_nil, Sem.run_bind, Sem.run_map, h1', h2', h3', Result.andThen_ok, Sem.run_pure]
    rfl
  rcases hx with rfl | rfl <;> exact ⟨rfl, _, this, _, A', rfl, h, hw.sub hL⟩

end
end Go.Proofs.YtghfijncihbojaaGreat

set_option linter.unusedSimpArgs false
set_option linter.unusedVariables false
set_option linter.unnecessarySimpa false
namespace Go.Proofs.YtghfijncihbojaaGreat
open Go Go.RowKit

section
variable {P : Program} {ops : Array Oper} {Q : Exit → Act → World → Prop} {n : Nat} {w0 w : World} {D : List Nat} {L : List Res} {e : Env}
variable {d : Option Tmp} {ty : TypeId} {pos : String} {aft : Array Edge} {gd : Option (Nat × Bool)}

/-- A new row. -/
theorem St.newRow (hw : St w0 D L w) (t k m c : Nat) (cur : Array Value) (hm : m ≤ c) (hc : c ≤ maxLen) (hs : cur.size = c * k) :
    St w0 D (.row (.slice (some ⟨w.heap.size, 0, none⟩) m c) t k m (cur.toList.take (m * k)) :: L) (w.alloc (.cells cur t)) := by
  refine hw.turn (A := []) (A' := [.row (.slice (some ⟨w.heap.size, 0, none⟩) m c) t k m (cur.toList.take (m * k))]) (F := L) (List.Perm.refl _) rfl rfl rfl (by simp) (fun q hq _ => Below.heap_alloc _ _ _ hq) ?_ ?_ ?_
  · intro r hr
    simp only [List.mem_singleton] at hr
    subst hr
    refine ⟨?_, .inr ⟨w.heap.size, c, cur, rfl, Nat.zero_le _, ?_, hm, hc, Nat.le_of_eq hs.symm, rfl⟩⟩
    · rw [List.length_take, Array.length_toList, hs]
      exact Nat.min_eq_left (Nat.mul_le_mul_right k hm)
    · exact CellsAt.new w _ _
  · simp [idsOf, Res.ids, Value.ownBlock]
  · intro i hi
    simp only [idsOf, Res.ids, Value.ownBlock, List.flatMap_cons, List.flatMap_nil, List.append_nil, Option.mem_toList, Option.some.injEq] at hi
    exact .inr (by omega)

/-- The cells of a literal. -/
def litCells (k m : Nat) (z : Value) (parts : List (Nat × Value)) : Option (Array Value) :=
  Instr.fill (fun i => some (i * k, k)) ((Array.range (m * k)).map (z.cells[· % z.cells.size]!)) parts

theorem fill_size {place : Nat → Option (Nat × Nat)} : ∀ {parts : List (Nat × Value)} {cells cells' : Array Value}, Instr.fill place cells parts = some cells' → cells'.size = cells.size
  | [], _, _, h => by simp only [Instr.fill, Option.some.injEq] at h; subst h; rfl
  | (i, v) :: rest, cells, cells', h => by
    have keep : ∀ (l : List (Value × Nat)) (off : Nat) (cs : Array Value), (l.foldl (fun cs (c, j) => cs.setIfInBounds (off + j) c) cs).size = cs.size := by
      intro l
      induction l with
      | nil => intros; rfl
      | cons x l ih => intro off cs; simp only [List.foldl_cons]; rw [ih]; simp
    unfold Instr.fill at h
    split at h
    · cases h
    · split at h
      · cases h
      · have := fill_size h
        rw [this, ← Array.foldl_toList]
        exact keep _ _ _

/-- A slice literal. -/
theorem kJ {t el k m : Nat} {z : Value} {parts : Array (Nat × Operand)} {ps : List (Nat × Value)} {cur : Array Value} (ht : P.underlying t = some (.slice el)) (hs : ∀ w, (sizeOf el).run P w = .ok k w) (hz : ∀ w, (zeroValue el).run P w = .ok z w)
    (hp : parts.toList.map (fun x => (x.1, rd n e x.2)) = ps) (hf : litCells k m z ps = some cur) (hm : m * k ≤ 16777216) (hm2 : m ≤ 16777216) :
    JO P n w0 D L e ⟨d, .buildSlice t m parts, ty, pos, aft, gd⟩ (fun u L' => ∃ a, u = .slice a m m ∧ L' = .row (.slice a m m) el k m cur.toList :: L) := JO.ofRun fun w hw => by
  have hsz : cur.size = m * k := by rw [fill_size hf]; simp
  have hst := hw.newRow el k m m cur (Nat.le_refl _) (by unfold maxLen; omega) hsz
  rw [List.take_of_length_le (by simp [hsz])] at hst
  refine ⟨_, _, _, ?_, ⟨some ⟨w.heap.size, 0, none⟩, rfl, rfl⟩, hst⟩
  have hnot : ¬ (16777216 < m * k) := by omega
  unfold litCells at hf
  by_cases h0 : m * k = 0
  · have harr : ∀ f : Nat → Value, (Array.range (m * k)).map f = #[] := fun f => by rw [h0]; simp
    rw [harr] at hf
    simp only [execOp, Instr.buildSlice, Sem.run_bind, run_underlying ht, hs, hnot, h0, if_true, if_false, Sem.run_pure, Result.andThen_ok, Array.toList_map, hp, newRow, Array.range_zero', Array.map_empty, hf, run_newObj, Sem.run_ite]
    rfl
  · simp only [execOp, Instr.buildSlice, Sem.run_bind, run_underlying ht, hs, hz, hnot, h0, if_false, Sem.run_pure, Result.andThen_ok, Array.toList_map, hp, newRow, hf, run_newObj, Sem.run_ite, Sem.run_map]
    rfl

/-- Where the elements of an append come from. -/
def Src (P : Program) (w : World) (k m : Nat) (x : Value) (news : List Value) : Prop :=
  (∀ w', w'.heap = w.heap → (Builtin.firstCells k m x).run P w' = .ok news.toArray w') ∧ (Builtin.lenOf x).run P w = .ok m w ∧ news.length = m * k ∧ ∀ u ∈ news, u.oneCell' = true

theorem Src.sees {k m m' c : Nat} {a : Option Addr} {cs : List Value} (h : Sees w (.slice a m c) k m' cs) (h1 : ∀ u ∈ cs, u.oneCell' = true) : Src P w k m' (.slice a m c) cs := by
  obtain ⟨hl, h⟩ := h
  rcases h with ⟨hv, rfl⟩ | ⟨b, o, cap, hv, h2, h3, h4, h5⟩
  · simp only [Value.slice.injEq] at hv
    obtain ⟨rfl, rfl, rfl⟩ := hv
    simp only [Nat.zero_mul, List.length_eq_zero_iff] at hl
    subst hl
    exact ⟨fun w' _ => by simp [Builtin.firstCells], by simp [Builtin.lenOf], by simp, by simp⟩
  · simp only [Value.slice.injEq] at hv
    obtain ⟨rfl, rfl, rfl⟩ := hv
    refine ⟨fun w' hw' => run_firstCells_some w' k m ⟨b, o, none⟩ m c cs hl fun j v hj => ?_, by simp [Builtin.lenOf], hl, h1⟩
    rw [add_lit]
    have := h5 j v hj
    simpa [World.cell?, hw'] using this

/-- append, whatever the room: the row behind the slice is owned. -/
theorem JO.append (i : Nat) {t u el k m c q by' : Nat} {x y : Operand} {vy : Value} {a : Option Addr} {cs news : List Value} {ti : TypeInfo} {z : Value} {el2 : TypeId}
    (hL : L[i]? = some (.row (.slice a m c) el k m cs)) (ht : P.underlying t = some (.slice el)) (hu : P.underlying u = some (.slice el2))
    (hti : ∀ w, (typeInfo el).run P w = .ok ti w) (hk : ti.size = k) (hby : ti.bytes = by') (hz : ti.zero = some z) (hzc : z.cells.size = k)
    (hx : rd n e x = .slice a m c) (hy : rd n e y = vy) (hsrc : ∀ w, St w0 D L w → Src P w k q vy news) (hb : (m + q) * by' ≤ 140737488355328) (hmax : m + q ≤ 9223372036854775807) :
    JO P n w0 D L e ⟨d, .call ⟨.builtin .append, #[x, y], #[t, u]⟩, ty, pos, aft, gd⟩ (fun v L' => ∃ a' c', v = .slice a' (m + q) c' ∧ L' = L.set i (.row (.slice a' (m + q) c') el k (m + q) (cs ++ news))) := JO.ofRun fun w hw => by
  have hrow := hw.get hL
  obtain ⟨hnf, hlen, hnl, hone⟩ := hsrc w hw
  have hnews := hnf w rfl
  have hnewsD : (Builtin.firstCells k q vy).run P w.drew = .ok news.toArray w.drew := hnf w.drew rfl
  have h63 : ¬ (9223372036854775807 < ((m : Int) + (q : Int))) := by omega
  have hsl : cs.length = m * k := hrow.1
  by_cases hroom : m + q ≤ c
  · rcases hrow.2 with ⟨hv, h0⟩ | ⟨g, cap, cur, hv, hg0, hg, h1, h2, h3, h4⟩
    · simp only [Value.slice.injEq] at hv
      obtain ⟨rfl, rfl, rfl⟩ := hv
      have hq : q = 0 := by omega
      subst hq
      have hn0 : news = [] := by simpa using hnl
      subst hn0
      refine ⟨_, _, w, ?_, ⟨none, 0, rfl, rfl⟩, ?_⟩
      · simp [execOp, resolve, invoke, builtin, hx, hy, Builtin.append_, run_underlying ht, run_underlying hu, sizeOf, hti, hk, hlen, hnews]
      · have : L.set i (.row (.slice none (0 + 0) 0) el k (0 + 0) (cs ++ [])) = L := by
          rw [List.append_nil]
          exact List.ext_getElem? fun j => by
            rw [List.getElem?_set]
            split
            · rename_i hij; subst hij; split <;> simp_all
            · rfl
        rw [this]; exact hw
    · simp only [Value.slice.injEq] at hv
      obtain ⟨rfl, _, rfl⟩ := hv
      have hfit : m * k + 0 + news.length ≤ cur.size := by
        refine Nat.le_trans ?_ h3
        rw [hnl, Nat.add_zero, ← Nat.add_mul]; exact Nat.mul_le_mul_right _ hroom
      have hst := run_storeCells_R P g (m * k) el news 0 cur w hg hfit hone
      simp only [Nat.add_zero] at hst
      refine ⟨_, _, w.setRow g (cur.toList.take (m * k) ++ news ++ cur.toList.drop (m * k + news.length)).toArray, ?_, ⟨some ⟨g, 0, none⟩, c, rfl, rfl⟩, ?_⟩
      · simp [execOp, resolve, invoke, builtin, hx, hy, Builtin.append_, run_underlying ht, run_underlying hu, sizeOf, hti, hk, hlen, hnews, hroom, add_lit, hst]
      · refine hw.turn1 hL rfl rfl rfl (by simp) (fun q' _ hq' => setRow_other w g q' _ (by simpa [Res.ids, Value.ownBlock] using hq')) ?_ (by simp [Res.ids, Value.ownBlock]) (fun q' hq' => .inl (by simpa [Res.ids, Value.ownBlock] using hq'))
        refine ⟨by rw [List.length_append, hsl, hnl, Nat.add_mul], .inr ⟨g, c, _, rfl, hg0, hg.setRow (by simp only [List.size_toArray, List.length_append, List.length_take, List.length_drop, Array.length_toList]; omega), hroom, h2, ?_, ?_⟩⟩
        · simp only [List.size_toArray, List.length_append, List.length_take, List.length_drop, Array.length_toList]
          omega
        · rw [h4, List.append_assoc, ← List.append_assoc cs]
          rw [List.take_append_of_le_length (by rw [List.length_append, hsl, hnl, Nat.add_mul]; exact Nat.le_refl _)]
          exact List.take_of_length_le (by rw [List.length_append, hsl, hnl, Nat.add_mul]; exact Nat.le_refl _)
  · have hnr : ¬ (m + q ≤ c) := hroom
    have h48 : ¬ (281474976710656 < Builtin.nextslicecap (m + q) c * by') := by
      have := growslice_fits (need := m + q) (old := c) (bytes := by') (by omega) hb
      omega
    have hold : (Builtin.firstCells k m (.slice a m c)).run P w.drew = .ok cs.toArray w.drew := by
      rcases hrow.2 with ⟨hv, h0⟩ | ⟨g, cap, cur, hv, hg0, hg, h1, h2, h3, h4⟩
      · simp only [Value.slice.injEq] at hv
        obtain ⟨rfl, rfl, rfl⟩ := hv
        simp only [Nat.zero_mul, List.length_eq_zero_iff] at hsl
        subst hsl
        simp [Builtin.firstCells]
      · simp only [Value.slice.injEq] at hv
        obtain ⟨rfl, _, rfl⟩ := hv
        refine run_firstCells_some w.drew k m ⟨g, 0, none⟩ m c cs hsl fun j v hj => ?_
        obtain ⟨g', hg', hc'⟩ := row_cell hrow hj
        simp only [Option.some.injEq, Addr.mk.injEq, and_true] at hg'
        rw [add_lit, Nat.zero_add, hg', World.cell?_drew]
        exact hc'
    have hgc := grownCap_ge w (m + q) c el
    have hgm := grownCap_le_maxLen w (m + q) c el (by unfold maxLen; omega)
    have hrest : (Builtin.zeroCells z.cells (grownCap w (m + q) c el - (m + q))).size = (grownCap w (m + q) c el - (m + q)) * k := by rw [size_zeroCells, hzc]
    have hst := (hw.drew).turn (A := [.row (.slice a m c) el k m cs]) (F := L.eraseIdx i)
      (A' := [.row (.slice (some ⟨w.heap.size, 0, none⟩) (m + q) (grownCap w (m + q) c el)) el k (m + q) (cs ++ news)])
      (w' := w.drew.alloc (.cells (cs.toArray ++ news.toArray ++ Builtin.zeroCells z.cells (grownCap w (m + q) c el - (m + q))) el))
      (perm_set i _ (.row (.slice a m c) el k m cs) hL).1 rfl rfl rfl (by simp) (fun q' hq' _ => Below.heap_alloc _ _ _ hq') (by
        intro r hr
        simp only [List.mem_singleton] at hr
        subst hr
        refine ⟨by rw [List.length_append, hsl, hnl, Nat.add_mul], .inr ⟨w.heap.size, _, _, rfl, Nat.zero_le _, CellsAt.new w.drew _ _, hgc, hgm, ?_, ?_⟩⟩
        · refine Nat.le_of_eq (Eq.symm ?_)
          simp only [Array.size_append, List.size_toArray, hsl, hnl, hrest]
          rw [← Nat.add_mul, ← Nat.add_mul]
          congr 1
          omega
        · simp only [Array.toList_append]
          rw [List.take_append_of_le_length (by rw [List.length_append, hsl, hnl, Nat.add_mul]; exact Nat.le_refl _)]
          exact List.take_of_length_le (by rw [List.length_append, hsl, hnl, Nat.add_mul]; exact Nat.le_refl _)) (by simp [idsOf, Res.ids, Value.ownBlock]) (by
        intro j hj
        simp only [idsOf, Res.ids, Value.ownBlock, List.flatMap_cons, List.flatMap_nil, List.append_nil, Option.mem_toList, Option.some.injEq] at hj
        exact .inr (by rw [← hj]; exact Nat.le_refl _))
    refine ⟨_, _, _, ?_, ⟨some ⟨w.heap.size, 0, none⟩, grownCap w (m + q) c el, rfl, rfl⟩, hst.perm (perm_set i _ _ hL).2⟩
    have h63' : ¬ (9223372036854775807 < ((m : Int) + (q : Int))) := h63
    simp [execOp, resolve, invoke, builtin, hx, hy, Builtin.append_, run_underlying ht, run_underlying hu, sizeOf, hti, hk, hby, hz, hlen, hnr, h63, h48, Question.forced, hold, hnewsD, newRow, zeroValue, grownCap]
    congr 2
    apply Array.ext'
    simp [List.append_assoc]

end
end Go.Proofs.YtghfijncihbojaaGreat

set_option linter.unusedSimpArgs false
set_option linter.unusedVariables false
set_option linter.unnecessarySimpa false
namespace Go.Proofs.YtghfijncihbojaaGreat
open Go Go.RowKit

/-- No way out by a panic. -/
def NP (Q : Exit → Act → World → Prop) : Prop := ∀ c a w, ¬ Q (.panic c) a w
theorem NP.th {K : Act → World → Prop} {Q : Exit → Act → World → Prop} (h : NP Q) : NP (Exit.then K Q) := fun c a w hq => h c a w hq
theorem NP.bl {id : Nat} {Q : Exit → Act → World → Prop} (h : NP Q) : NP (Exit.inBlock id Q) := fun c a w hq => h c a w hq
theorem NP.body {P : Program} {fn : Func} {w0 : World} {D : List Nat} {Post : Value → List Res → Prop} : NP (bodyPost P fn (Done w0 D Post)) := fun c a w hq => by
  obtain ⟨_, v, A', he, _⟩ := hq
  cases he

section
variable {P : Program} {ops : Array Oper} {Q : Exit → Act → World → Prop} {C : World → Prop} {z : Nat}

/-- In every world of the class the operation yields v; or its guard says no. -/
def YC (P : Program) (ops : Array Oper) (C : World → Prop) (o : Oper) (v : Value) (a : Act) : Prop :=
  (Region.wanted o (yielded ops a.tmps) = true ∧ ∀ w, C w → (execOp a.eval o).run P w = .ok (.value v) w) ∨ (Region.wanted o (yielded ops a.tmps) = false ∧ v = undef)

theorem YC.same {o : Oper} {v : Value} {a a' : Act} (hy : YC P ops C o v a) (he : execOp a'.eval o = execOp a.eval o) (hw : Region.wanted o (yielded ops a'.tmps) = Region.wanted o (yielded ops a.tmps)) : YC P ops C o v a' := by
  unfold YC at *
  rw [he, hw]
  exact hy

theorem YC.run {i : Nat} {o : Oper} {v : Value} {a : Act} {w : World} {K : Act → World → Prop} (hi : ops[i]? = some o) (hw : C w) (hy : YC P ops C o v a) (h : K (a.put o.dst v) w) : wpOp P ops Q i K a w := by
  unfold wpOp
  simp only [hi]
  rcases hy with ⟨h1, h2⟩ | ⟨h1, rfl⟩
  · rw [if_pos h1]
    refine .inl ?_
    unfold Oper.wp
    rw [h2 w hw, Oper.upon_value]
    exact h
  · rw [if_neg (by simp [h1])]
    exact h

/-- Another operation, carried out ahead of one that is to be taken first. -/
theorem YC.past {j : Nat} {oi oj : Oper} {v : Value} {a : Act} {w : World} {K : Act → World → Prop} (hj : ops[j]? = some oj) (hap : oi.apart ops oj = true)
    (hsi : ∀ cs b, oi.op ≠ .select cs b) (hsj : ∀ cs b, oj.op ≠ .select cs b) (hQ : NP Q) (hy : YC P ops C oi v a) (h : wpOp P ops Q j K (a.put oi.dst v) w) :
    wpOp P ops Q j (fun a' w' => YC P ops C oi v a' ∧ K (a'.put oi.dst v) w') a w := by
  obtain ⟨h1, h2, h3⟩ := Oper.apart_spec hap
  have keep : ∀ u, YC P ops C oi v (a.put oj.dst u) := fun u => hy.same (execOp_put oi hsi a oj.dst u h3) (wanted_put oi a oj.dst u h3)
  have comm : ∀ u, (a.put oj.dst u).put oi.dst v = (a.put oi.dst v).put oj.dst u := fun u => (Act.put_comm a v u h2).symm
  unfold wpOp at *
  simp only [hj] at *
  rw [wanted_put oj a oi.dst v h1] at h
  by_cases hw : Region.wanted oj (yielded ops a.tmps) = true
  · simp only [hw, if_true] at h ⊢
    rcases h with h | ⟨hasks, hlets⟩
    · refine .inl ?_
      unfold Oper.wp at *
      rw [execOp_put oj hsj a oi.dst v h1] at h
      generalize (execOp a.eval oj).run P w = r at *
      cases r with
      | ok x w' =>
        cases x <;> simp only [Oper.upon] at h ⊢
        case value u => exact ⟨keep u, comm u ▸ h⟩
        case skip => exact ⟨keep _, comm _ ▸ h⟩
        case defer dd =>
          have hd : YC P ops C oi v ({ a with defers := dd :: a.defers } : Act) := hy.same rfl rfl
          refine ⟨hd.same (execOp_put oi hsi _ oj.dst _ h3) (wanted_put oi _ oj.dst _ h3), ?_⟩
          rw [← Act.put_comm _ v undef h2, ← Act.put_defers]
          exact h
        case enter f args =>
          refine Calls.mono h fun e w'' he => ?_
          cases e with
          | returned u => exact ⟨keep u, comm u ▸ he⟩
          | panicked c => exact absurd he (hQ _ _ _)
          | outgrown => exact he
        case row row args => exact Rows.mono h fun u w'' he => ⟨keep u, comm u ▸ he⟩
      | halt x w' =>
        cases x <;> simp only [Oper.upon] at h ⊢
        case panic u => exact absurd h (hQ _ _ _)
    · refine .inr ⟨?_, hlets⟩
      unfold Oper.asks at *
      rw [execOp_put oj hsj a oi.dst v h1] at hasks
      exact hasks
  · simp only [hw] at h ⊢
    exact ⟨keep _, comm _ ▸ h⟩

/-- Whatever order is picked from here on; each operation but the late ones keeps the class. -/
def anyC (P : Program) (ops : Array Oper) (Q : Exit → Act → World → Prop) (C : World → Prop) (z : Nat) : Nat → Array Bool → Act → World → Prop
  | 0, listed, a, w => Region.ready .any ops listed = [] ∧ Q .normal a w
  | fuel + 1, listed, a, w => (Region.ready .any ops listed = [] → Q .normal a w) ∧
    ∀ i ∈ Region.ready .any ops listed, wpOp P ops Q i (fun a' w' => (C w → z ≤ i ∨ C w') ∧ anyC P ops Q C z fuel (listed.setIfInBounds i true) a' w') a w

theorem anyC.any : ∀ (fuel : Nat) (listed : Array Bool) (a : Act) (w : World), anyC P ops Q C z fuel listed a w → wpAny P .any ops Q fuel listed a w
  | 0, _, _, _, h => h
  | fuel + 1, _, _, _, h => ⟨h.1, fun i hi => wpOp_mono (fun a' w' h' => anyC.any fuel _ a' w' h'.2) (h.2 i hi)⟩

/-- Each late operation waits for this one. -/
def lateB (ops : Array Oper) (z i : Nat) : Bool := (List.range ops.size).all fun j => Nat.blt j z || (j == i || match ops[j]? with
  | some o => o.after.any fun e => Region.binds .any e && e.on == i
  | none => true)
theorem lateB_spec {ops : Array Oper} {z i j : Nat} {o : Oper} (h : lateB ops z i = true) (hj : ops[j]? = some o) (hz : z ≤ j) (hi : j ≠ i) : ∃ e ∈ o.after, Region.binds .any e = true ∧ e.on = i := by
  unfold lateB at h
  rw [List.all_eq_true] at h
  have h1 := h j (List.mem_range.2 (Array.getElem?_eq_some_iff.1 hj).1)
  simp only [Bool.or_eq_true, Nat.blt_eq, beq_iff_eq, hj] at h1
  have h2 := (h1.resolve_left (by omega)).resolve_left hi
  obtain ⟨e, he, hb⟩ := Array.any_eq_true'.1 h2
  simp only [Bool.and_eq_true, beq_iff_eq] at hb
  exact ⟨e, he, hb.1, hb.2⟩

/-- An operation that reads what the class knows is taken first. -/
theorem anyC.first {i : Nat} {oi : Oper} {v : Value} (hi : ops[i]? = some oi) (hs : Region.noSelect ops = true) (hQ : NP Q) (hz : lateB ops z i = true) :
    ∀ (fuel : Nat) (listed : Array Bool) (a : Act) (w : World),
      (∀ j oj, ops[j]? = some oj → j ≠ i → listed.getD j true = false → (∀ e ∈ oj.after, Region.binds .any e = true → e.on ≠ i) → oi.apart ops oj = true) →
      i ∈ Region.ready .any ops listed → C w → YC P ops C oi v a →
      anyC P ops Q C z fuel (listed.setIfInBounds i true) (a.put oi.dst v) w → anyC P ops Q C z (fuel + 1) listed a w := by
  intro fuel
  induction fuel with
  | zero =>
    intro listed a w _ hr hw hy H
    refine ⟨fun h => (by rw [h] at hr; cases hr), fun j hj => ?_⟩
    by_cases hji : j = i
    · subst hji; exact YC.run hi hw hy ⟨fun _ => .inr hw, H⟩
    · have := ready_mono hj hji
      rw [H.1] at this
      cases this
  | succ fuel ih =>
    intro listed a w hfree hr hw hy H
    refine ⟨fun h => (by rw [h] at hr; cases hr), fun j hj => ?_⟩
    by_cases hji : j = i
    · subst hji; exact YC.run hi hw hy ⟨fun _ => .inr hw, H⟩
    · have h1 := H.2 j (ready_mono hj hji)
      obtain ⟨hjun, oj, hoj, hall⟩ := mem_ready.1 hj
      have hiun := (mem_ready.1 hr).1
      have hnot : ∀ e ∈ oj.after, Region.binds .any e = true → e.on ≠ i := fun e he hb heq => by
        have h2 := hall e he hb
        rw [heq] at h2
        rcases Nat.lt_or_ge i listed.size with h' | h'
        · simp [h'] at hiun h2; rw [hiun] at h2; cases h2
        · simp [Array.getElem?_eq_none h'] at h2
      have hjz : ¬ z ≤ j := fun hjz => by
        obtain ⟨e, he, hb, ho⟩ := lateB_spec hz hoj hjz hji
        exact hnot e he hb ho
      have h2 := YC.past hoj (hfree j oj hoj hji hjun hnot) (fun cs b => Region.noSelect_spec hs i oi cs b hi) (fun cs b => Region.noSelect_spec hs j oj cs b hoj) hQ hy h1
      have hfree' : ∀ k ok, ops[k]? = some ok → k ≠ i → (listed.setIfInBounds j true).getD k true = false →
          (∀ e ∈ ok.after, Region.binds .any e = true → e.on ≠ i) → oi.apart ops ok = true := fun k ok hk hki hun hno => by
        refine hfree k ok hk hki ?_ hno
        by_cases hjk : j = k
        · subst hjk; exact hjun
        · rw [getD_set_ne true hjk] at hun; exact hun
      refine wpOp_mono (fun a' w' h3 => ?_) h2
      have hC : C w' := (h3.2.1 hw).resolve_left hjz
      refine ⟨fun _ => .inr hC, ih (listed.setIfInBounds j true) a' w' hfree' (ready_mono hr (Ne.symm hji)) hC h3.1 ?_⟩
      rw [Array.setIfInBounds_comm _ _ hji]
      exact h3.2.2

/-- An operation that reads nothing of the world is taken first. -/
theorem anyC.firstP {i : Nat} {oi : Oper} {v : Value} (hi : ops[i]? = some oi) (hs : Region.noSelect ops = true) (hQ : NP Q) :
    ∀ (fuel : Nat) (listed : Array Bool) (a : Act) (w : World),
      (∀ j oj, ops[j]? = some oj → j ≠ i → listed.getD j true = false → (∀ e ∈ oj.after, Region.binds .any e = true → e.on ≠ i) → oi.apart ops oj = true) →
      i ∈ Region.ready .any ops listed → YC P ops (fun _ => True) oi v a →
      anyC P ops Q C z fuel (listed.setIfInBounds i true) (a.put oi.dst v) w → anyC P ops Q C z (fuel + 1) listed a w := by
  intro fuel
  induction fuel with
  | zero =>
    intro listed a w _ hr hy H
    refine ⟨fun h => (by rw [h] at hr; cases hr), fun j hj => ?_⟩
    by_cases hji : j = i
    · subst hji; exact YC.run (C := fun _ => True) hi trivial hy ⟨fun h => .inr h, H⟩
    · have := ready_mono hj hji
      rw [H.1] at this
      cases this
  | succ fuel ih =>
    intro listed a w hfree hr hy H
    refine ⟨fun h => (by rw [h] at hr; cases hr), fun j hj => ?_⟩
    by_cases hji : j = i
    · subst hji; exact YC.run (C := fun _ => True) hi trivial hy ⟨fun h => .inr h, H⟩
    · have h1 := H.2 j (ready_mono hj hji)
      obtain ⟨hjun, oj, hoj, hall⟩ := mem_ready.1 hj
      have hiun := (mem_ready.1 hr).1
      have hnot : ∀ e ∈ oj.after, Region.binds .any e = true → e.on ≠ i := fun e he hb heq => by
        have h2 := hall e he hb
        rw [heq] at h2
        rcases Nat.lt_or_ge i listed.size with h' | h'
        · simp [h'] at hiun h2; rw [hiun] at h2; cases h2
        · simp [Array.getElem?_eq_none h'] at h2
      have h2 := YC.past hoj (hfree j oj hoj hji hjun hnot) (fun cs b => Region.noSelect_spec hs i oi cs b hi) (fun cs b => Region.noSelect_spec hs j oj cs b hoj) hQ hy h1
      have hfree' : ∀ k ok, ops[k]? = some ok → k ≠ i → (listed.setIfInBounds j true).getD k true = false →
          (∀ e ∈ ok.after, Region.binds .any e = true → e.on ≠ i) → oi.apart ops ok = true := fun k ok hk hki hun hno => by
        refine hfree k ok hk hki ?_ hno
        by_cases hjk : j = k
        · subst hjk; exact hjun
        · rw [getD_set_ne true hjk] at hun; exact hun
      refine wpOp_mono (fun a' w' h3 => ?_) h2
      refine ⟨h3.2.1, ih (listed.setIfInBounds j true) a' w' hfree' (ready_mono hr (Ne.symm hji)) h3.1 ?_⟩
      rw [Array.setIfInBounds_comm _ _ hji]
      exact h3.2.2
end

section
variable {P : Program} {ops : Array Oper} {Q : Exit → Act → World → Prop} {n : Nat} {w0 : World} {D : List Nat} {L M : List Res} {e : Env} {z fuel : Nat} {listed : Array Bool}

/-- From here on, in whatever order. M: what no operation but the last turns. -/
def JA (P : Program) (ops : Array Oper) (Q : Exit → Act → World → Prop) (n : Nat) (w0 : World) (D : List Nat) (M : List Res) (z : Nat) (fuel : Nat) (listed : Array Bool) (L : List Res) (e : Env) : Prop :=
  ∀ w, St w0 D L w → Qw w0 D M w → anyC P ops Q (Qw w0 D M) z fuel listed (act n e) w

theorem jr (M : List Res) (z : Nat) {id : Nat} {l : List Oper} (hm : P.follows .mixedOrders = true) (hM : ∀ r ∈ M, r ∈ L) (h : JA P l.toArray Q n w0 D M z l.length (Array.replicate l.length false) L e) : JC P Q n w0 D L (.region id l.toArray true) e := fun w hw =>
  wp_region_any hm (by
    have := anyC.any _ _ _ _ (h w.drew hw.drew (hw.drew.qw.sub hM))
    simpa using this)

theorem JA.facts (h : (∃ w, St w0 D L w) → JA P ops Q n w0 D M z fuel listed L e) : JA P ops Q n w0 D M z fuel listed L e := fun w hw hq => h ⟨w, hw⟩ w hw hq
theorem JA.take (i : Nat) {oi : Oper} {v : Value} (hi : ops[i]? = some oi) (hs : Region.noSelect ops = true) (hQ : NP Q) (hz : lateB ops z i = true) (hf : Region.free .any ops listed i = true) (hr : (Region.ready .any ops listed).contains i = true)
    (hg : oi.guard = none) (hy : LO P n w0 D M e oi v) (h : JA P ops Q n w0 D M z fuel (listed.setIfInBounds i true) L (updO e oi.dst v)) : JA P ops Q n w0 D M z (fuel + 1) listed L e := fun w hw hq =>
  anyC.first hi hs hQ hz fuel listed (act n e) w (Region.free_spec hi hf) (by simpa using hr) hq (.inl ⟨by simp [Region.wanted, hg], fun w' hw' => by rw [act_eval']; exact hy w' hw'⟩) (by rw [act_put]; exact h w hw hq)

theorem kd (i : Nat) {oi : Oper} {v : Value} (hi : ops[i]? = some oi) (hs : Region.noSelect ops = true) (hQ : NP Q) (hf : Region.free .any ops listed i = true) (hr : (Region.ready .any ops listed).contains i = true)
    (hg : oi.guard = none) (hy : PO P n e oi v) (h : JA P ops Q n w0 D M z fuel (listed.setIfInBounds i true) L (updO e oi.dst v)) : JA P ops Q n w0 D M z (fuel + 1) listed L e := fun w hw hq =>
  anyC.firstP hi hs hQ fuel listed (act n e) w (Region.free_spec hi hf) (by simpa using hr) (.inl ⟨by simp [Region.wanted, hg], fun w' _ => by rw [act_eval']; exact hy w'⟩) (by rw [act_put]; exact h w hw hq)

theorem kf (i : Nat) {oi : Oper} {v : Value} {j : Nat} {b : Bool} {t : Tmp} (hi : ops[i]? = some oi) (hs : Region.noSelect ops = true) (hQ : NP Q) (hz : lateB ops z i = true) (hf : Region.free .any ops listed i = true) (hr : (Region.ready .any ops listed).contains i = true)
    (hg : oi.guard = some (j, b)) (hj : (ops[j]?).bind (·.dst) = some t) (ht : Nat.blt t n = true) (hv : e t = .bool b) (hy : LO P n w0 D M e oi v) (h : JA P ops Q n w0 D M z fuel (listed.setIfInBounds i true) L (updO e oi.dst v)) :
    JA P ops Q n w0 D M z (fuel + 1) listed L e := fun w hw hq => by
  have hlt : t < n := (Nat.blt_eq (x := t) (y := n)) ▸ ht
  have hyy : yielded ops (act n e).tmps j = some b := by simp [yielded, hj, act, hlt, hv]
  exact anyC.first hi hs hQ hz fuel listed (act n e) w (Region.free_spec hi hf) (by simpa using hr) hq (.inl ⟨by simp [Region.wanted, hg, hyy], fun w' hw' => by rw [act_eval']; exact hy w' hw'⟩) (by rw [act_put]; exact h w hw hq)

theorem kL (i : Nat) {oi : Oper} {v : Value} {j : Nat} {b : Bool} {t : Tmp} (hi : ops[i]? = some oi) (hs : Region.noSelect ops = true) (hQ : NP Q) (hf : Region.free .any ops listed i = true) (hr : (Region.ready .any ops listed).contains i = true)
    (hg : oi.guard = some (j, b)) (hj : (ops[j]?).bind (·.dst) = some t) (ht : Nat.blt t n = true) (hv : e t = .bool b) (hy : PO P n e oi v) (h : JA P ops Q n w0 D M z fuel (listed.setIfInBounds i true) L (updO e oi.dst v)) :
    JA P ops Q n w0 D M z (fuel + 1) listed L e := fun w hw hq => by
  have hlt : t < n := (Nat.blt_eq (x := t) (y := n)) ▸ ht
  have hyy : yielded ops (act n e).tmps j = some b := by simp [yielded, hj, act, hlt, hv]
  exact anyC.firstP hi hs hQ fuel listed (act n e) w (Region.free_spec hi hf) (by simpa using hr) (.inl ⟨by simp [Region.wanted, hg, hyy], fun w' _ => by rw [act_eval']; exact hy w'⟩) (by rw [act_put]; exact h w hw hq)

theorem kE (i : Nat) {oi : Oper} {j : Nat} {b : Bool} {t : Tmp} (hi : ops[i]? = some oi) (hs : Region.noSelect ops = true) (hQ : NP Q) (hf : Region.free .any ops listed i = true) (hr : (Region.ready .any ops listed).contains i = true)
    (hg : oi.guard = some (j, !b)) (hj : (ops[j]?).bind (·.dst) = some t) (ht : Nat.blt t n = true) (hv : e t = .bool b) (h : JA P ops Q n w0 D M z fuel (listed.setIfInBounds i true) L (updO e oi.dst undef)) :
    JA P ops Q n w0 D M z (fuel + 1) listed L e := fun w hw hq => by
  have hlt : t < n := (Nat.blt_eq (x := t) (y := n)) ▸ ht
  have hyy : yielded ops (act n e).tmps j = some b := by simp [yielded, hj, act, hlt, hv]
  exact anyC.firstP hi hs hQ fuel listed (act n e) w (Region.free_spec hi hf) (by simpa using hr) (.inr ⟨by cases b <;> simp [Region.wanted, hg, hyy], rfl⟩) (by rw [act_put]; exact h w hw hq)

/-- What is to be shown of an operation that comes up. -/
def JX (P : Program) (ops : Array Oper) (Q : Exit → Act → World → Prop) (n : Nat) (w0 : World) (D : List Nat) (M : List Res) (z fuel : Nat) (listed : Array Bool) (L : List Res) (e : Env) (i : Nat) : Prop :=
  ∀ w, St w0 D L w → wpOp P ops Q i (fun a' w' => (Qw w0 D M w → z ≤ i ∨ Qw w0 D M w') ∧ anyC P ops Q (Qw w0 D M) z fuel (listed.setIfInBounds i true) a' w') (act n e) w

theorem anyC.late {C C' : World → Prop} : ∀ (fuel : Nat) (listed : Array Bool) (a : Act) (w : World), (∀ i, listed.getD i true = false → z ≤ i) → anyC P ops Q C' z fuel listed a w → anyC P ops Q C z fuel listed a w
  | 0, _, _, _, _, h => h
  | fuel + 1, listed, _, _, hl, h => ⟨h.1, fun i hi => wpOp_mono (fun a' w' h' => ⟨fun _ => .inl (hl i (mem_ready.1 hi).1), anyC.late fuel _ a' w' (fun k hk => hl k (by
      by_cases hik : i = k
      · subst hik; exact (mem_ready.1 hi).1
      · rw [getD_set_ne true hik] at hk; exact hk)) h'.2⟩) (h.2 i hi)⟩
theorem jY {i : Nat} {o : Oper} {Φ : Value → List Res → Prop} (hi : ops[i]? = some o) (hg : o.guard = none) (ho : JO P n w0 D L e o Φ)
    (h : ∀ v L', Φ v L' → (∀ r ∈ M, r ∈ L') ∧ JA P ops Q n w0 D M z fuel (listed.setIfInBounds i true) L' (updO e o.dst v)) : JX P ops Q n w0 D M z fuel listed L e i := fun w hw => by
  unfold wpOp
  simp only [hi]
  rw [if_pos (by simp [Region.wanted, hg])]
  refine .inl (ho w hw _ Q fun v L' w' hΦ hw' => ?_)
  obtain ⟨h1, h2⟩ := h v L' hΦ
  have hq := hw'.qw.sub h1
  exact ⟨fun _ => .inr hq, h2 w' hw' hq⟩

/-- The last operation of all: it may turn what it will. -/
theorem JX.last {i : Nat} {o : Oper} {Φ : Value → List Res → Prop} (hi : ops[i]? = some o) (hg : o.guard = none) (hiz : z ≤ i) (hr : Region.ready .any ops (listed.setIfInBounds i true) = []) (ho : JO P n w0 D L e o Φ)
    (h : ∀ v L', Φ v L' → JQ Q .normal n w0 D L' (updO e o.dst v)) : JX P ops Q n w0 D M z fuel listed L e i := fun w hw => by
  unfold wpOp
  simp only [hi]
  rw [if_pos (by simp [Region.wanted, hg])]
  refine .inl (ho w hw _ Q fun v L' w' hΦ hw' => ⟨fun _ => .inl hiz, ?_⟩)
  have := h v L' hΦ w' hw'
  cases fuel with
  | zero => exact ⟨hr, this⟩
  | succ f => exact ⟨fun _ => this, by rw [hr]; simp⟩

/-- An operation behind which only such wait as each wait for all before them: it may turn what it will. -/
theorem JX.late {i : Nat} {o : Oper} {Φ : Value → List Res → Prop} (hi : ops[i]? = some o) (hg : o.guard = none) (hiz : z ≤ i) (hl : ((List.range listed.size).all fun k => Nat.ble z k || listed.getD k true) = true) (ho : JO P n w0 D L e o Φ)
    (h : ∀ v L', Φ v L' → JA P ops Q n w0 D [] z fuel (listed.setIfInBounds i true) L' (updO e o.dst v)) : JX P ops Q n w0 D M z fuel listed L e i := fun w hw => by
  unfold wpOp
  simp only [hi]
  rw [if_pos (by simp [Region.wanted, hg])]
  refine .inl (ho w hw _ Q fun v L' w' hΦ hw' => ⟨fun _ => .inl hiz, ?_⟩)
  have h1 := h v L' hΦ w' hw' (hw'.qw.sub (by simp))
  have hlate : ∀ k, listed.getD k true = false → z ≤ k := fun k hk => by
    rw [List.all_eq_true] at hl
    have hks : k < listed.size := by
      rcases Nat.lt_or_ge k listed.size with h' | h'
      · exact h'
      · simp [Array.getElem?_eq_none h'] at hk
    have := hl k (List.mem_range.2 hks)
    rw [hk, Bool.or_false] at this
    exact Nat.le_of_ble_eq_true this
  refine anyC.late fuel _ _ _ (fun k hk => hlate k ?_) h1
  by_cases hik : i = k
  · subst hik
    by_cases his : i < listed.size
    · simp [his] at hk
    · simp [Array.getElem?_eq_none (Nat.le_of_not_lt his), his] at hk
  · rw [getD_set_ne true hik] at hk; exact hk

theorem JA.one {i : Nat} (hr : Region.ready .any ops listed = [i]) (h : JX P ops Q n w0 D M z fuel listed L e i) : JA P ops Q n w0 D M z (fuel + 1) listed L e := fun w hw _ =>
  ⟨(fun h0 => by rw [hr] at h0; cases h0), fun j hj => by rw [hr, List.mem_singleton] at hj; subst hj; exact h w hw⟩
theorem kX {i j : Nat} (hr : Region.ready .any ops listed = [i, j]) (h : JX P ops Q n w0 D M z fuel listed L e i) (h' : JX P ops Q n w0 D M z fuel listed L e j) : JA P ops Q n w0 D M z (fuel + 1) listed L e := fun w hw _ =>
  ⟨(fun h0 => by rw [hr] at h0; cases h0), fun q hq => by
    rw [hr] at hq
    simp only [List.mem_cons, List.not_mem_nil, or_false] at hq
    rcases hq with rfl | rfl
    · exact h w hw
    · exact h' w hw⟩
theorem JA.three {i j k : Nat} (hr : Region.ready .any ops listed = [i, j, k]) (h : JX P ops Q n w0 D M z fuel listed L e i) (h' : JX P ops Q n w0 D M z fuel listed L e j) (h'' : JX P ops Q n w0 D M z fuel listed L e k) : JA P ops Q n w0 D M z (fuel + 1) listed L e := fun w hw _ =>
  ⟨(fun h0 => by rw [hr] at h0; cases h0), fun q hq => by
    rw [hr] at hq
    simp only [List.mem_cons, List.not_mem_nil, or_false] at hq
    rcases hq with rfl | rfl | rfl
    · exact h w hw
    · exact h' w hw
    · exact h'' w hw⟩
theorem kI (hr : Region.ready .any ops listed = []) (h : JQ Q .normal n w0 D L e) : JA P ops Q n w0 D M z fuel listed L e := fun w hw _ => by
  cases fuel with
  | zero => exact ⟨hr, h w hw⟩
  | succ f => exact ⟨fun _ => h w hw, by rw [hr]; simp⟩
end
end Go.Proofs.YtghfijncihbojaaGreat

set_option linter.unusedSimpArgs false
set_option linter.unusedVariables false
set_option linter.unnecessarySimpa false
namespace Go.Proofs.YtghfijncihbojaaGreat
open Go Go.RowKit

def encC (c : Cell) : List Value := [str c.1, str c.2]

theorem flat_take {α : Type} {enc : α → List Value} {k : Nat} (hk : ∀ x, (enc x).length = k) (d : α) : ∀ (xs : List α) (i : Nat), i < xs.length → ((xs.flatMap enc).drop (i * k)).take k = enc (xs.getD i d)
  | [], i, h => by simp at h
  | x :: xs, 0, _ => by
    simp only [Nat.zero_mul, List.drop_zero, List.flatMap_cons, List.getD_cons_zero]
    rw [List.take_append_of_le_length (by rw [hk]; exact Nat.le_refl _), List.take_of_length_le (by rw [hk]; exact Nat.le_refl _)]
  | x :: xs, i + 1, h => by
    have hd : ((x :: xs).flatMap enc).drop ((i + 1) * k) = (xs.flatMap enc).drop (i * k) := by
      rw [List.flatMap_cons, Nat.succ_mul, Nat.add_comm, ← List.drop_drop]
      congr 1
      rw [List.drop_append_of_le_length (by rw [hk]; exact Nat.le_refl _), List.drop_of_length_le (by rw [hk]; exact Nat.le_refl _)]
      rfl
    rw [hd, List.getD_cons_succ]
    exact flat_take hk d xs i (by simpa using h)

theorem flat_at {α : Type} {enc : α → List Value} {k : Nat} (hk : ∀ x, (enc x).length = k) (d : α) (xs : List α) (i j : Nat) (hi : i < xs.length) (hj : j < k) : (xs.flatMap enc)[i * k + j]? = (enc (xs.getD i d))[j]? := by
  have := congrArg (fun l => l[j]?) (flat_take hk d xs i hi)
  simp only [List.getElem?_take, List.getElem?_drop, hj, if_true] at this
  exact this

theorem flat_length {α : Type} {enc : α → List Value} {k : Nat} (hk : ∀ x, (enc x).length = k) (xs : List α) : (xs.flatMap enc).length = xs.length * k := by
  induction xs with
  | nil => simp
  | cons x xs ih => rw [List.flatMap_cons, List.length_append, hk, ih, List.length_cons, Nat.succ_mul, Nat.add_comm]

theorem flat_set {α : Type} {enc : α → List Value} {k : Nat} (hk : ∀ x, (enc x).length = k) : ∀ (xs : List α) (i : Nat) (y : α), i < xs.length → (xs.flatMap enc).take (i * k) ++ enc y ++ (xs.flatMap enc).drop (i * k + k) = (xs.set i y).flatMap enc
  | [], i, y, h => by simp at h
  | x :: xs, 0, y, _ => by
    simp only [Nat.zero_mul, List.take_zero, List.nil_append, Nat.zero_add, List.flatMap_cons, List.set_cons_zero]
    rw [List.drop_append_of_le_length (by rw [hk]; exact Nat.le_refl _), List.drop_of_length_le (by rw [hk]; exact Nat.le_refl _)]
    rfl
  | x :: xs, i + 1, y, h => by
    have ih := flat_set hk xs i y (by simpa using h)
    simp only [List.set_cons_succ, List.flatMap_cons]
    rw [← ih]
    have e1 : (i + 1) * k = k + i * k := by rw [Nat.succ_mul, Nat.add_comm]
    rw [e1, List.take_append, List.drop_append, hk]
    have e2 : (enc x).take (k + i * k) = enc x := List.take_of_length_le (by rw [hk]; omega)
    have e3 : (enc x).drop (k + i * k + k) = [] := List.drop_of_length_le (by rw [hk]; omega)
    rw [e2, e3, show k + i * k - k = i * k by omega, show k + i * k + k - k = i * k + k by omega]
    simp [List.append_assoc]

theorem encC_len (c : Cell) : (encC c).length = 2 := rfl
/- short names -/
@[reducible] def iv (n : Int) : Value := .int .i64 n
@[reducible] def nv (n : Nat) : Value := .int .i64 ((n : Nat) : Int)
@[reducible] def pv (p : Nat) : Value := .pointer (some ⟨p, 0, none⟩)
@[reducible] def zC : List Value := [.slice none 0 0, .slice none 0 0, .slice none 0 0]
@[reducible] def zM : Value := .agg #[.slice none 0 0, .slice none 0 0, .slice none 0 0]
theorem lb {a b : Nat} (h : Nat.ble a b = true) : a ≤ b := Nat.le_of_ble_eq_true h
theorem cB {a b : Bool} (h : a = b) : Value.bool a = Value.bool b := congrArg Value.bool h
theorem cN {a b : Bool} (h : a = b) : (!a) = (!b) := congrArg Bool.not h
theorem dF {p : Prop} [d : Decidable p] (h : ¬ p) : decide p = false := decide_eq_false h
theorem dT {p : Prop} [d : Decidable p] (h : p) : decide p = true := decide_eq_true h
theorem nM {v : Value} : ∀ b, v.ownBlock = some b → b ∉ ([] : List Nat) := fun _ _ => List.not_mem_nil
theorem tS (k : Nat) (L : List Res) : (L.take k).Sublist L := List.take_sublist k L
theorem SB : (∀ (α : Type) [h : Decidable True] (a b : α), (if True then a else b) = a) ∧ (∀ (α : Type) [h : Decidable False] (a b : α), (if False then a else b) = b) ∧ ((false = true) = False) ∧ ((!true) = false) ∧ ((!false) = true) := ⟨fun _ _ _ _ => by simp, fun _ _ _ _ => by simp, by simp, rfl, rfl⟩
theorem LE : (∀ (α : Type) (a b : List α), (a ++ b).length = a.length + b.length) ∧ (∀ (α : Type) (x : α) (a : List α), (x :: a).length = a.length + 1) ∧ (∀ (α : Type), ([] : List α).length = 0) ∧ (∀ (α : Type) (i : Nat) (a : List α), (a.take i).length = min i a.length) ∧ (∀ (α : Type) (i : Nat) (a : List α), (a.drop i).length = a.length - i) :=
  ⟨fun _ _ _ => List.length_append, fun _ _ _ => List.length_cons, fun _ => List.length_nil, fun _ _ _ => List.length_take, fun _ _ _ => List.length_drop⟩
theorem atC {s : List Cell} {i : Nat} (h : i < s.length) : ((s.flatMap encC).drop (i * 2)).take 2 = [str (s.getD i c0).1, str (s.getD i c0).2] := flat_take encC_len c0 s i h
theorem atC1 {s : List Cell} {i : Nat} (h : i < s.length) : (s.flatMap encC)[i * 2]? = some (str (s.getD i c0).1) := flat_at encC_len c0 s i 0 h (by decide)
theorem atC2 {s : List Cell} {i : Nat} (h : i < s.length) : (s.flatMap encC)[i * 2 + 1]? = some (str (s.getD i c0).2) := flat_at encC_len c0 s i 1 h (by decide)
theorem atS {l : List Str} {i : Nat} (h : i < l.length) : (l.map str)[i * 1]? = some (str (l.getD i [])) := by simp [h]
theorem atI {l : List Int} {i : Nat} (h : i < l.length) : (l.map (Value.int .i64))[i * 1]? = some (.int .i64 (l.getD i 0)) := by simp [h]
theorem oneC (s : List Cell) : ∀ u ∈ s.flatMap encC, u.oneCell' = true := by
  intro u hu
  obtain ⟨c, _, hc⟩ := List.mem_flatMap.1 hu
  simp only [encC, List.mem_cons, List.not_mem_nil, or_false] at hc
  rcases hc with rfl | rfl <;> rfl
theorem oneS (l : List Str) : ∀ u ∈ l.map str, u.oneCell' = true := by
  intro u hu
  obtain ⟨c, _, rfl⟩ := List.mem_map.1 hu
  rfl
theorem oneI (l : List Int) : ∀ u ∈ l.map (Value.int .i64), u.oneCell' = true := by
  intro u hu
  obtain ⟨c, _, rfl⟩ := List.mem_map.1 hu
  rfl

section
variable {P : Program} {ops : Array Oper} {Q : Exit → Act → World → Prop} {n : Nat} {w0 w : World} {D : List Nat} {L : List Res} {e : Env}
variable {d : Option Tmp} {ty : TypeId} {pos : String} {aft : Array Edge} {gd : Option (Nat × Bool)}

/-- A store behind a slice whose row is owned. -/
theorem kU (i : Nat) {x y : Operand} {t el k k0 m c o : Nat} {a : Option Addr} {cs cs' vs : List Value} {v : Value} (hL : L[i]? = some (.row (.slice a m c) el k0 m cs)) (hx : rd n e x = elp a o) (hy : rd n e y = v) (hv : v.cells.toList = vs)
    (hs : ∀ w, (sizeOf t).run P w = .ok k w) (hk : vs.length = k) (h1 : vs.all (·.oneCell') = true) (h0 : 0 < k) (hfit : o + k ≤ cs.length) (hc : cs.take o ++ vs ++ cs.drop (o + k) = cs') :
    JO P n w0 D L e ⟨d, .store t x y, ty, pos, aft, gd⟩ (fun _ L' => L' = L.set i (.row (.slice a m c) el k0 m cs')) := JO.ofRunU fun w hw => by
  have hrow := hw.get hL
  have hcl := hrow.1
  rcases hrow.2 with ⟨hvv, hm0⟩ | ⟨g, cap, cur, hvv, hg0, hg, h2, h3, h4, h5⟩
  · subst hm0
    simp only [Nat.zero_mul] at hcl
    omega
  · simp only [Value.slice.injEq] at hvv
    obtain ⟨rfl, _, rfl⟩ := hvv
    have hcur : cs.length ≤ cur.size := by rw [← h5, List.length_take, Array.length_toList]; exact Nat.min_le_right _ _
    have hst := run_storeCells_R P g o el vs 0 cur w hg (by omega) (fun u hu => (List.all_eq_true.1 h1) u hu)
    simp only [Nat.add_zero, hk] at hst
    refine ⟨_, w.setRow g (cur.toList.take o ++ vs ++ cur.toList.drop (o + k)).toArray, ?_, rfl, ?_⟩
    · have hcs : v.cells.size = k := by rw [← hk, ← hv, Array.length_toList]
      simp [execOp, hx, elp, hy, Instr.storeAt, Instr.sureAddr, storeVar, hs, hcs, hv, hst]
    · refine hw.turn1 hL rfl rfl rfl (by simp) (fun q _ hq => setRow_other w g q _ (by simpa [Res.ids, Value.ownBlock] using hq)) ?_ (by simp [Res.ids, Value.ownBlock]) (fun q hq => .inl (by simpa [Res.ids, Value.ownBlock] using hq))
      have hl' : cs'.length = m * k0 := by
        rw [← hc, List.length_append, List.length_append, List.length_take, List.length_drop, hk]
        omega
      refine ⟨hl', .inr ⟨g, c, _, rfl, hg0, hg.setRow (by simp only [List.size_toArray, List.length_append, List.length_take, List.length_drop, Array.length_toList]; omega), h2, h3, ?_, ?_⟩⟩
      · simp only [List.size_toArray, List.length_append, List.length_take, List.length_drop, Array.length_toList, hk]
        omega
      · show (cur.toList.take o ++ vs ++ cur.toList.drop (o + k)).take (m * k0) = cs'
        have e1 : cs.take o = cur.toList.take o := by rw [← h5, List.take_take, Nat.min_eq_left (by omega)]
        have e2 : cs.drop (o + k) = (cur.toList.drop (o + k)).take (m * k0 - (o + k)) := by rw [← h5, List.drop_take]
        rw [← hc, e1, e2, List.take_append]
        have e3 : (cur.toList.take o ++ vs).length = o + k := by
          rw [List.length_append, List.length_take, Array.length_toList, hk]; omega
        rw [e3, List.take_of_length_le (by rw [e3]; omega)]

/-- What is picked, as a list. -/
def pickA : List Nat → List Res → List Res
  | [], _ => []
  | i :: is, L => L.getD i (.rows []) :: pickA is (L.eraseIdx i)
def okP : List Nat → List Res → Bool
  | [], _ => true
  | i :: is, L => Nat.blt i L.length && okP is (L.eraseIdx i)
theorem pickA_perm : ∀ (is : List Nat) (L : List Res), okP is L = true → ∃ F, L.Perm (pickA is L ++ F)
  | [], L, _ => ⟨L, List.Perm.refl _⟩
  | i :: is, L, h => by
    unfold okP at h
    simp only [Bool.and_eq_true, Nat.blt_eq] at h
    obtain ⟨F, hF⟩ := pickA_perm is (L.eraseIdx i) h.2
    refine ⟨F, ?_⟩
    have hg : L[i]? = some (L.getD i (.rows [])) := by
      rw [List.getD_eq_getElem?_getD, List.getElem?_eq_getElem h.1]
      rfl
    unfold pickA
    exact (perm_erase i _ hg).trans (List.Perm.cons _ hF)
theorem kZ (is : List Nat) {x : Exit} (h : JQ Q x n w0 D (pickA is L) e) (hok : okP is L = true := by kernel_rfl) : JQ Q x n w0 D L e := fun w hw => by
  obtain ⟨F, hF⟩ := pickA_perm is L hok
  exact h w ((hw.perm hF.symm).sub (List.sublist_append_left _ _))
theorem kH (is : List Nat) {x : Exit} {A F : List Res} (hp : pick is L = some (A, F)) (h : JQ Q x n w0 D A e) : JQ Q x n w0 D L e := fun w hw => h w ((hw.perm (pick_perm is hp).symm).sub (List.sublist_append_left _ _))
theorem JC.pick (is : List Nat) {c : Code} {A F : List Res} (hp : pick is L = some (A, F)) (h : JC P Q n w0 D A c e) : JC P Q n w0 D L c e := fun w hw => h w ((hw.perm (pick_perm is hp).symm).sub (List.sublist_append_left _ _))

theorem St.seeOut_ {v : Value} {k m : Nat} {cs : List Value} (hw : St w0 D L w) (hs : Sees w0 v k m cs) (hD : ∀ b, v.ownBlock = some b → b ∉ D) : Sees w v k m cs := by
  obtain ⟨hl, h⟩ := hs
  refine ⟨hl, ?_⟩
  rcases h with h | ⟨b, o, cap, hv, h1, h2, h3, h4⟩
  · exact .inl h
  · exact .inr ⟨b, o, cap, hv, h1, h2, Nat.lt_of_lt_of_le h3 hw.size, fun j u hj => cell_of_keep hw.qw rfl (hD b (by subst hv; simp [Value.ownBlock])) (h4 j u hj)⟩

end

end Go.Proofs.YtghfijncihbojaaGreat

namespace Go.Proofs.YtghfijncihbojaaGreat
open Go Go.RowKit

theorem mixed : Tryz.prog.follows .mixedOrders = true := by kernel_rfl
theorem fo28_0 : FieldOff Tryz.prog 28 0 0 := FieldOff.mk Tryz.underlying28 rfl rfl rfl Tryz.sizeOf26
theorem fo28_1 : FieldOff Tryz.prog 28 1 1 := FieldOff.mk Tryz.underlying28 rfl rfl rfl Tryz.sizeOf26
theorem fo31_0 : FieldOff Tryz.prog 31 0 0 := FieldOff.mk Tryz.underlying31 rfl rfl rfl Tryz.sizeOf3
theorem fo31_1 : FieldOff Tryz.prog 31 1 1 := FieldOff.mk Tryz.underlying31 rfl rfl rfl Tryz.sizeOf3
theorem fo31_2 : FieldOff Tryz.prog 31 2 2 := FieldOff.mk Tryz.underlying31 rfl rfl rfl Tryz.sizeOf3
theorem fo31_3 : FieldOff Tryz.prog 31 3 3 := FieldOff.mk Tryz.underlying31 rfl rfl rfl Tryz.sizeOf3
theorem fo31_4 : FieldOff Tryz.prog 31 4 4 := FieldOff.mk Tryz.underlying31 rfl rfl rfl Tryz.sizeOf24
theorem fo31_5 : FieldOff Tryz.prog 31 5 5 := FieldOff.mk Tryz.underlying31 rfl rfl rfl Tryz.sizeOf25
theorem fo31_6 : FieldOff Tryz.prog 31 6 6 := FieldOff.mk Tryz.underlying31 rfl rfl rfl Tryz.sizeOf28
theorem fo31_7 : FieldOff Tryz.prog 31 7 8 := FieldOff.mk Tryz.underlying31 rfl rfl rfl Tryz.sizeOf29
theorem fo31_8 : FieldOff Tryz.prog 31 8 9 := FieldOff.mk Tryz.underlying31 rfl rfl rfl Tryz.sizeOf3
theorem fo45_0 : FieldOff Tryz.prog 45 0 0 := FieldOff.mk Tryz.underlying45 rfl rfl rfl Tryz.sizeOf3
theorem fo45_1 : FieldOff Tryz.prog 45 1 1 := FieldOff.mk Tryz.underlying45 rfl rfl rfl Tryz.sizeOf3
theorem fo45_2 : FieldOff Tryz.prog 45 2 2 := FieldOff.mk Tryz.underlying45 rfl rfl rfl Tryz.sizeOf9
theorem fo51_0 : FieldOff Tryz.prog 51 0 0 := FieldOff.mk Tryz.underlying51 rfl rfl rfl Tryz.sizeOf3
theorem fo51_1 : FieldOff Tryz.prog 51 1 1 := FieldOff.mk Tryz.underlying51 rfl rfl rfl Tryz.sizeOf9
theorem fo51_2 : FieldOff Tryz.prog 51 2 2 := FieldOff.mk Tryz.underlying51 rfl rfl rfl Tryz.sizeOf9
theorem fo51_3 : FieldOff Tryz.prog 51 3 3 := FieldOff.mk Tryz.underlying51 rfl rfl rfl Tryz.sizeOf3
theorem fo51_4 : FieldOff Tryz.prog 51 4 4 := FieldOff.mk Tryz.underlying51 rfl rfl rfl Tryz.sizeOf3
theorem fo51_5 : FieldOff Tryz.prog 51 5 5 := FieldOff.mk Tryz.underlying51 rfl rfl rfl Tryz.sizeOf9
theorem fo99_0 : FieldOff Tryz.prog 99 0 0 := FieldOff.mk Tryz.underlying99 rfl rfl rfl Tryz.sizeOf48
theorem fo99_1 : FieldOff Tryz.prog 99 1 1 := FieldOff.mk Tryz.underlying99 rfl rfl rfl Tryz.sizeOf28
theorem fo130_0 : FieldOff Tryz.prog 130 0 0 := FieldOff.mk Tryz.underlying130 rfl rfl rfl Tryz.sizeOf22
theorem fo130_1 : FieldOff Tryz.prog 130 1 1 := FieldOff.mk Tryz.underlying130 rfl rfl rfl Tryz.sizeOf3
theorem fo130_2 : FieldOff Tryz.prog 130 2 2 := FieldOff.mk Tryz.underlying130 rfl rfl rfl Tryz.sizeOf3
theorem fo167_0 : FieldOff Tryz.prog 167 0 0 := FieldOff.mk Tryz.underlying167 rfl rfl rfl Tryz.sizeOf9
theorem fo167_1 : FieldOff Tryz.prog 167 1 1 := FieldOff.mk Tryz.underlying167 rfl rfl rfl Tryz.sizeOf9
theorem fo206_0 : FieldOff Tryz.prog 206 0 0 := FieldOff.mk Tryz.underlying206 rfl rfl rfl Tryz.sizeOf3
theorem fo206_1 : FieldOff Tryz.prog 206 1 1 := FieldOff.mk Tryz.underlying206 rfl rfl rfl Tryz.sizeOf51
end Go.Proofs.YtghfijncihbojaaGreat

set_option linter.unusedSimpArgs false
set_option linter.unusedVariables false
set_option linter.unnecessarySimpa false
namespace Go.Proofs.YtghfijncihbojaaGreat
open Go Go.RowKit
attribute [local irreducible] JL JC JQ JO LO PO JA JX Ct

theorem take_succ_eq {α : Type} {s t : List α} {j : Nat} (d : α) (h : s.take j = t.take j) (hj : j < s.length) (hl : s.length = t.length) (he : s.getD j d = t.getD j d) : s.take (j + 1) = t.take (j + 1) := by
  rw [List.take_add_one, List.take_add_one, h]
  congr 1
  have h1 : s[j]? = some (s.getD j d) := getD_some hj
  have h2 : t[j]? = some (t.getD j d) := getD_some (by omega)
  rw [h1, h2, he]
theorem take_all_eq {α : Type} {s t : List α} {j : Nat} (h : s.take j = t.take j) (hj : s.length ≤ j) (hl : s.length = t.length) : s = t := by
  rw [List.take_of_length_le hj, List.take_of_length_le (by omega)] at h
  exact h
end Go.Proofs.YtghfijncihbojaaGreat

set_option linter.unusedSimpArgs false
set_option linter.unusedVariables false
set_option linter.unnecessarySimpa false
namespace Go.Proofs.YtghfijncihbojaaGreat
open Go Go.RowKit

theorem wr8 {x c : Int} (h : x = c ∧ 0 ≤ x ∧ x ≤ 255) : IntKind.u8.wrap x = c := by
  have : IntKind.u8.wrap x = x % 256 := by simp [IntKind.wrap, IntKind.bits, IntKind.signed]
  omega
/-- A byte, as a cell. -/
abbrev encB (b : UInt8) : Value := .int .u8 (b.toNat : Int)
theorem encB_of (k : Nat) (h : k < 256) : encB (UInt8.ofNat k) = .int .u8 (k : Int) := by
  unfold encB
  rw [UInt8.toNat_ofNat_of_lt' h]
theorem oneB (l : Str) : ∀ u ∈ l.map encB, u.oneCell' = true := by
  intro u hu
  obtain ⟨c, _, rfl⟩ := List.mem_map.1 hu
  rfl

section
variable {P : Program} {ops : Array Oper} {Q : Exit → Act → World → Prop} {n : Nat} {w0 w : World} {D : List Nat} {L : List Res} {e : Env}
variable {d : Option Tmp} {ty : TypeId} {pos : String} {aft : Array Edge} {gd : Option (Nat × Bool)}

theorem PO.quoN {x y : Operand} {k : IntKind} {a b : Int} {c : Int} {t u : TypeId} (hx : rd n e x = .int k a) (hy : rd n e y = .int k b) (hb : b ≠ 0) (ha : 0 ≤ a) (hb0 : 0 ≤ b) (hc : k.wrap (a / b) = c) : PO P n e ⟨d, .binOp .quo t x y u, ty, pos, aft, gd⟩ (.int k c) :=
  PO.quo hx hy hb (by rw [Int.tdiv_eq_ediv_of_nonneg ha]; exact hc)
theorem PO.remN {x y : Operand} {k : IntKind} {a b c : Int} {t u : TypeId} (hx : rd n e x = .int k a) (hy : rd n e y = .int k b) (hb : b ≠ 0) (ha : 0 ≤ a) (hc : a % b = c) : PO P n e ⟨d, .binOp .rem t x y u, ty, pos, aft, gd⟩ (.int k c) :=
  PO.rem hx hy hb (by rw [Int.tmod_eq_emod_of_nonneg ha]; exact hc)

/-- string(b), where b is owned. -/
theorem LO.toStr (i : Nat) {x : Operand} {el el2 s u m c : Nat} {a : Option Addr} {cs : List Value} (bs : Str) (hL : L[i]? = some (.row (.slice a m c) el2 1 m cs)) (hs : P.underlying s = some (.slice el)) (he : P.underlying el = some (.int .u8)) (hd : P.underlying u = some .string)
    (hx : rd n e x = .slice a m c) (hc : cs = bs.map encB) : LO P n w0 D L e ⟨d, .convert s u x, ty, pos, aft, gd⟩ (str bs) := fun w hw => by
  subst hc
  have hrow := hw.get hL
  have hm : bs.length = m := by have := hrow.1; simpa using this
  subst hm
  simp only [execOp, hx]
  cases a with
  | none =>
    rcases hrow.2 with ⟨_, h0⟩ | ⟨g, cap, cur, hv, _⟩
    · have : bs = [] := by simpa using h0
      subst this
      simp [convert, run_underlying hs, run_underlying hd, run_underlying he, Conv.bytesToString, str]
      rfl
    · simp at hv
  | some g =>
    have h1 := run_convert_bytes_back (P := P) w s u el g c bs hs he hd (fun j hj => by
      obtain ⟨g', hg', hcell⟩ := row_cell hrow (o := j) (u := encB (bs[j])) (by simp [hj])
      simp only [Option.some.injEq] at hg'
      subst hg'
      rw [add_lit, Nat.zero_add]
      exact hcell)
    simp [h1, str]

end

theorem drop_at {α : Type} {l : List α} {i : Nat} {v : α} (h : l[i]? = some v) : l.drop i = v :: l.drop (i + 1) := by
  obtain ⟨h1, h2⟩ := List.getElem?_eq_some_iff.1 h
  rw [List.drop_eq_getElem_cons h1, h2]
theorem take_at {α : Type} {l : List α} {i : Nat} {v : α} (h : l[i]? = some v) : l.take (i + 1) = l.take i ++ [v] := by
  rw [List.take_add_one, h]; rfl
/-- The text of a mark. -/
def mtAcc (k : Nat) (out : Str) : Str := if h : k = 0 then out else mtAcc (k / 10) (UInt8.ofNat (48 + k % 10) :: out)
termination_by k
decreasing_by omega
theorem mtAcc_step {k : Nat} {out : Str} (h : 0 < k) : mtAcc (k / 10) ([UInt8.ofNat (48 + k % 10)] ++ out) = mtAcc k out := by
  rw [mtAcc.eq_1 k, dif_neg (by omega)]
  rfl
theorem mtAcc_zero {k : Nat} {out : Str} (h : k = 0) : mtAcc k out = out := by
  subst h
  rw [mtAcc]; rfl
end Go.Proofs.YtghfijncihbojaaGreat

set_option linter.unusedSimpArgs false
set_option linter.unusedVariables false
set_option linter.unnecessarySimpa false
namespace Go.Proofs.YtghfijncihbojaaGreat
open Go Go.RowKit

/-- Where a piece of a slice begins. -/
def subA (k : Nat) (a : Option Addr) (c lo : Nat) : Option Addr := if c = lo then a else a.map fun g => ⟨g.block, g.off + lo * k, none⟩

section
variable {P : Program} {ops : Array Oper} {Q : Exit → Act → World → Prop} {n : Nat} {w0 w : World} {D : List Nat} {L : List Res} {e : Env}
variable {d : Option Tmp} {ty : TypeId} {pos : String} {aft : Array Edge} {gd : Option (Nat × Bool)}

theorem sub_add {k c lo : Nat} {a : Option Addr} (ha : a.bind (·.spot) = none) : (if c = lo then a else a.map (·.add (lo * k))) = subA k a c lo := by
  unfold subA
  split
  · rfl
  · cases a with
    | none => rfl
    | some g =>
      obtain ⟨b, o, s⟩ := g
      simp only [Option.bind_some] at ha
      subst ha
      simp [add_lit]
theorem sub_zero {k c : Nat} {a : Option Addr} (ha : a.bind (·.spot) = none) : subA k a c 0 = a := by
  unfold subA
  split
  · rfl
  · cases a with
    | none => rfl
    | some g =>
      obtain ⟨b, o, s⟩ := g
      simp only [Option.bind_some] at ha
      subst ha
      simp

theorem elem_of {t el : TypeId} (ht : P.underlying t = some (.slice el)) : P.underlying t = some (.slice (P.elem t)) := by
  have : P.elem t = el := by simp [Program.elem, ht]
  rw [this]; exact ht

theorem PO.sliceVl {x lo : Operand} {a : Option Addr} {m c i k : Nat} {q : IntKind} {t el : TypeId} (ht : P.underlying t = some (.slice el)) (hs : ∀ w, (sizeOf el).run P w = .ok k w) (ha : a.bind (·.spot) = none)
    (hx : rd n e x = .slice a m c) (hl : rd n e lo = .int q i) (h1 : i ≤ m) : PO P n e ⟨d, .slice t x (some lo) none none, ty, pos, aft, gd⟩ (.slice (subA k a c i) (m - i) (c - i)) := fun w => by
  have hsub := sub_add (k := k) (c := c) (lo := i) ha
  simp [execOp, run_sliceAt_slice _ _ _ _ _ _ (elem_of ht), Instr.slice, run_underlying ht, hx, hl, Instr.sliceBounds, Instr.sliceBound, asIntOf, hs, h1, hsub]
theorem PO.sliceVh {x hi : Operand} {a : Option Addr} {m c j k : Nat} {q : IntKind} {t el : TypeId} (ht : P.underlying t = some (.slice el)) (hs : ∀ w, (sizeOf el).run P w = .ok k w) (ha : a.bind (·.spot) = none)
    (hx : rd n e x = .slice a m c) (hh : rd n e hi = .int q j) (h1 : j ≤ c) : PO P n e ⟨d, .slice t x none (some hi) none, ty, pos, aft, gd⟩ (.slice a j c) := fun w => by
  have hsub := sub_add (k := k) (c := c) (lo := 0) ha
  rw [sub_zero ha] at hsub
  have hsub' : (if c = 0 then a else a.map (·.add 0)) = a := by rw [Nat.zero_mul] at hsub; exact hsub
  simp [execOp, run_sliceAt_slice _ _ _ _ _ _ (elem_of ht), Instr.slice, run_underlying ht, hx, hh, Instr.sliceBounds, Instr.sliceBound, asIntOf, hs, h1, hsub']

/-- What is seen of a piece. -/
theorem Sees.sub {a : Option Addr} {k m c : Nat} {cs : List Value} (h : Sees w (.slice a m c) k m cs) (lo hi : Nat) (h1 : lo ≤ hi) (h2 : hi ≤ m) :
    Sees w (.slice (subA k a c lo) (hi - lo) (c - lo)) k (hi - lo) ((cs.drop (lo * k)).take ((hi - lo) * k)) := by
  obtain ⟨hl, h⟩ := h
  have e1 : lo * k + (hi - lo) * k = hi * k := by rw [← Nat.add_mul]; congr 1; omega
  have e2 : hi * k ≤ m * k := Nat.mul_le_mul_right k h2
  refine ⟨by rw [List.length_take, List.length_drop, hl]; omega, ?_⟩
  rcases h with ⟨hv, rfl⟩ | ⟨b, o, cap, hv, h3, h4, h5, h6⟩
  · simp only [Value.slice.injEq] at hv
    obtain ⟨rfl, _, rfl⟩ := hv
    have : lo = 0 := by omega
    subst this
    have : hi = 0 := by omega
    subst this
    exact .inl ⟨by simp [subA], rfl⟩
  · simp only [Value.slice.injEq] at hv
    obtain ⟨rfl, _, rfl⟩ := hv
    unfold subA
    split
    · rename_i hc
      have hz : hi - lo = 0 := by omega
      rw [hz]
      refine .inr ⟨b, o, c - lo, rfl, by omega, by omega, h5, fun j u hj => ?_⟩
      simp at hj
    · refine .inr ⟨b, o + lo * k, c - lo, rfl, by omega, by omega, h5, fun j u hj => ?_⟩
      rw [List.getElem?_take] at hj
      split at hj
      · rw [List.getElem?_drop] at hj
        have := h6 _ _ hj
        rwa [← Nat.add_assoc] at this
      · cases hj
theorem Sees.hi {a : Option Addr} {k m c : Nat} {cs : List Value} (h : Sees w (.slice a m c) k m cs) (hi : Nat) (h2 : hi ≤ m) : Sees w (.slice a hi c) k hi (cs.take (hi * k)) := by
  have h0 := h.sub 0 hi (Nat.zero_le _) h2
  have ha : a.bind (·.spot) = none := by
    rcases h.2 with ⟨hv, _⟩ | ⟨b, o, cap, hv, _⟩ <;> (simp only [Value.slice.injEq] at hv; obtain ⟨rfl, _⟩ := hv; rfl)
  rw [sub_zero ha] at h0
  simpa using h0

/-- Cells laid behind a slice whose row is owned. -/
theorem St.storeRow (hw : St w0 D L w) {i el k m c o : Nat} {a : Option Addr} {cs vs : List Value} (hL : L[i]? = some (.row (.slice a m c) el k m cs)) (h0 : 0 < vs.length) (hfit : o + vs.length ≤ cs.length) (h1 : ∀ u ∈ vs, u.oneCell' = true) :
    ∃ g, a = some ⟨g, 0, none⟩ ∧ ∃ w', (storeCells ⟨g, o, none⟩ vs).run P w = .ok () w' ∧ St w0 D (L.set i (.row (.slice a m c) el k m (cs.take o ++ vs ++ cs.drop (o + vs.length)))) w' := by
  have hrow := hw.get hL
  have hcl := hrow.1
  rcases hrow.2 with ⟨hvv, hm0⟩ | ⟨g, cap, cur, hvv, hg0, hg, h2, h3, h4, h5⟩
  · subst hm0
    simp only [Nat.zero_mul] at hcl
    omega
  · simp only [Value.slice.injEq] at hvv
    obtain ⟨rfl, _, rfl⟩ := hvv
    have hcur : cs.length ≤ cur.size := by rw [← h5, List.length_take, Array.length_toList]; exact Nat.min_le_right _ _
    have hst := run_storeCells_R P g o el vs 0 cur w hg (by omega) h1
    simp only [Nat.add_zero] at hst
    refine ⟨g, rfl, _, hst, ?_⟩
    refine hw.turn1 hL rfl rfl rfl (by simp) (fun q _ hq => setRow_other w g q _ (by simpa [Res.ids, Value.ownBlock] using hq)) ?_ (by simp [Res.ids, Value.ownBlock]) (fun q hq => .inl (by simpa [Res.ids, Value.ownBlock] using hq))
    refine ⟨?_, .inr ⟨g, c, _, rfl, hg0, hg.setRow (by simp only [List.size_toArray, List.length_append, List.length_take, List.length_drop, Array.length_toList]; omega), h2, h3, ?_, ?_⟩⟩
    · rw [List.length_append, List.length_append, List.length_take, List.length_drop]
      omega
    · simp only [List.size_toArray, List.length_append, List.length_take, List.length_drop, Array.length_toList]
      omega
    · show (cur.toList.take o ++ vs ++ cur.toList.drop (o + vs.length)).take (m * k) = _
      have e1 : cs.take o = cur.toList.take o := by rw [← h5, List.take_take, Nat.min_eq_left (by omega)]
      have e2 : cs.drop (o + vs.length) = (cur.toList.drop (o + vs.length)).take (m * k - (o + vs.length)) := by rw [← h5, List.drop_take]
      rw [e1, e2, List.take_append]
      have e3 : (cur.toList.take o ++ vs).length = o + vs.length := by
        rw [List.length_append, List.length_take, Array.length_toList]; omega
      rw [e3, List.take_of_length_le (by rw [e3]; omega)]

/-- The first cells of what a copy takes. -/
def Fst (P : Program) (w : World) (k q : Nat) (x : Value) (news : List Value) : Prop := ∀ w', w'.heap = w.heap → (Builtin.firstCells k q x).run P w' = .ok news.toArray w'
theorem Fst.sees {k m q c : Nat} {a : Option Addr} {cs : List Value} (h : Sees w (.slice a m c) k m cs) (hq : q ≤ m) : Fst P w k q (.slice a m c) (cs.take (q * k)) := by
  obtain ⟨hl, h⟩ := h
  intro w' hw'
  rcases h with ⟨hv, rfl⟩ | ⟨b, o, cap, hv, h2, h3, h4, h5⟩
  · simp only [Value.slice.injEq] at hv
    obtain ⟨rfl, -, rfl⟩ := hv
    have : q = 0 := by omega
    subst this
    simp [Builtin.firstCells]
  · simp only [Value.slice.injEq] at hv
    obtain ⟨rfl, -, rfl⟩ := hv
    refine run_firstCells_some w' k q ⟨b, o, none⟩ m c _ ?_ fun j v hj => ?_
    · rw [List.length_take, hl]
      exact Nat.min_eq_left (Nat.mul_le_mul_right k hq)
    · rw [add_lit]
      rw [List.getElem?_take] at hj
      split at hj
      · have := h5 j v hj
        simpa [World.cell?, hw'] using this
      · cases hj

/-- copy into a row that is owned. -/
theorem JO.copy (i : Nat) {x y : Operand} {t t' el k m c lo dl dc q sl sc : Nat} {a sa : Option Addr} {cs news cs' : List Value} (hL : L[i]? = some (.row (.slice a m c) el k m cs)) (ht : P.underlying t = some (.slice el)) (hs : ∀ w, (sizeOf el).run P w = .ok k w)
    (hx : rd n e x = .slice (subA k a c lo) dl dc) (hy : rd n e y = .slice sa sl sc) (hq : Nat.min sl dl = q) (hfit : lo + q ≤ m) (h0 : 0 < q) (hk : 0 < k) (hmc : m ≤ c) (hsrc : ∀ w, St w0 D L w → Fst P w k q (.slice sa sl sc) news) (hnl : news.length = q * k)
    (hone : ∀ u ∈ news, u.oneCell' = true) (hc : cs.take (lo * k) ++ news ++ cs.drop (lo * k + news.length) = cs') :
    JO P n w0 D L e ⟨d, .call ⟨.builtin .copy, #[x, y], #[t, t']⟩, ty, pos, aft, gd⟩ (fun v L' => L' = L.set i (.row (.slice a m c) el k m cs')) := JO.ofRun fun w hw => by
  have hcl := (hw.get hL).1
  have hqk : 0 < q * k := Nat.mul_pos h0 hk
  have e1 : lo * k + q * k = (lo + q) * k := by rw [Nat.add_mul]
  have e2 : (lo + q) * k ≤ m * k := Nat.mul_le_mul_right k hfit
  obtain ⟨g, rfl, w', hst, hw'⟩ := hw.storeRow (P := P) hL (o := lo * k) (vs := news) (by omega) (by omega) hone
  have hsub : subA k (some ⟨g, 0, none⟩) c lo = some ⟨g, lo * k, none⟩ := by
    unfold subA
    rw [if_neg (by omega)]
    simp
  rw [hsub] at hx
  rw [hc] at hw'
  have hf := hsrc w hw w rfl
  refine ⟨goInt q, _, w', ?_, rfl, hw'⟩
  simp [execOp, resolve, invoke, builtin, hx, hy, Builtin.copy_, run_underlying ht, hs, Builtin.lenOf, hq, hf, hst]

/-- clear(s[lo:]), where the row is owned. -/
theorem JO.clear (i : Nat) {x : Operand} {t el k m c lo dc : Nat} {a : Option Addr} {cs : List Value} {z : Value} (hL : L[i]? = some (.row (.slice a m c) el k m cs)) (ht : P.underlying t = some (.slice el)) (hz : ∀ w, (zeroValue el).run P w = .ok z w) (hzc : z.cells.size = k) (hzo : ∀ u ∈ z.cells, u.oneCell' = true)
    (hx : rd n e x = .slice (subA k a c lo) (m - lo) dc) (hk : 0 < k) (hlo : lo ≤ m) (hmc : m ≤ c) :
    JO P n w0 D L e ⟨d, .call ⟨.builtin .clear, #[x], #[t]⟩, ty, pos, aft, gd⟩ (fun v L' => ∃ zs : List Value, zs.length = (m - lo) * k ∧ L' = L.set i (.row (.slice a m c) el k m (cs.take (lo * k) ++ zs))) := JO.ofRun fun w hw => by
  have hcl := (hw.get hL).1
  by_cases h0 : lo = m
  · subst h0
    refine ⟨.tuple #[], _, w, ?_, ⟨[], by simp, rfl⟩, ?_⟩
    · cases hsub : subA k a c lo with
      | none => simp [execOp, resolve, invoke, builtin, hx, hsub, Builtin.clear_, run_underlying ht]
      | some g => simp [execOp, resolve, invoke, builtin, hx, hsub, Builtin.clear_, run_underlying ht]
    · rw [List.append_nil, List.take_of_length_le (by omega)]
      have : L.set i (.row (.slice a lo c) el k lo cs) = L := List.ext_getElem? fun j => by
        rw [List.getElem?_set]
        split
        · rename_i hij; subst hij; split <;> simp_all
        · rfl
      rw [this]; exact hw
  · have hn : (Builtin.zeroCells z.cells (m - lo)).size = (m - lo) * k := by rw [size_zeroCells, hzc]
    have hpos : 0 < (m - lo) * k := Nat.mul_pos (by omega) hk
    have e1 : lo * k + (m - lo) * k = m * k := by rw [← Nat.add_mul]; congr 1; omega
    have hone : ∀ u ∈ (Builtin.zeroCells z.cells (m - lo)).toList, u.oneCell' = true := by
      intro u hu
      simp only [Builtin.zeroCells, Array.toList_map, List.mem_map, Array.mem_toList_iff, Array.mem_range] at hu
      obtain ⟨j, hj, rfl⟩ := hu
      have hjk : j % z.cells.size < z.cells.size := Nat.mod_lt _ (by omega)
      rw [getElem!_pos z.cells (j % z.cells.size) hjk]
      exact hzo _ (Array.getElem_mem hjk)
    obtain ⟨g, rfl, w', hst, hw'⟩ := hw.storeRow (P := P) hL (o := lo * k) (vs := (Builtin.zeroCells z.cells (m - lo)).toList) (by rw [Array.length_toList, hn]; exact hpos) (by rw [Array.length_toList, hn]; omega) hone
    have hsub : subA k (some ⟨g, 0, none⟩) c lo = some ⟨g, lo * k, none⟩ := by
      unfold subA
      rw [if_neg (by omega)]
      simp
    rw [hsub] at hx
    rw [List.drop_of_length_le (by simp only [Array.length_toList, hn]; omega), List.append_nil] at hw'
    refine ⟨.tuple #[], _, w', ?_, ⟨_, by rw [Array.length_toList, hn], rfl⟩, hw'⟩
    have hne : m - lo ≠ 0 := by omega
    obtain ⟨p, hp⟩ : ∃ p, m - lo = p + 1 := ⟨m - lo - 1, by omega⟩
    rw [hp] at hx hst
    simp [execOp, resolve, invoke, builtin, hx, Builtin.clear_, run_underlying ht, hz, hst]

/-- A row told by its front, its room told smaller. -/
theorem St.clip (hw : St w0 D L w) {i el k m c : Nat} {a : Option Addr} {cs cs' : List Value} (hL : L[i]? = some (.row (.slice a m c) el k m cs)) (q z : Nat) (hq : q ≤ m) (hqz : q ≤ z) (hz : z ≤ c) (hc : cs.take (q * k) = cs') :
    St w0 D (L.set i (.row (.slice a q z) el k q cs')) w := by
  subst hc
  have hrow := hw.get hL
  have hcl := hrow.1
  have e0 : q * k ≤ m * k := Nat.mul_le_mul_right k hq
  have e1 : z * k ≤ c * k := Nat.mul_le_mul_right k hz
  refine hw.turn1 hL rfl rfl rfl (Nat.le_refl _) (fun _ _ _ => rfl) ?_ (by cases a <;> simp [Res.ids, Value.ownBlock]) (fun q' hq' => .inl (by
    cases a with
    | none => simp [Res.ids, Value.ownBlock] at hq'
    | some g => simpa [Res.ids, Value.ownBlock] using hq'))
  rcases hrow.2 with ⟨hvv, hm0⟩ | ⟨g, cap, cur, hvv, hg0, hg, h2, h3, h4, h5⟩
  · simp only [Value.slice.injEq] at hvv
    obtain ⟨rfl, rfl, rfl⟩ := hvv
    have : q = 0 := by omega
    subst this
    have : z = 0 := by omega
    subst this
    refine ⟨?_, .inl ⟨rfl, rfl⟩⟩
    simp
  · simp only [Value.slice.injEq] at hvv
    obtain ⟨rfl, _, rfl⟩ := hvv
    refine ⟨by rw [List.length_take, hcl]; omega, .inr ⟨g, z, cur, rfl, hg0, hg, hqz, by omega, by omega, ?_⟩⟩
    rw [← h5, List.take_take, Nat.min_eq_left e0]
/-- append, the row and its length read otherwise. -/
theorem kM (i : Nat) {t u el k m c q by' n' : Nat} {x y : Operand} {vy : Value} {a : Option Addr} {cs news cs' : List Value} {ti : TypeInfo} {z : Value} {el2 : TypeId}
    (hL : L[i]? = some (.row (.slice a m c) el k m cs)) (ht : P.underlying t = some (.slice el)) (hu : P.underlying u = some (.slice el2))
    (hti : ∀ w, (typeInfo el).run P w = .ok ti w) (hk : ti.size = k) (hby : ti.bytes = by') (hz : ti.zero = some z) (hzc : z.cells.size = k)
    (hx : rd n e x = .slice a m c) (hy : rd n e y = vy) (hsrc : ∀ w, St w0 D L w → Src P w k q vy news) (hb : (m + q) * by' ≤ 140737488355328) (hmax : m + q ≤ 9223372036854775807) (hn : m + q = n') (hc : cs ++ news = cs') :
    JO P n w0 D L e ⟨d, .call ⟨.builtin .append, #[x, y], #[t, u]⟩, ty, pos, aft, gd⟩ (fun v L' => ∃ a' c', v = .slice a' n' c' ∧ L' = L.set i (.row (.slice a' n' c') el k n' cs')) := by
  subst hn; subst hc
  exact JO.append i hL ht hu hti hk hby hz hzc hx hy hsrc hb hmax

end

theorem flat_takeN {α : Type} {enc : α → List Value} {k : Nat} (hk : ∀ x, (enc x).length = k) : ∀ (xs : List α) (i : Nat), (xs.flatMap enc).take (i * k) = (xs.take i).flatMap enc
  | [], i => by simp
  | x :: xs, 0 => by simp
  | x :: xs, i + 1 => by
    have e1 : (i + 1) * k = (enc x).length + i * k := by rw [hk, Nat.succ_mul, Nat.add_comm]
    rw [List.take_succ_cons, List.flatMap_cons, List.flatMap_cons, e1, List.take_length_add_append, flat_takeN hk xs i]
theorem flat_dropN {α : Type} {enc : α → List Value} {k : Nat} (hk : ∀ x, (enc x).length = k) : ∀ (xs : List α) (i : Nat), (xs.flatMap enc).drop (i * k) = (xs.drop i).flatMap enc
  | [], i => by simp
  | x :: xs, 0 => by simp
  | x :: xs, i + 1 => by
    have e1 : (i + 1) * k = (enc x).length + i * k := by rw [hk, Nat.succ_mul, Nat.add_comm]
    rw [List.drop_succ_cons, List.flatMap_cons, e1, List.drop_length_add_append, flat_dropN hk xs i]
theorem subS {w : World} {a : Option Addr} {c : Nat} {s : List Str} (h : Sees w (.slice a s.length c) 1 s.length (s.map str)) (lo hi : Nat) (h1 : lo ≤ hi) (h2 : hi ≤ s.length) : Sees w (.slice (subA 1 a c lo) (hi - lo) (c - lo)) 1 (hi - lo) (((s.drop lo).take (hi - lo)).map str) := by
  have := h.sub lo hi h1 h2
  rw [← List.map_drop, ← List.map_take] at this
  simpa using this
theorem hiS {w : World} {a : Option Addr} {c : Nat} {s : List Str} (h : Sees w (.slice a s.length c) 1 s.length (s.map str)) (hi : Nat) (h2 : hi ≤ s.length) : Sees w (.slice a hi c) 1 hi ((s.take hi).map str) := by
  have := h.hi hi h2
  rw [← List.map_take] at this
  simpa using this
theorem sees_fits {w : World} {a : Option Addr} {k m m' c : Nat} {cs : List Value} (h : Sees w (.slice a m c) k m' cs) : m ≤ c ∧ c ≤ maxLen ∧ a.bind (·.spot) = none ∧ cs.length = m' * k := by
  obtain ⟨hl, h⟩ := h
  rcases h with ⟨hv, rfl⟩ | ⟨b, o, cap, hv, h1, h2, _⟩
  · simp only [Value.slice.injEq] at hv
    obtain ⟨rfl, rfl, rfl⟩ := hv
    exact ⟨Nat.le_refl _, Nat.zero_le _, rfl, hl⟩
  · simp only [Value.slice.injEq] at hv
    obtain ⟨rfl, rfl, rfl⟩ := hv
    exact ⟨h1, h2, rfl, hl⟩
theorem sees_none {w : World} {k m m' c : Nat} {cs : List Value} (h : Sees w (.slice none m c) k m' cs) : m' = 0 := by
  rcases h.2 with ⟨_, h0⟩ | ⟨b, o, c', hv, _⟩
  · exact h0
  · simp at hv
theorem PO.eqNil {P : Program} {n : Nat} {e : Env} {d : Option Tmp} {ty : TypeId} {pos : String} {aft : Array Edge} {gd : Option (Nat × Bool)} {x y : Operand} {a : Option Addr} {m c : Nat} {t u el : TypeId} (ht : P.underlying t = some (.slice el)) (hx : rd n e x = .slice a m c) (hy : rd n e y = .slice none 0 0) :
    PO P n e ⟨d, .binOp .eql t x y u, ty, pos, aft, gd⟩ (.bool a.isNone) := fun w => by
  have h := run_equal_slice_nil (P := P) w t el a m c ht
  simp [execOp, hx, hy, eqGuard, binOp, h]
theorem JQ.nilrow (el k : Nat) {Q : Exit → Act → World → Prop} {x : Exit} {n : Nat} {w0 : World} {D : List Nat} {L : List Res} {e : Env} (h : JQ Q x n w0 D (.row (.slice none 0 0) el k 0 [] :: L) e) : JQ Q x n w0 D L e := fun w hw => by
  refine h w ⟨⟨fun r hr => ?_, ?_, ?_, hw.room, hw.glob⟩, hw.os, hw.tape, hw.output, hw.size, ?_, hw.keep⟩
  · rcases List.mem_cons.1 hr with rfl | hr
    · exact ⟨by simp, .inl ⟨rfl, rfl⟩⟩
    · exact hw.holds r hr
  · simpa [idsOf, Res.ids, Value.ownBlock] using hw.nodup
  · intro i hi
    exact hw.low i (by simpa [idsOf, Res.ids, Value.ownBlock] using hi)
  · intro i hi
    exact hw.fresh i (by simpa [idsOf, Res.ids, Value.ownBlock] using hi)
theorem notin_bk {v : Value} {kb t : Nat} {cs : List Value} (h : ∀ b, v.ownBlock = some b → b ≠ kb) : ∀ b, v.ownBlock = some b → b ∉ idsOf [bk kb t cs] := fun b hb hm => by
  simp only [idsOf, Res.ids, List.flatMap_cons, List.flatMap_nil, List.append_nil, List.mem_singleton] at hm
  exact h b hb hm
theorem St.apartO {w0 w : World} {D : List Nat} {L : List Res} (hw : St w0 D L w) (i j : Nat) (hij : Nat.beq i j = false) {v : Value} {t k m kb t' : Nat} {cs cs' : List Value} (hL : L[i]? = some (.row v t k m cs)) (hL' : L[j]? = some (bk kb t' cs')) : ∀ b, v.ownBlock = some b → b ≠ kb := fun b hb he => by
  subst he
  have hne : i ≠ j := fun h => by subst h; simp at hij
  have hnd' := (idsOf_perm (perm_erase i _ hL)).nodup_iff.1 hw.nodup
  rw [idsOf_cons, List.nodup_append] at hnd'
  have hmem : (bk b t' cs' : Res) ∈ L.eraseIdx i := by
    rw [List.mem_eraseIdx_iff_getElem?]
    exact ⟨j, fun h => hne h.symm, hL'⟩
  exact hnd'.2.2 b (by simp [Res.ids, hb]) b (mem_idsOf.2 ⟨_, hmem, by simp [Res.ids]⟩) rfl
theorem St.apartF {w0 w : World} {D : List Nat} {L : List Res} (hw : St w0 D L w) (j : Nat) {v : Value} {k m kb t' : Nat} {cs cs' : List Value} (hs : Sees w0 v k m cs) (hL' : L[j]? = some (bk kb t' cs')) (hD : kb ∉ D) : ∀ b, v.ownBlock = some b → b ≠ kb := fun b hb he => by
  subst he
  have h1 : b ∈ idsOf L := mem_idsOf.2 ⟨_, List.mem_of_getElem? hL', by simp [Res.ids]⟩
  have h2 : w0.heap.size ≤ b := (hw.fresh b h1).resolve_left hD
  rcases hs.2 with ⟨rfl, _⟩ | ⟨b', o, c, rfl, _, _, h3, _⟩
  · simp [Value.ownBlock] at hb
  · simp only [Value.ownBlock, Option.some.injEq] at hb
    omega
theorem fits_of {w0 : World} {D : List Nat} {L : List Res} (h : ∃ w, St w0 D L w) {i t k m m' c : Nat} {a : Option Addr} {cs : List Value} (hL : L[i]? = some (.row (.slice a m c) t k m' cs)) : m ≤ c ∧ c ≤ maxLen ∧ a.bind (·.spot) = none ∧ cs.length = m' * k := by
  obtain ⟨w, hw⟩ := h
  obtain ⟨hl, a', c', hv, h1, h2, h3, h4, _⟩ := row_form (hw.get hL)
  simp only [Value.slice.injEq] at hv
  obtain ⟨rfl, rfl, rfl⟩ := hv
  exact ⟨h2, h3, h4, hl⟩

end Go.Proofs.YtghfijncihbojaaGreat

set_option linter.unusedSimpArgs false
set_option linter.unusedVariables false
set_option linter.unnecessarySimpa false
namespace Go.Proofs.YtghfijncihbojaaGreat
open Go Go.RowKit

/-- A cut: what stands behind is told once, whatever way led there. -/
def Cut (n : Nat) (w0 : World) (D : List Nat) (I : Env → List Res → Prop) : Exit → Act → World → Prop := fun x a w => x = .normal ∧ ∃ e' L', a = act n e' ∧ St w0 D L' w ∧ I e' L'
section
variable {P : Program} {Q : Exit → Act → World → Prop} {n : Nat} {w0 : World} {D : List Nat} {L : List Res} {e : Env} {I : Env → List Res → Prop}
theorem NP.cut : NP (Cut n w0 D I) := fun c a w h => by cases h.1
theorem kT (h : I e L) : JQ (Cut n w0 D I) .normal n w0 D L e := fun _ hw => ⟨rfl, e, L, rfl, hw, h⟩
theorem JC.cut {c : Code} (I : Env → List Res → Prop) (h1 : JC P (Cut n w0 D I) n w0 D L c e) (h2 : ∀ e' L', I e' L' → JQ Q .normal n w0 D L' e') : JC P Q n w0 D L c e := fun w hw =>
  wp_mono (h1 w hw) fun x a w' hq => by
    obtain ⟨rfl, e', L', rfl, hst, hI⟩ := hq
    exact h2 e' L' hI w' hst
end
/- the same with what can be found left out -/
section
variable {P : Program} {ops : Array Oper} {Q : Exit → Act → World → Prop} {n : Nat} {w0 : World} {D : List Nat} {L M : List Res} {e : Env} {z fuel : Nat} {listed : Array Bool}
theorem jh (i : Nat) {oi : Oper} {v : Value} (hi : ops[i]? = some oi) (hy : LO P n w0 D M e oi v) (h : JA P ops Q n w0 D M z fuel (listed.setIfInBounds i true) L (updO e oi.dst v))
    (hQ : NP Q := by repeat (first | with_reducible refine NP.th ?_ | with_reducible refine NP.bl ?_ | with_reducible exact NP.body | with_reducible exact NP.cut)) (hs : Region.noSelect ops = true := by kernel_rfl) (hz : lateB ops z i = true := by kernel_rfl) (hf : Region.free .any ops listed i = true := by kernel_rfl)
    (hr : (Region.ready .any ops listed).contains i = true := by kernel_rfl) (hg : oi.guard = none := by rfl) : JA P ops Q n w0 D M z (fuel + 1) listed L e := JA.take i hi hs hQ hz hf hr hg hy h
theorem jI (i : Nat) {oi : Oper} {v : Value} (hi : ops[i]? = some oi) (hy : PO P n e oi v) (h : JA P ops Q n w0 D M z fuel (listed.setIfInBounds i true) L (updO e oi.dst v))
    (hQ : NP Q := by repeat (first | with_reducible refine NP.th ?_ | with_reducible refine NP.bl ?_ | with_reducible exact NP.body | with_reducible exact NP.cut)) (hs : Region.noSelect ops = true := by kernel_rfl) (hf : Region.free .any ops listed i = true := by kernel_rfl)
    (hr : (Region.ready .any ops listed).contains i = true := by kernel_rfl) (hg : oi.guard = none := by rfl) : JA P ops Q n w0 D M z (fuel + 1) listed L e := kd i hi hs hQ hf hr hg hy h
theorem jQ {i : Nat} (h : JX P ops Q n w0 D M z fuel listed L e i) (hr : Region.ready .any ops listed = [i] := by kernel_rfl) : JA P ops Q n w0 D M z (fuel + 1) listed L e := JA.one hr h
theorem jx {i : Nat} {o : Oper} {Φ : Value → List Res → Prop} (hi : ops[i]? = some o) (ho : JO P n w0 D L e o Φ) (h : ∀ v L', Φ v L' → JQ Q .normal n w0 D L' (updO e o.dst v))
    (hg : o.guard = none := by rfl) (hiz : z ≤ i := by decide) (hr : Region.ready .any ops (listed.setIfInBounds i true) = [] := by kernel_rfl) : JX P ops Q n w0 D M z fuel listed L e i := JX.last hi hg hiz hr ho h
theorem kF {i : Nat} {o : Oper} {Φ : Value → List Res → Prop} (hi : ops[i]? = some o) (ho : JO P n w0 D L e o Φ) (h : ∀ v L', Φ v L' → JA P ops Q n w0 D [] z fuel (listed.setIfInBounds i true) L' (updO e o.dst v))
    (hg : o.guard = none := by rfl) (hiz : z ≤ i := by decide) (hl : ((List.range listed.size).all fun k => Nat.ble z k || listed.getD k true) = true := by kernel_rfl) : JX P ops Q n w0 D M z fuel listed L e i := JX.late hi hg hiz hl ho h
theorem JL.o {o : Oper} {rest : List Oper} {Φ : Value → List Res → Prop} (ho : JO P n w0 D L e o Φ) (h : ∀ v L', Φ v L' → JL P ops Q n w0 D L' rest (updO e o.dst v)) (hg : o.guard = none := by rfl) : JL P ops Q n w0 D L (o :: rest) e := jH hg ho h
theorem jA {o : Oper} {rest : List Oper} {v : Value} (ho : PO P n e o v) (h : JL P ops Q n w0 D L rest (updO e o.dst v)) (hg : o.guard = none := by rfl) : JL P ops Q n w0 D L (o :: rest) e := jd hg ho h
theorem jK {o : Oper} {rest : List Oper} {v : Value} (ho : LO P n w0 D L e o v) (h : JL P ops Q n w0 D L rest (updO e o.dst v)) (hg : o.guard = none := by rfl) : JL P ops Q n w0 D L (o :: rest) e := km hg ho h
end
end Go.Proofs.YtghfijncihbojaaGreat

set_option linter.unusedSimpArgs false
set_option linter.unusedVariables false
set_option linter.unnecessarySimpa false
namespace Go.Proofs.YtghfijncihbojaaGreat
open Go Go.RowKit
attribute [local irreducible] JL JC JQ JO LO PO JA JX Ct

theorem C_cloneS (a : Option Addr) (c : Nat) (s : List Str) (hn : s.length ≤ 1000000000000) :
    Ct Tryz.prog 121 [.slice a s.length c] [] (fun w_ => Sees w_ (.slice a s.length c) 1 s.length (s.map str)) (fun v A' => ∃ a' c', v = .slice a' s.length c' ∧ A' = [.row (.slice a' s.length c') 9 1 s.length (s.map str)]) := by
  refine Ct.intro Tryz.func121 rfl Tryz.ntmps121 (lb rfl) fun w0 hpre => ?_
  have hs_a : Sees w0 _ _ _ _ := hpre
  refine jC <| jE <| jd rfl (jG (v := .slice none 0 0) rfl) <| jD <| jB <| jC <| jC <| jE <| jd rfl (jF (v := .slice a s.length c) rfl) <| jd rfl (PO.eqNil ks rfl rfl) ?_
  refine jD <| jB ?_
  rcases Bool.eq_false_or_eq_true (a.isNone) with h_1 | h_1
  · refine jO (cB h_1) <| jC <| jE <| jd rfl (jG (v := .slice none 0 0) rfl) <| jD <| jB <| jL <| jW <| JQ.nilrow 9 1 <| jR (.inl rfl) rfl (jN (v := .slice none 0 0) rfl) (List.Sublist.refl _) ?_
    have ha : a = none := by simpa using h_1
    have hz : s.length = 0 := sees_none (ha ▸ hpre)
    have hs0 : s = [] := List.length_eq_zero_iff.1 hz
    subst hs0
    exact ⟨none, 0, rfl, rfl⟩
  refine jP (cB h_1) <| jU <| jB <| jC <| jE ?_
  refine jH rfl (kJ (ps := []) (cur := #[]) ks kw gQ rfl (by kernel_rfl) (by decide) (by decide)) ?_
  rintro _ _ ⟨a_2, rfl, rfl⟩
  refine jd rfl (jF (v := .slice a s.length c) rfl) ?_
  refine jH rfl (kM 0 (q := s.length) (news := s.map str) (n' := s.length) (cs' := s.map str) rfl ks ks gO rfl (by' := 16) rfl rfl rfl rfl rfl (fun w hw => Src.sees (hw.seeOut_ hs_a nM) (oneS _)) (by (try simp only [LE]); omega) (by (try simp only [LE]); omega) (by (try simp only [List.length_take, List.length_drop]); first | rfl | omega) rfl) ?_
  rintro _ _ ⟨a_3, c_4, rfl, rfl⟩
  refine jd rfl (jG (v := .slice a_3 s.length c_4) rfl) <| jD <| jB <| jL <| jR (.inl rfl) rfl (jN (v := .slice a_3 s.length c_4) rfl) (List.Sublist.refl _) ?_
  exact ⟨_, _, rfl, rfl⟩

end Go.Proofs.YtghfijncihbojaaGreat

set_option linter.unusedSimpArgs false
set_option linter.unusedVariables false
set_option linter.unnecessarySimpa false
namespace Go.Proofs.YtghfijncihbojaaGreat
open Go Go.RowKit

@[reducible] def rC (a : Option Addr) (c : Nat) (s : List Cell) : Res := .row (.slice a s.length c) 167 2 s.length (s.flatMap encC)
@[reducible] def rS (a : Option Addr) (c : Nat) (l : List Str) : Res := .row (.slice a l.length c) 9 1 l.length (l.map str)
@[reducible] def rI (a : Option Addr) (c : Nat) (l : List Int) : Res := .row (.slice a l.length c) 3 1 l.length (l.map (Value.int .i64))

theorem Ct.weak {P : Program} {f : FuncId} {args : List Value} {A : List Res} {Pre Pre' : World → Prop} {Post Post' : Value → List Res → Prop} (h : Ct P f args A Pre Post) (hp : ∀ w, Pre' w → Pre w) (hq : ∀ v A', Post v A' → Post' v A') : Ct P f args A Pre' Post' :=
  fun w hA hw => (h w hA (hp w hw)).mono fun _ _ ⟨v, A', he, hv, hs⟩ => ⟨v, A', he, hq v A' hv, hs⟩

/-- A nil slice is a row that nobody owns a block for. -/
theorem St.nilRow {w0 w : World} {D : List Nat} {L : List Res} (hw : St w0 D L w) (t k : Nat) : St w0 D (.row (.slice none 0 0) t k 0 [] :: L) w := by
  have e : idsOf (.row (.slice none 0 0) t k 0 [] :: L) = idsOf L := by rw [idsOf_cons]; simp [Res.ids, Value.ownBlock]
  refine ⟨⟨fun r hr => ?_, by rw [e]; exact hw.nodup, by rw [e]; exact hw.low, hw.room, hw.glob⟩, hw.os, hw.tape, hw.output, hw.size, by rw [e]; exact hw.fresh, hw.keep⟩
  simp only [List.mem_cons] at hr
  rcases hr with rfl | hr
  · exact ⟨by simp, .inl ⟨rfl, rfl⟩⟩
  · exact hw.holds r hr
theorem JL.nilRow {P : Program} {ops : Array Oper} {Q : Exit → Act → World → Prop} {n : Nat} {w0 : World} {D : List Nat} {L : List Res} {e : Env} {l : List Oper} (t k : Nat) (h : JL P ops Q n w0 D (.row (.slice none 0 0) t k 0 [] :: L) l e) : JL P ops Q n w0 D L l e := fun w hw => h w (hw.nilRow t k)
theorem JC.nilRow {P : Program} {Q : Exit → Act → World → Prop} {n : Nat} {w0 : World} {D : List Nat} {L : List Res} {e : Env} {c : Code} (t k : Nat) (h : JC P Q n w0 D (.row (.slice none 0 0) t k 0 [] :: L) c e) : JC P Q n w0 D L c e := fun w hw => h w (hw.nilRow t k)

theorem JQ.nilRow {Q : Exit → Act → World → Prop} {x : Exit} {n : Nat} {w0 : World} {D : List Nat} {L : List Res} {e : Env} (t k : Nat) (h : JQ Q x n w0 D (.row (.slice none 0 0) t k 0 [] :: L) e) : JQ Q x n w0 D L e := fun w hw => h w (hw.nilRow t k)
theorem JA.nilRow {P : Program} {ops : Array Oper} {Q : Exit → Act → World → Prop} {n : Nat} {w0 : World} {D : List Nat} {L M : List Res} {e : Env} {z fuel : Nat} {listed : Array Bool} (t k : Nat) (h : JA P ops Q n w0 D M z fuel listed (.row (.slice none 0 0) t k 0 [] :: L) e) : JA P ops Q n w0 D M z fuel listed L e := fun w hw hq => h w (hw.nilRow t k) hq

section
variable {P : Program} {ops : Array Oper} {Q : Exit → Act → World → Prop} {n : Nat} {w0 : World} {D : List Nat} {L M : List Res} {e : Env} {z fuel : Nat} {listed : Array Bool}
theorem kQ (i : Nat) {oi : Oper} {j : Nat} {b : Bool} {t : Tmp} (hi : ops[i]? = some oi) (hs : Region.noSelect ops = true) (hQ : NP Q) (hf : Region.free .any ops listed i = true) (hr : (Region.ready .any ops listed).contains i = true)
    (hg : oi.guard = some (j, b)) (hj : (ops[j]?).bind (·.dst) = some t) (ht : Nat.blt t n = true) (hv : e t = undef) (h : JA P ops Q n w0 D M z fuel (listed.setIfInBounds i true) L (updO e oi.dst undef)) :
    JA P ops Q n w0 D M z (fuel + 1) listed L e := fun w hw hq => by
  have hlt : t < n := (Nat.blt_eq (x := t) (y := n)) ▸ ht
  have hyy : yielded ops (act n e).tmps j = none := by simp [yielded, hj, act, hlt, hv, undef]
  exact anyC.firstP hi hs hQ fuel listed (act n e) w (Region.free_spec hi hf) (by simpa using hr) (.inr ⟨by simp [Region.wanted, hg, hyy], rfl⟩) (by rw [act_put]; exact h w hw hq)
end
end Go.Proofs.YtghfijncihbojaaGreat

set_option linter.unusedSimpArgs false
set_option linter.unusedVariables false
set_option linter.unnecessarySimpa false
namespace Go.Proofs.YtghfijncihbojaaGreat
open Go Go.RowKit

theorem keyOk_bad {key : Str} {j : Nat} (h : j < key.length) (hb : keyByte (key.getD j 0) = false) : keyOk key = false := by
  have : key.all keyByte = false := by
    rw [List.all_eq_false]
    refine ⟨key.getD j 0, ?_, by rw [hb]; simp⟩
    rw [List.getD_eq_getElem?_getD, List.getElem?_eq_getElem h]
    exact List.getElem_mem h
  simp [keyOk, this]
theorem keyOk_good {key : Str} {j : Nat} (h : key.length ≤ j) (hb : ∀ i, i < j → i < key.length → keyByte (key.getD i 0) = true) : keyOk key = (decide (1 ≤ key.length) && decide (key.length ≤ 40)) := by
  have : key.all keyByte = true := by
    rw [List.all_eq_true]
    intro x hx
    obtain ⟨i, hi, rfl⟩ := List.getElem_of_mem hx
    have := hb i (by omega) hi
    rwa [List.getD_eq_getElem?_getD, List.getElem?_eq_getElem hi] at this
  simp [keyOk, this]
theorem addSpan_end {l : List Str} {x : Str} (h : findAt (fun y => geqB y x) l = l.length) : addSpan l x = l ++ [x] := by
  simp [addSpan, h]
theorem addSpan_same {l : List Str} {x : Str} (h : findAt (fun y => geqB y x) l < l.length) (he : l.getD (findAt (fun y => geqB y x) l) [] = x) : addSpan l x = l := by
  unfold addSpan
  simp only [h, if_true, he]
theorem addSpan_ins {l : List Str} {x : Str} (h : findAt (fun y => geqB y x) l < l.length) (he : ¬ l.getD (findAt (fun y => geqB y x) l) [] = x) : addSpan l x = insertAt (findAt (fun y => geqB y x) l) x l := by
  unfold addSpan
  simp only [h, if_true, he, if_false]
theorem addSpan_len (l : List Str) (x : Str) : l.length ≤ (addSpan l x).length ∧ (addSpan l x).length ≤ l.length + 1 := by
  unfold addSpan
  have h := findAt_le (fun y => geqB y x) l
  simp only
  split
  · split
    · omega
    · rw [insertAt_length _ _ _ h]; omega
  · simp
theorem putKey_bad1 {s : List Cell} {key val : Str} (h : keyOk key = false) : putKey s key val = s := by simp [putKey, h]
theorem putKey_bad2 {s : List Cell} {key val : Str} (h : 60 < val.length) : putKey s key val = s := by simp [putKey, h]
theorem putKey_nil {s : List Cell} {key val : Str} (h : keyOk key = true) (h2 : ¬ 60 < val.length) (hv : val = []) : putKey s key val = s.filter (fun c => !decide (c.1 = key)) := by
  unfold putKey
  rw [if_neg (by simp [h]; omega)]
  simp only [hv, if_true]
theorem putKey_ins {s : List Cell} {key val : Str} (h : keyOk key = true) (h2 : ¬ 60 < val.length) (hv : ¬ val = []) : putKey s key val = insertAt (findAt (fun c => gtrB c.1 key) (s.filter (fun c => !decide (c.1 = key)))) (key, val) (s.filter (fun c => !decide (c.1 = key))) := by
  unfold putKey
  rw [if_neg (by simp [h]; omega)]
  simp only [hv, if_false]
theorem putKey_len (s : List Cell) (key val : Str) : (putKey s key val).length ≤ s.length + 1 := by
  have h1 : (s.filter (fun c => !decide (c.1 = key))).length ≤ s.length := List.length_filter_le _ _
  unfold putKey
  simp only
  split
  · omega
  · split
    · omega
    · rw [insertAt_length _ _ _ (findAt_le _ _)]; omega
theorem look_len (m : MS) (key : Str) : (m.look key).1.s.length = m.s.length ∧ (m.look key).1.r.length ≤ m.r.length + 1 ∧ (m.look key).1.w.length = m.w.length := ⟨rfl, (addSpan_len _ _).2, rfl⟩
theorem lay_len (m : MS) (key val : Str) : (m.lay key val).s.length ≤ m.s.length + 1 ∧ (m.lay key val).r.length = m.r.length ∧ (m.lay key val).w.length ≤ m.w.length + 1 := ⟨putKey_len _ _ _, rfl, (addSpan_len _ _).2⟩
theorem readDec_lo (t : Str) : 0 ≤ (readDec t).1 ∧ (readDec t).1 ≤ 1000000000 := by
  unfold readDec
  split
  · split <;> simp_all
  · simp
theorem numOf_lo (t : Str) : 0 ≤ numOf t ∧ numOf t ≤ 999 := by
  have := readDec_lo t
  unfold numOf
  split <;> omega
end Go.Proofs.YtghfijncihbojaaGreat

set_option linter.unusedSimpArgs false
set_option linter.unusedVariables false
set_option linter.unnecessarySimpa false
namespace Go.Proofs.YtghfijncihbojaaGreat
open Go Go.RowKit

theorem sees_nil {w : World} (k : Nat) : Sees w (.slice none 0 0) k 0 [] := ⟨by simp, .inl ⟨rfl, rfl⟩⟩
/-- What the reference's PutKey lays behind what it has. -/
def putL (key val : Str) : Bool → List Cell → List Cell
  | d, [] => if d then [] else [(key, val)]
  | d, c :: s => (if !d && gtrB c.1 key then [(key, val)] else []) ++ ((if c.1 = key then [] else [c]) ++ putL key val (d || gtrB c.1 key) s)
theorem putL_step {s : List Cell} {key val : Str} {d : Bool} {j : Nat} (h : j < s.length) : putL key val d (s.drop j) = (if !d && gtrB (s.getD j c0).1 key then [(key, val)] else []) ++ ((if (s.getD j c0).1 = key then [] else [s.getD j c0]) ++ putL key val (d || gtrB (s.getD j c0).1 key) (s.drop (j + 1))) := by
  rw [drop_at (getD_some (d := c0) h), putL]
theorem putL_true (key val : Str) : ∀ s : List Cell, putL key val true s = s.filter (fun c => !decide (c.1 = key))
  | [] => rfl
  | c :: s => by
    have ih := putL_true key val s
    by_cases hc : c.1 = key
    · simp [putL, hc, ih]
    · simp [putL, hc, ih]
theorem gtr_ne {a b : Str} (h : gtrB a b = true) : ¬ a = b := by
  intro e
  subst e
  simp [gtrB] at h
theorem putL_false (key val : Str) : ∀ s : List Cell, putL key val false s = insertAt (findAt (fun c => gtrB c.1 key) (s.filter (fun c => !decide (c.1 = key)))) (key, val) (s.filter (fun c => !decide (c.1 = key)))
  | [] => rfl
  | c :: s => by
    have ih := putL_false key val s
    cases hg : gtrB c.1 key with
    | true =>
      have hc := gtr_ne hg
      rw [List.filter_cons_of_pos (by simp [hc])]
      simp only [putL, hg, Bool.not_false, Bool.true_and, if_true, hc, if_false, Bool.false_or, putL_true, findAt]
      rfl
    | false =>
      by_cases hc : c.1 = key
      · rw [List.filter_cons_of_neg (by simp [hc]), ← ih]
        have hg' : gtrB key key = false := hc ▸ hg
        simp only [putL, hg', Bool.not_false, Bool.true_and, Bool.false_eq_true, if_false, hc, if_true, List.nil_append, Bool.or_false]
      · rw [List.filter_cons_of_pos (by simp [hc])]
        simp only [putL, hg, Bool.not_false, Bool.true_and, Bool.false_eq_true, if_false, hc, List.nil_append, Bool.or_false, findAt, ih]
        rfl
theorem putL_put {s : List Cell} {key val : Str} (h : keyOk key = true) (h2 : ¬ 60 < val.length) : putL key val (decide (val = [])) s = putKey s key val := by
  by_cases hv : val = []
  · rw [putKey_nil h h2 hv, decide_eq_true hv, putL_true]
  · rw [putKey_ins h h2 hv, decide_eq_false hv, putL_false]

theorem addSpan_at {l : List Str} {x : Str} {j : Nat} (hlt : j < l.length) (hN : ∀ i, i < j → geqB (l.getD i []) x = false) (hge : geqB (l.getD j []) x = true) : findAt (fun y => geqB y x) l = j := findAt_eq _ [] l j hlt hN hge
theorem addSpan_put_same {l : List Str} {x : Str} {j : Nat} (hlt : j < l.length) (hN : ∀ i, i < j → geqB (l.getD i []) x = false) (hge : geqB (l.getD j []) x = true) (he : l.getD j [] = x) : addSpan l x = l := by
  have h := addSpan_at hlt hN hge
  exact addSpan_same (by rw [h]; exact hlt) (by rw [h]; exact he)
theorem addSpan_put_ins {l : List Str} {x : Str} {j : Nat} (hlt : j < l.length) (hN : ∀ i, i < j → geqB (l.getD i []) x = false) (hge : geqB (l.getD j []) x = true) (he : ¬ l.getD j [] = x) : l.take j ++ [x] ++ (l.drop j).take (l.length - j) = addSpan l x := by
  have h := addSpan_at hlt hN hge
  have e : (l.drop j).take (l.length - j) = l.drop j := List.take_of_length_le (by simp)
  rw [addSpan_ins (by rw [h]; exact hlt) (by rw [h]; exact he), h, e]
  simp [insertAt]
theorem addSpan_put_end {l : List Str} {x : Str} {j : Nat} (hle : l.length ≤ j) (hj : j ≤ l.length) (hN : ∀ i, i < j → geqB (l.getD i []) x = false) : l.take j ++ [x] ++ (l.drop j).take (l.length - j) = addSpan l x := by
  have h := findAt_none (fun y => geqB y x) [] l (fun i hi => hN i (by omega))
  rw [addSpan_end h, List.take_of_length_le hle, List.drop_of_length_le hle]
  simp

/-- The digits, the last one first in hand. -/
theorem mtAcc_app : ∀ (n k : Nat) (out : Str), k ≤ n → mtAcc k out = mtAcc k [] ++ out := by
  intro n
  induction n with
  | zero => intro k out h; rw [mtAcc_zero (by omega), mtAcc_zero (by omega)]; rfl
  | succ n ih =>
    intro k out h
    rcases Nat.eq_zero_or_pos k with h0 | h0
    · rw [mtAcc_zero h0, mtAcc_zero h0]; rfl
    · rw [← mtAcc_step h0, ← mtAcc_step h0 (out := []), ih _ _ (by omega), ih (k / 10) ([UInt8.ofNat (48 + k % 10)] ++ []) (by omega)]
      simp [List.append_assoc]
theorem mtAcc_dec : ∀ (n k : Nat), 0 < k → k ≤ n → mtAcc k [] = Lib.decDigits k := by
  intro n
  induction n with
  | zero => intro k h0 h; omega
  | succ n ih =>
    intro k h0 h
    rw [← mtAcc_step h0, mtAcc_app (k / 10) (k / 10) _ (Nat.le_refl _), Lib.decDigits]
    split
    · rename_i hk
      rw [mtAcc_zero (by omega), Nat.mod_eq_of_lt hk]; rfl
    · rw [ih (k / 10) (by omega) (by omega)]; simp
theorem dec_nat {k : Nat} (h : 0 < k) : dec ((k : Nat) : Int) = mtAcc k [] := by
  unfold dec Lib.itoa
  rw [if_neg (by omega), Int.toNat_natCast, mtAcc_dec k k h (Nat.le_refl _)]
theorem dec_zero : dec 0 = [48] := by
  unfold dec Lib.itoa
  rw [if_neg (by omega), show (0 : Int).toNat = 0 from rfl, Lib.decDigits, dif_pos (by omega)]; rfl
theorem decDigits_len : ∀ (n k : Nat), k ≤ n → (Lib.decDigits k).length = Lib.nDigits k := by
  intro n
  induction n with
  | zero => intro k h; rw [Lib.decDigits, Lib.nDigits, dif_pos (by omega), dif_pos (by omega)]; rfl
  | succ n ih =>
    intro k h
    rw [Lib.decDigits, Lib.nDigits]
    split
    · rfl
    · rw [List.length_append, ih (k / 10) (by omega)]; rfl
theorem dec_len {n : Int} (h0 : 0 ≤ n) (h1 : n ≤ 1000000000) : (dec n).length ≤ 10 := by
  obtain ⟨k, rfl⟩ := Int.eq_ofNat_of_zero_le h0
  unfold dec Lib.itoa
  rw [if_neg (by omega), Int.toNat_natCast, decDigits_len k k (Nat.le_refl _)]
  have : ∀ (d k : Nat), k < 10 ^ (d + 1) → Lib.nDigits k ≤ d + 1 := by
    intro d
    induction d with
    | zero => intro k hk; rw [Lib.nDigits_small (by simpa using hk)]; omega
    | succ d ih =>
      intro k hk
      by_cases hs : k < 10
      · rw [Lib.nDigits_small hs]; omega
      · rw [Lib.nDigits_big hs]
        have := ih (k / 10) (by rw [Nat.pow_succ] at hk; omega)
        omega
  exact this 9 k (by omega)
/-- The number that figures spell, as the reference adds it up; none where a byte is no figure. -/
def figs : Int → Str → Option Int
  | n, [] => some n
  | n, c :: t => if 48 ≤ c.toNat ∧ c.toNat ≤ 57 then figs (10 * n + (c.toNat : Int) - 48) t else none
theorem figs_step {t : Str} {n : Int} {j : Nat} (h : j < t.length) : figs n (t.drop j) = if 48 ≤ (t.getD j 0).toNat ∧ (t.getD j 0).toNat ≤ 57 then figs (10 * n + ((t.getD j 0).toNat : Int) - 48) (t.drop (j + 1)) else none := by
  rw [drop_at (getD_some (d := 0) h), figs]
theorem figs_parse : ∀ (t : Str) (acc : Nat), acc * 10 ^ t.length + 10 ^ t.length ≤ 1000000000000000000 → Lib.parseUint10 acc t = match figs acc t with | some n => .ok n.toNat | none => Lib.NumEnd.syntax
  | [], acc, _ => by simp [Lib.parseUint10, figs]
  | c :: t, acc, h => by
    have hp : 0 < 10 ^ t.length := Nat.pow_pos (by omega)
    rw [List.length_cons, Nat.pow_succ] at h
    by_cases hc : 48 ≤ c.toNat ∧ c.toNat ≤ 57
    · have hb : acc * 10 + 10 ≤ 1000000000000000000 := by
        have h1 : (acc * 10 + 10) * 1 ≤ (acc * 10 + 10) * 10 ^ t.length := Nat.mul_le_mul_left _ hp
        have h2 : (acc * 10 + 10) * 10 ^ t.length = acc * (10 ^ t.length * 10) + 10 ^ t.length * 10 := by rw [Nat.add_mul, Nat.mul_assoc, Nat.mul_comm 10 (10 ^ t.length)]
        omega
      have hs : ((acc * 10 + (c.toNat - 48) : Nat) : Int) = 10 * (acc : Int) + (c.toNat : Int) - 48 := by omega
      have ih := figs_parse t (acc * 10 + (c.toNat - 48)) (by
        have h1 : (acc * 10 + (c.toNat - 48)) * 10 ^ t.length ≤ (acc * 10 + 9) * 10 ^ t.length := Nat.mul_le_mul_right _ (by omega)
        have h2 : (acc * 10 + 9) * 10 ^ t.length + 10 ^ t.length = acc * (10 ^ t.length * 10) + 10 ^ t.length * 10 := by
          rw [← Nat.succ_mul, show (acc * 10 + 9).succ = acc * 10 + 10 from rfl, Nat.add_mul, Nat.mul_assoc, Nat.mul_comm 10 (10 ^ t.length)]
        omega)
      rw [Lib.parseUint10, if_pos hc, if_neg (by omega), if_neg (by omega), ih, hs, figs, if_pos hc]
    · rw [Lib.parseUint10, if_neg hc, figs, if_neg hc]
theorem figs_nonneg : ∀ (t : Str) (n m : Int), 0 ≤ n → figs n t = some m → 0 ≤ m
  | [], n, m, h, e => by simp only [figs, Option.some.injEq] at e; omega
  | c :: t, n, m, h, e => by
    unfold figs at e
    split at e
    · exact figs_nonneg t _ m (by omega) e
    · simp at e
theorem dec_head {n : Int} (h : 0 ≤ n) : ∃ c r, dec n = c :: r ∧ 48 ≤ c.toNat ∧ c.toNat ≤ 57 := by
  obtain ⟨k, rfl⟩ := Int.eq_ofNat_of_zero_le h
  unfold dec Lib.itoa
  rw [if_neg (by omega), Int.toNat_natCast]
  have : ∀ (n k : Nat), k ≤ n → ∃ c r, Lib.decDigits k = c :: r ∧ 48 ≤ c.toNat ∧ c.toNat ≤ 57 := by
    intro n
    induction n with
    | zero => intro k hk; rw [Lib.decDigits, dif_pos (by omega)]; exact ⟨_, _, rfl, by rw [UInt8.toNat_ofNat_of_lt' (by show _ < 256; omega)]; omega, by rw [UInt8.toNat_ofNat_of_lt' (by show _ < 256; omega)]; omega⟩
    | succ n ih =>
      intro k hk
      rw [Lib.decDigits]
      split
      · exact ⟨_, _, rfl, by rw [UInt8.toNat_ofNat_of_lt' (by show _ < 256; omega)]; omega, by rw [UInt8.toNat_ofNat_of_lt' (by show _ < 256; omega)]; omega⟩
      · obtain ⟨c, r, h1, h2, h3⟩ := ih (k / 10) (by omega)
        exact ⟨c, r ++ [UInt8.ofNat (48 + k % 10)], by rw [h1]; rfl, h2, h3⟩
  exact this k k (Nat.le_refl _)
/-- A text of at most ten bytes: what Atoi says of it, where it begins with a figure. -/
theorem atoi_figs {t : Str} {c : UInt8} {r : Str} (hc : t = c :: r) (h1 : 48 ≤ c.toNat) (h2 : c.toNat ≤ 57) (hl : t.length ≤ 10) : Lib.atoiAll t = match figs 0 t with | some n => .ok n | none => Lib.NumEnd.syntax := by
  have hlen : t.length ≤ 10 := hl
  have hpow : 10 ^ t.length ≤ 10 ^ 10 := Nat.pow_le_pow_right (by omega) hl
  have hp := figs_parse t 0 (by omega)
  subst hc
  unfold Lib.atoiAll
  simp only
  rw [if_neg (by omega)]
  unfold Lib.parseMag
  rw [if_neg (by simp), hp]
  cases hf : figs ((0 : Nat) : Int) (c :: r) with
  | none =>
    rfl
  | some n =>
    have hn := figs_nonneg _ _ _ (by omega) hf
    have hlt : Lib.parseUint10 0 (c :: r) = .ok n.toNat := by rw [hp, hf]
    have hb : n.toNat < 9223372036854775808 := by
      have key : ∀ (t : Str) (a : Nat) (u : Int), figs (a : Int) t = some u → u < ((a * 10 ^ t.length + 10 ^ t.length : Nat) : Int) := by
        intro t
        induction t with
        | nil => intro a u e; simp only [figs, Option.some.injEq] at e; subst e; simp; omega
        | cons d t ih =>
          intro a u e
          unfold figs at e
          split at e
          · rename_i hd
            have hs : ((a * 10 + (d.toNat - 48) : Nat) : Int) = 10 * (a : Int) + (d.toNat : Int) - 48 := by omega
            rw [← hs] at e
            have := ih _ _ e
            have h1 : (a * 10 + (d.toNat - 48)) * 10 ^ t.length ≤ (a * 10 + 9) * 10 ^ t.length := Nat.mul_le_mul_right _ (by omega)
            have h2 : (a * 10 + 9) * 10 ^ t.length + 10 ^ t.length = a * 10 ^ (t.length + 1) + 10 ^ (t.length + 1) := by
              rw [← Nat.succ_mul, show (a * 10 + 9).succ = a * 10 + 10 from rfl, Nat.add_mul, Nat.mul_assoc, Nat.mul_comm 10 (10 ^ t.length), Nat.pow_succ]
            rw [List.length_cons]
            omega
          · simp at e
      have := key _ _ _ hf
      omega
    simp only
    rw [if_neg (by omega), if_neg (by omega), if_neg (by omega), Int.toNat_of_nonneg hn]
theorem readDec_long {t : Str} (h : 10 < t.length) : readDec t = (0, false) := by
  unfold readDec
  split
  · rename_i n hn
    split
    · rename_i hc
      have := dec_len hc.1 hc.2.1
      rw [hc.2.2] at this
      omega
    · rfl
  · rfl
theorem readDec_figs {t : Str} (hl : t.length ≤ 10) : readDec t = match figs 0 t with | some n => if n ≤ 1000000000 ∧ dec n = t then (n, true) else (0, false) | none => (0, false) := by
  cases t with
  | nil =>
    have h0 : ¬ dec 0 = [] := by rw [dec_zero]; simp
    simp [readDec, Lib.atoiAll, figs, h0]
  | cons c r =>
    by_cases hc : 48 ≤ c.toNat ∧ c.toNat ≤ 57
    · have ha := atoi_figs (t := c :: r) rfl hc.1 hc.2 hl
      unfold readDec
      rw [ha]
      cases hf : figs 0 (c :: r) with
      | none => rfl
      | some n =>
        have hn := figs_nonneg _ _ _ (by omega) hf
        simp only [hn, true_and]
    · have hf : figs 0 (c :: r) = none := by rw [figs, if_neg hc]
      rw [hf]
      unfold readDec
      split
      · split
        · rename_i n hn hq
          obtain ⟨c', r', h1, h2, h3⟩ := dec_head hq.1
          rw [hq.2.2] at h1
          simp only [List.cons.injEq] at h1
          obtain ⟨rfl, _⟩ := h1
          exact absurd ⟨h2, h3⟩ hc
        · rfl
      · rfl
theorem readDec_no {t : Str} (h : (readDec t).2 = false) : (readDec t).1 = 0 := by
  unfold readDec at h ⊢
  split
  · rename_i n hn
    rw [hn] at h
    simp only at h
    split
    · rename_i hc; rw [if_pos hc] at h; simp at h
    · rfl
  · rfl
end Go.Proofs.YtghfijncihbojaaGreat

set_option linter.unusedSimpArgs false
set_option linter.unusedVariables false
set_option linter.unnecessarySimpa false
namespace Go.Proofs.YtghfijncihbojaaGreat
open Go Go.RowKit

/-- Bounds of a machine: how many cells, how many spans on each list, how long a cell's texts. -/
def MS.ok (S T : Nat) (m : MS) : Prop := m.s.length ≤ S ∧ m.r.length ≤ T ∧ m.w.length ≤ T ∧ ∀ c ∈ m.s, c.1.length ≤ 1048576 ∧ c.2.length ≤ 1048576
theorem MS.ok.mono {S T S' T' : Nat} {m : MS} (h : m.ok S T) (hS : S ≤ S') (hT : T ≤ T') : m.ok S' T' := ⟨by have := h.1; omega, by have := h.2.1; omega, by have := h.2.2.1; omega, h.2.2.2⟩
theorem getKey_mem {s : List Cell} {key : Str} : getKey s key = [] ∨ ∃ c ∈ s, c.1 = key ∧ c.2 = getKey s key := by
  induction s with
  | nil => exact .inl rfl
  | cons c s ih =>
    unfold getKey
    by_cases hc : c.1 = key
    · exact .inr ⟨c, by simp, hc, by simp [hc]⟩
    · rw [if_neg hc]
      rcases ih with h | ⟨c', h, h2⟩
      · exact .inl h
      · exact .inr ⟨c', by simp [h], h2⟩
theorem MS.ok.getKey {S T : Nat} {m : MS} (h : m.ok S T) (key : Str) : (getKey m.s key).length ≤ 1048576 := by
  rcases getKey_mem (s := m.s) (key := key) with h0 | ⟨c, hc, _, h2⟩
  · rw [h0]; simp
  · rw [← h2]; exact (h.2.2.2 c hc).2
theorem insertAt_mem {α : Type} {i : Nat} {x y : α} {l : List α} (h : y ∈ insertAt i x l) : y = x ∨ y ∈ l := by
  unfold insertAt at h
  simp only [List.mem_append, List.mem_cons] at h
  rcases h with h | h | h
  · exact .inr (List.mem_of_mem_take h)
  · exact .inl h
  · exact .inr (List.mem_of_mem_drop h)
theorem putKey_mem {s : List Cell} {key val : Str} {c : Cell} (h : c ∈ putKey s key val) : c ∈ s ∨ (c = (key, val) ∧ key.length ≤ 40 ∧ val.length ≤ 60) := by
  unfold putKey at h
  split at h
  · exact .inl h
  · rename_i hk
    simp only [Bool.or_eq_true, Bool.not_eq_true', decide_eq_true_eq, not_or, Bool.not_eq_false] at hk
    simp only at h
    split at h
    · exact .inl (List.mem_filter.1 h).1
    · rcases insertAt_mem h with h | h
      · refine .inr ⟨h, ?_, by omega⟩
        have := hk.1
        simp only [keyOk, Bool.and_eq_true, decide_eq_true_eq] at this
        exact this.2
      · exact .inl (List.mem_filter.1 h).1
theorem putKey_nil_len (s : List Cell) (key : Str) : (putKey s key []).length ≤ s.length := by
  unfold putKey
  simp only
  split
  · exact Nat.le_refl _
  · rw [if_pos trivial]; exact List.length_filter_le _ _
theorem MS.ok.look {S T : Nat} {m : MS} (h : m.ok S T) (key : Str) : (m.look key).1.ok S (T + 1) := by
  have := look_len m key
  exact ⟨by have := h.1; omega, by have := h.2.1; omega, by have := h.2.2.1; omega, h.2.2.2⟩
theorem MS.ok.lay {S T : Nat} {m : MS} (h : m.ok S T) (key val : Str) : (m.lay key val).ok (S + 1) (T + 1) := by
  have := lay_len m key val
  refine ⟨by have := h.1; omega, by have := h.2.1; omega, by have := h.2.2.1; omega, fun c hc => ?_⟩
  rcases putKey_mem (s := m.s) hc with hc | ⟨rfl, h1, h2⟩
  · exact h.2.2.2 c hc
  · exact ⟨by simp only; omega, by simp only; omega⟩
theorem MS.ok.layNil {S T : Nat} {m : MS} (h : m.ok S T) (key : Str) : (m.lay key []).ok S (T + 1) := by
  have h1 := lay_len m key []
  have h2 := putKey_nil_len m.s key
  refine ⟨Nat.le_trans h2 h.1, by have := h.2.1; omega, by have := h.2.2.1; omega, fun c hc => ?_⟩
  rcases putKey_mem (s := m.s) hc with hc | ⟨rfl, h1, h2⟩
  · exact h.2.2.2 c hc
  · exact ⟨by simp only; omega, by simp only; omega⟩
theorem num_lo (m : MS) (key : Str) : 0 ≤ (m.num key).2 ∧ (m.num key).2 ≤ 999 := numOf_lo _
theorem bump_lo (m : MS) (key : Str) : 0 ≤ (m.bump key).2 ∧ (m.bump key).2 ≤ 999 := by
  have h := num_lo m key
  unfold MS.bump
  split
  · exact ⟨by simp, by simp⟩
  · exact ⟨by simp only; omega, by simp only; omega⟩
theorem MS.ok.bump {S T : Nat} {m : MS} (h : m.ok S T) (key : Str) : (m.bump key).1.ok (S + 1) (T + 1) := by
  have h1 := h.look key
  unfold MS.bump
  split
  · exact h1.mono (by omega) (by omega)
  · have h2 := h.lay key (if 1 ≤ (m.num key).2 + 1 ∧ (m.num key).2 + 1 ≤ 999 then dec ((m.num key).2 + 1) else [])
    exact ⟨h2.1, h1.2.1, h2.2.2.1, h2.2.2.2⟩
theorem dec_len21 {n : Int} (h0 : -9223372036854775808 ≤ n) (h1 : n ≤ 9223372036854775807) : (dec n).length ≤ 21 := Lib.itoa_length_le n h0 h1
/-- A list of texts: how many, how long. -/
def okL (n k : Nat) (l : List Str) : Prop := l.length ≤ n ∧ ∀ j, j < l.length → k ≤ (l.getD j []).length ∧ (l.getD j []).length ≤ 1048576
theorem getD_mem {α : Type} {l : List α} {j : Nat} {d : α} (h : j < l.length) : l.getD j d ∈ l := by
  rw [List.getD_eq_getElem?_getD, List.getElem?_eq_getElem h]
  exact List.getElem_mem h
theorem keysUnder_ok {S T : Nat} {m : MS} (h : m.ok S T) (p : Str) : okL S p.length (keysUnder m.s p) := by
  refine ⟨?_, fun j hj => ?_⟩
  · unfold keysUnder
    rw [List.length_map]
    exact Nat.le_trans (List.length_filter_le _ _) h.1
  · have hm := getD_mem (d := ([] : Str)) hj
    unfold keysUnder at hm
    obtain ⟨c, hc, he⟩ := List.mem_map.1 hm
    obtain ⟨hc1, hc2⟩ := List.mem_filter.1 hc
    have e : (keysUnder m.s p).getD j [] = c.1 := he.symm
    rw [e]
    simp only [prefixB, Bool.and_eq_true, decide_eq_true_eq] at hc2
    exact ⟨hc2.1, (h.2.2.2 c hc1).1⟩
theorem MS.ok.under {S T : Nat} {m : MS} (h : m.ok S T) (p : Str) : (m.under p).1.ok S (T + 1) := by
  have := addSpan_len m.r (p ++ [42])
  refine ⟨h.1, ?_, by have := h.2.2.1; show m.w.length ≤ T + 1; omega, h.2.2.2⟩
  show (addSpan m.r (p ++ [42])).length ≤ T + 1
  have := h.2.1
  omega

/- names -/
def nameByte (c : UInt8) : Bool := (decide (97 ≤ c.toNat) && decide (c.toNat ≤ 122)) || (decide (48 ≤ c.toNat) && decide (c.toNat ≤ 57)) || decide (c.toNat = 46) || decide (c.toNat = 45)
def nameOk (s : Str) : Bool := s.all nameByte && decide (1 ≤ s.length) && decide (s.length ≤ 12)
theorem nameOk_bad {key : Str} {j : Nat} (h : j < key.length) (hb : nameByte (key.getD j 0) = false) : nameOk key = false := by
  have : key.all nameByte = false := by
    rw [List.all_eq_false]
    exact ⟨key.getD j 0, getD_mem h, by rw [hb]; simp⟩
  simp [nameOk, this]
theorem nameOk_good {key : Str} {j : Nat} (h : key.length ≤ j) (hb : ∀ i, i < j → i < key.length → nameByte (key.getD i 0) = true) : nameOk key = (decide (1 ≤ key.length) && decide (key.length ≤ 12)) := by
  have : key.all nameByte = true := by
    rw [List.all_eq_true]
    intro x hx
    obtain ⟨i, hi, rfl⟩ := List.getElem_of_mem hx
    have := hb i (by omega) hi
    rwa [List.getD_eq_getElem?_getD, List.getElem?_eq_getElem hi] at this
  simp [nameOk, this]

/- hexadecimal texts -/
def hexFig (x : Nat) : UInt8 := if x < 10 then UInt8.ofNat (48 + x) else UInt8.ofNat (87 + x)
def hexB : Str → Str
  | [] => []
  | c :: s => hexFig (c.toNat / 16) :: hexFig (c.toNat % 16) :: hexB s
def hexS (s : Str) : Str := if 20000 < s.length then [] else hexB s
def hexVal (c : UInt8) : Option Nat := if 48 ≤ c.toNat ∧ c.toNat ≤ 57 then some (c.toNat - 48) else if 97 ≤ c.toNat ∧ c.toNat ≤ 102 then some (c.toNat - 87) else none
def unhexL : Str → Option Str
  | [] => some []
  | [_] => none
  | a :: b :: t => match hexVal a, hexVal b, unhexL t with
    | some h, some l, some r => some (UInt8.ofNat (16 * h + l) :: r)
    | _, _, _ => none
def unhex (t : Str) : Str × Bool := if 40000 < t.length then ([], false) else match unhexL t with
  | some r => (r, true)
  | none => ([], false)
theorem unhexL_len : ∀ (t r : Str), unhexL t = some r → 2 * r.length = t.length
  | [], r, h => by simp only [unhexL, Option.some.injEq] at h; subst h; rfl
  | [_], r, h => by simp [unhexL] at h
  | a :: b :: t, r, h => by
    unfold unhexL at h
    split at h
    · rename_i hh ll rr h1 h2 h3
      simp only [Option.some.injEq] at h
      subst h
      have := unhexL_len t rr h3
      simp only [List.length_cons]
      omega
    · cases h
theorem unhex_len (t : Str) : (unhex t).1.length ≤ 20000 := by
  unfold unhex
  split
  · simp
  · split
    · rename_i r h
      have := unhexL_len t r h
      simp only
      omega
    · simp
def messageOf (v : Str) : Str := match v with
  | [] => []
  | c :: t => if c = 45 then (unhex t).1 else []
theorem messageOf_len (v : Str) : (messageOf v).length ≤ 20000 := by
  unfold messageOf
  split
  · simp
  · split
    · exact unhex_len _
    · simp

/-- The keys behind their first signs. -/
def dropAcc (k : Nat) : List Str → List Str → List Str
  | [], out => out
  | x :: l, out => dropAcc k l (out ++ [x.drop k])
namespace MS
def message (m : MS) (key : Str) : MS × Str := match m.look key with | (m, v) => (m, messageOf v)
def fileOf (m : MS) (name : Str) : MS × Int := if nameOk name = true then m.num (([110, 47] : Str) ++ name) else (m, 0)
def makeName (m : MS) (name : Str) : MS × Int × Int :=
  if nameOk name = true then
    match m.fileOf name with
    | (m, id) => if id = 0 then
        match m.num ([99, 47, 102, 105, 108, 101] : Str) with
        | (m, n) => if 20 ≤ n then (m, 0, 3) else
          match m.bump ([99, 47, 102, 105, 108, 101] : Str) with
          | (m, id) => ((m.setNum (([110, 47] : Str) ++ name) id).setNum (keyNum ([105, 47] : Str) id ([47, 108] : Str)) 1, id, 0)
      else (m, 0, 1)
  else (m, 0, 4)
def linkName (m : MS) (from_ to_ : Str) : MS × Int :=
  if nameOk from_ = true then
    if nameOk to_ = true then
      match m.fileOf from_ with
      | (m, id) => if id = 0 then (m, 2) else
        match m.fileOf to_ with
        | (m, o) => if o = 0 then
            match m.num (keyNum ([105, 47] : Str) id ([47, 108] : Str)) with
            | (m, n) => if 4 ≤ n then (m, 3) else
              ((m.setNum (([110, 47] : Str) ++ to_) id).setNum (keyNum ([105, 47] : Str) id ([47, 108] : Str)) (n + 1), 0)
          else (m, 1)
    else (m, 4)
  else (m, 4)
/-- What wipe does with the keys that it finds. -/
def wipeL : List Str → MS → MS
  | [], m => m
  | k :: l, m => wipeL l (m.lay k [])
def wipe' (m : MS) (p : Str) : MS := match m.under p with | (m, l) => wipeL l m
def unlinkName (m : MS) (name : Str) : MS × Int :=
  if nameOk name = true then
    match m.fileOf name with
    | (m, id) => if id = 0 then (m, 2) else
      match (m.lay (([110, 47] : Str) ++ name) []).num (keyNum ([105, 47] : Str) id ([47, 108] : Str)) with
      | (m, n) => if 1 < n then (m.setNum (keyNum ([105, 47] : Str) id ([47, 108] : Str)) (n - 1), 0) else (m.wipe' (keyNum ([105, 47] : Str) id ([47] : Str)), 0)
  else (m, 4)
def renameName (m : MS) (from_ to_ : Str) : MS × Int :=
  if nameOk from_ = true then
    if nameOk to_ = true then
      match m.fileOf from_ with
      | (m, id) => if id = 0 then (m, 2) else
        match m.fileOf to_ with
        | (m, o) => if o = id then (m, 0) else
          if o = 0 then ((m.setNum (([110, 47] : Str) ++ to_) id).lay (([110, 47] : Str) ++ from_) [], 0) else
            match m.unlinkName to_ with
            | (m, _) => ((m.setNum (([110, 47] : Str) ++ to_) id).lay (([110, 47] : Str) ++ from_) [], 0)
    else (m, 4)
  else (m, 4)
def names (m : MS) : MS × List Str := match m.under ([110, 47] : Str) with | (m, l) => (m, dropAcc 2 l [])

/- files -/
def sizeOf (m : MS) (id : Int) : MS × Int := m.num (keyNum ([105, 47] : Str) id ([47, 115] : Str))
def block (m : MS) (id place : Int) : MS × Str := match m.look (keyNum (keyNum ([105, 47] : Str) id ([47, 98, 47] : Str)) place []) with | (m, v) => (m, (unhex v).1)

/- pipes -/
def makePipe (m : MS) : MS × Int × Int :=
  match m.num ([99, 47, 112, 105, 112, 101] : Str) with
  | (m, n) => if 8 ≤ n then (m, 0, 3) else
    match m.bump ([99, 47, 112, 105, 112, 101] : Str) with
    | (m, id) => (m.setNum (keyNum ([112, 47] : Str) id ([47, 111] : Str)) 1, id, 0)
def isPipe (m : MS) (id : Int) : MS × Bool := match m.num (keyNum ([112, 47] : Str) id ([47, 111] : Str)) with | (m, n) => (m, decide (n = 1))
def putPipe (m : MS) (id : Int) (text : Str) : MS × Int :=
  match m.isPipe id with
  | (m, b) => if b = true then
      if 20 < (text.length : Int) then (m, 4) else
      match m.num (keyNum ([112, 47] : Str) id ([47, 116] : Str)) with
      | (m, t) => match m.num (keyNum ([112, 47] : Str) id ([47, 104] : Str)) with
        | (m, h) => if 4 ≤ t - h then (m, 5) else if 999 ≤ t then (m, 3) else
          ((m.setNum (keyNum ([112, 47] : Str) id ([47, 116] : Str)) (t + 1)).lay (keyNum (keyNum ([112, 47] : Str) id ([47, 113, 47] : Str)) (t + 1) []) (([45] : Str) ++ hexS text), 0)
    else (m, 2)
def takePipe (m : MS) (id : Int) : MS × Str × Int :=
  match m.isPipe id with
  | (m, b) => if b = true then
      match m.num (keyNum ([112, 47] : Str) id ([47, 104] : Str)) with
      | (m, h) => match m.num (keyNum ([112, 47] : Str) id ([47, 116] : Str)) with
        | (m, t) => if t = h then (m, [], 5) else
          match m.message (keyNum (keyNum ([112, 47] : Str) id ([47, 113, 47] : Str)) (h + 1) []) with
          | (m, x) => ((m.lay (keyNum (keyNum ([112, 47] : Str) id ([47, 113, 47] : Str)) (h + 1) []) []).setNum (keyNum ([112, 47] : Str) id ([47, 104] : Str)) (h + 1), x, 0)
    else (m, [], 2)

/- processes -/
def state (m : MS) (id : Int) : MS × Int := m.num (keyNum ([114, 47] : Str) id ([47, 115] : Str))
def spawn (m : MS) (parent : Int) : MS × Int × Int :=
  match m.num ([99, 47, 112, 114, 111, 99] : Str) with
  | (m, n) => if 12 ≤ n then (m, 0, 3) else
    match m.bump ([99, 47, 112, 114, 111, 99] : Str) with
    | (m, id) => ((m.setNum (keyNum ([114, 47] : Str) id ([47, 115] : Str)) 1).setNum (keyNum ([114, 47] : Str) id ([47, 112] : Str)) parent, id, 0)
def endProc (m : MS) (id n : Int) : MS × Int :=
  match m.state id with
  | (m, s) => if s = 1 then
      if 0 ≤ n ∧ n ≤ 100 then ((m.setNum (keyNum ([114, 47] : Str) id ([47, 115] : Str)) 2).setNum (keyNum ([114, 47] : Str) id ([47, 120] : Str)) (n + 1), 0) else (m, 4)
    else (m, 2)
def reap (m : MS) (parent id : Int) : MS × Int × Int :=
  match m.num (keyNum ([114, 47] : Str) id ([47, 112] : Str)) with
  | (m, own) => if own = 0 then (m, 0, 2) else if own = parent then
      match m.state id with
      | (m, s) => if s = 1 then (m, 0, 5) else if s = 2 then
          match m.num (keyNum ([114, 47] : Str) id ([47, 120] : Str)) with
          | (m, n) => (m.wipe' (keyNum ([114, 47] : Str) id ([47] : Str)), n - 1, 0)
        else (m, 0, 2)
    else (m, 0, 2)
def isKid (k : Str) : Bool := decide (5 ≤ k.length) && decide (k.drop (k.length - 2) = ([47, 112] : Str))
def kidsL (parent : Int) : List Str → MS → List Int → MS × List Int
  | [], m, out => (m, out)
  | k :: l, m, out => if isKid k = true then
      match m.num k with
      | (m, n) => if n = parent then kidsL parent l m (out ++ [numOf ((k.take (k.length - 2)).drop 2)]) else kidsL parent l m out
    else kidsL parent l m out
def kids (m : MS) (parent : Int) : MS × List Int := match m.under ([114, 47] : Str) with | (m, l) => kidsL parent l m []

/- signals -/
def send (m : MS) (to_ n : Int) : MS × Int :=
  match m.state to_ with
  | (m, s) => if s = 1 then
      if 1 ≤ n ∧ n ≤ 31 then
        match m.num (keyNum ([103, 47] : Str) to_ ([47, 116] : Str)) with
        | (m, t) => match m.num (keyNum ([103, 47] : Str) to_ ([47, 104] : Str)) with
          | (m, h) => if 4 ≤ t - h then (m, 5) else if 999 ≤ t then (m, 3) else
            ((m.setNum (keyNum ([103, 47] : Str) to_ ([47, 116] : Str)) (t + 1)).setNum (keyNum (keyNum ([103, 47] : Str) to_ ([47, 113, 47] : Str)) (t + 1) []) n, 0)
      else (m, 4)
    else (m, 2)
def takeSignal (m : MS) (id : Int) : MS × Int × Int :=
  match m.num (keyNum ([103, 47] : Str) id ([47, 104] : Str)) with
  | (m, h) => match m.num (keyNum ([103, 47] : Str) id ([47, 116] : Str)) with
    | (m, t) => if t = h then (m, 0, 5) else
      match m.num (keyNum (keyNum ([103, 47] : Str) id ([47, 113, 47] : Str)) (h + 1) []) with
      | (m, n) => ((m.lay (keyNum (keyNum ([103, 47] : Str) id ([47, 113, 47] : Str)) (h + 1) []) []).setNum (keyNum ([103, 47] : Str) id ([47, 104] : Str)) (h + 1), n, 0)
def setTimer (m : MS) (id at_ : Int) : MS × Int := if 0 ≤ at_ ∧ at_ ≤ 999 then (m.setNum (keyNum ([116, 47] : Str) id []) at_, 0) else (m, 4)
def tickL (clock : Int) : List Str → MS → Int → MS × Int
  | [], m, k => (m, k)
  | x :: l, m, k => match m.num x with
    | (m, n) => if clock < n then tickL clock l m k else
      match (m.lay x []).send (numOf (x.drop 2)) 14 with
      | (m, _) => tickL clock l m (k + 1)
def tick (m : MS) (n : Int) : MS × Int × Int :=
  if n < 1 then (m, 0, 4) else
    match m.num ([99, 47, 99, 108, 111, 99, 107] : Str) with
    | (m, c) => if 999 - c < n then (m, 0, 3) else
      match (m.setNum ([99, 47, 99, 108, 111, 99, 107] : Str) (c + n)).under ([116, 47] : Str) with
      | (m, l) => match tickL (c + n) l m 0 with
        | (m, k) => (m, k, 0)

/- pages -/
def storePage (m : MS) (id page : Int) (text : Str) : MS × Int :=
  if 0 ≤ page ∧ page ≤ 3 then
    if 20 < (text.length : Int) then (m, 4) else
      (m.lay (keyNum (keyNum ([109, 47] : Str) id ([47] : Str)) page []) (if text = [] then [] else ([45] : Str) ++ hexS text), 0)
  else (m, 4)
def loadPage (m : MS) (id page : Int) : MS × Str × Int :=
  if 0 ≤ page ∧ page ≤ 3 then
    match m.message (keyNum (keyNum ([109, 47] : Str) id ([47] : Str)) page []) with
    | (m, x) => (m, x, 0)
  else (m, [], 4)
def forkL (k : Nat) (to_ : Int) : List Str → MS → MS
  | [], m => m
  | x :: l, m => match m.look x with
    | (m, v) => forkL k to_ l (m.lay (keyNum ([109, 47] : Str) to_ ([47] : Str) ++ x.drop k) v)
def forkPages (m : MS) (from_ to_ : Int) : MS := match m.under (keyNum ([109, 47] : Str) from_ ([47] : Str)) with | (m, l) => forkL (keyNum ([109, 47] : Str) from_ ([47] : Str)).length to_ l m
def dropPages (m : MS) (id : Int) : MS := m.wipe' (keyNum ([109, 47] : Str) id ([47] : Str))

/- output -/
def putOut (m : MS) (text : Str) : MS × Int :=
  if 1 ≤ (text.length : Int) ∧ (text.length : Int) ≤ 20 then
    match m.num ([100, 47, 110] : Str) with
    | (m, n) => if 40 ≤ n then (m, 3) else ((m.setNum ([100, 47, 110] : Str) (n + 1)).lay (keyNum ([100, 47] : Str) (n + 1) []) (([45] : Str) ++ hexS text), 0)
  else (m, 4)
end MS
end Go.Proofs.YtghfijncihbojaaGreat
