/-
Texts of the walk, joined: what each one proves stands at its theorems.
-/
import Derived.Test.YthlfmbbaomdciaaGreatDoorProg
import Derived.WalkKit
import Derived.Lib.LaidTab
import Derived.Lib.ItoaNum
import Derived.Lib.AtoiAll
import Derived.Laws.Cover1
set_option linter.unusedSimpArgs false
set_option linter.unusedVariables false
namespace Go.Proofs.YthlfmbbaomdciaaGreatDoor
open Go Go.RowKit
/-- How many blocks hold package-level variables. -/
def GB : Nat := 6
/-- The type of a byte. -/
def TB : Nat := 5
/-- The table of powers reads as laid; the two errors hold something. -/
def Glob (w : World) : Prop := Lib.TabIs Tryz.prog w "internal/strconv.uint64pow10" .u64 Lib.pow10Tab ∧ (∃ tp p, w.var? Tryz.prog "strconv.ErrSyntax" = some #[.iface tp p]) ∧ (∃ tp p, w.var? Tryz.prog "strconv.ErrRange" = some #[.iface tp p])
theorem named1 : Tryz.prog.globalNamed "internal/strconv.uint64pow10" = some 0 := by kernel_rfl
theorem named2 : Tryz.prog.globalNamed "strconv.ErrSyntax" = some 2 := by kernel_rfl
theorem named3 : Tryz.prog.globalNamed "strconv.ErrRange" = some 3 := by kernel_rfl
theorem var_keep {w w' : World} {name : String} {g : Nat} (hn : Tryz.prog.globalNamed name = some g) (h : w'.heap[g]? = w.heap[g]?) : w'.var? Tryz.prog name = w.var? Tryz.prog name := by
 unfold World.var?
 rw [hn]
 simp only [Option.bind_some, h]
theorem Glob.keep {w w' : World} (h : ∀ k, k < GB → w'.heap[k]? = w.heap[k]?) (hg : Glob w) : Glob w' := by
 obtain ⟨h1, ⟨t, v, h2⟩, ⟨s, u, h3⟩⟩ := hg
 refine ⟨?_, ⟨t, v, ?_⟩, ⟨s, u, ?_⟩⟩
 · unfold Lib.TabIs at *; rw [var_keep named1 (h _ (by decide))]; exact h1
 · rw [var_keep named2 (h _ (by decide))]; exact h2
 · rw [var_keep named3 (h _ (by decide))]; exact h3
theorem Glob.two {w : World} (h : Glob w) : ∃ tp p, w.var? Tryz.prog "strconv.ErrSyntax" = some #[.iface tp p] := h.2.1
theorem Glob.three {w : World} (h : Glob w) : ∃ tp p, w.var? Tryz.prog "strconv.ErrRange" = some #[.iface tp p] := h.2.2
/-- The error of an odd length holds something. -/
def HexOk (w : World) : Prop := ∃ tp p, w.var? Tryz.prog "encoding/hex.ErrLength" = some #[.iface tp p]
theorem named4 : Tryz.prog.globalNamed "encoding/hex.ErrLength" = some 1 := by kernel_rfl
theorem HexOk.keep {w w' : World} (h : w'.heap[1]? = w.heap[1]?) (hg : HexOk w) : HexOk w' := by
 obtain ⟨t, v, h1⟩ := hg
 exact ⟨t, v, by rw [var_keep named4 h]; exact h1⟩
theorem HexOk.cell {w : World} (h : HexOk w) : ∃ tp p, w.cell? ⟨1, 0, none⟩ = some (.iface tp p) := by
 obtain ⟨t, v, h1⟩ := h
 refine ⟨t, v, ?_⟩
 unfold World.var? at h1
 rw [named4] at h1
 simp only [Option.bind_some] at h1
 unfold World.cell?
 cases hq : w.heap[1]? with
 | none => rw [hq] at h1; cases h1
 | some o =>
   rw [hq] at h1
   cases o with
   | cells cs tt fz => simp at h1; subst h1; simp
   | _ => simp at h1
theorem HexOk.lt {w : World} (h : HexOk w) : 1 < w.heap.size := by
 obtain ⟨t, v, h1⟩ := h.cell
 exact World.block_lt_of_cell? (w := w) (a := ⟨1, 0, none⟩) h1
theorem hexLow : 1 < GB := by decide
theorem kI : type_of% @Tryz.underlying30 := @Tryz.underlying30
theorem kJ : type_of% @Tryz.isAgg9 := @Tryz.isAgg9
theorem kK : type_of% @Tryz.underlying24 := @Tryz.underlying24
theorem kL : type_of% @Tryz.underlying33 := @Tryz.underlying33
theorem kM : type_of% @Tryz.sizeOf9 := @Tryz.sizeOf9
theorem kN : type_of% @Tryz.underlying22 := @Tryz.underlying22
theorem kO : type_of% @Tryz.underlying9 := @Tryz.underlying9
theorem kP : type_of% @Tryz.sizeOf130 := @Tryz.sizeOf130
theorem kQ : type_of% @Tryz.sizeOf35 := @Tryz.sizeOf35
theorem kR : type_of% @Tryz.isAgg3 := @Tryz.isAgg3
theorem kS : type_of% @Tryz.sizeOf3 := @Tryz.sizeOf3
theorem kT : type_of% @Tryz.isAgg35 := @Tryz.isAgg35
theorem kU : type_of% @Tryz.underlying5 := @Tryz.underlying5
theorem kV : type_of% @Tryz.zeroValue9 := @Tryz.zeroValue9
theorem kW : type_of% @Tryz.underlying3 := @Tryz.underlying3
theorem kX : type_of% @Tryz.sizeOf43 := @Tryz.sizeOf43
theorem kY : type_of% @Tryz.sizeOf39 := @Tryz.sizeOf39
theorem kZ : type_of% @Tryz.zeroValue3 := @Tryz.zeroValue3
theorem kd : type_of% @Tryz.typeInfo9 := @Tryz.typeInfo9
theorem ke : type_of% @Tryz.underlying29 := @Tryz.underlying29
theorem kf : type_of% @Tryz.underlying28 := @Tryz.underlying28
theorem kg : type_of% @Tryz.sizeOf5 := @Tryz.sizeOf5
theorem kh : type_of% @Tryz.underlying25 := @Tryz.underlying25
theorem ki : type_of% @Tryz.isAgg43 := @Tryz.isAgg43
theorem kj : type_of% @Tryz.zeroValue5 := @Tryz.zeroValue5
theorem kl : type_of% @Tryz.typeInfo3 := @Tryz.typeInfo3
theorem ko : type_of% @Tryz.typeInfo130 := @Tryz.typeInfo130
theorem kp : type_of% @Tryz.isAgg39 := @Tryz.isAgg39
theorem kq : type_of% @Tryz.zeroValue130 := @Tryz.zeroValue130
theorem ks : type_of% @Tryz.sizeOf45 := @Tryz.sizeOf45
theorem kt : type_of% @Tryz.isAgg32 := @Tryz.isAgg32
theorem ku : type_of% @Tryz.sizeOf32 := @Tryz.sizeOf32
end Go.Proofs.YthlfmbbaomdciaaGreatDoor
set_option linter.unnecessarySimpa false
namespace Go.Proofs.YthlfmbbaomdciaaGreatDoor
open Go
abbrev Str := List UInt8
abbrev Cell := Str × Str
abbrev c0 : Cell := ([], [])
def gtrB (a b : Str) : Bool := !Op.bytesLess a b && !decide (a = b)
def geqB (a b : Str) : Bool := !Op.bytesLess a b

def getKey (s : List Cell) (key : Str) : Str := match s with
 | [] => []
 | c :: s => if c.1 = key then c.2 else getKey s key

def keyByte (c : UInt8) : Bool := decide (33 ≤ c.toNat) && decide (c.toNat ≤ 126) && !decide (c.toNat = 42)
def keyOk (key : Str) : Bool := key.all keyByte && decide (1 ≤ key.length) && decide (key.length ≤ 40)

/-- Where the first element stands of which p holds; the length if there is none. -/
def findAt {α : Type} (p : α → Bool) : List α → Nat
 | [] => 0
 | x :: l => if p x then 0 else findAt p l + 1

def insertAt {α : Type} (i : Nat) (x : α) (l : List α) : List α := l.take i ++ x :: l.drop i

def addSpan (l : List Str) (x : Str) : List Str :=
 let i := findAt (fun y => geqB y x) l
 if i < l.length then (if l.getD i [] = x then l else insertAt i x l) else l ++ [x]

def putKey (s : List Cell) (key val : Str) : List Cell :=
 if !keyOk key || decide (60 < val.length) then s
 else
   let f := s.filter (fun c => !decide (c.1 = key))
   if val = [] then f else insertAt (findAt (fun c => gtrB c.1 key) f) (key, val) f

def prefixB (s p : Str) : Bool := decide (p.length ≤ s.length) && decide (s.take p.length = p)
def keysUnder (s : List Cell) (p : Str) : List Str := (s.filter (fun c => prefixB c.1 p)).map (·.1)

/-- A machine, as data: the store, the keys read, the keys written. -/
structure MS where
 s : List Cell
 r : List Str
 w : List Str

def MS.look (m : MS) (key : Str) : MS × Str := (⟨m.s, addSpan m.r key, m.w⟩, getKey m.s key)
def MS.lay (m : MS) (key val : Str) : MS := ⟨putKey m.s key val, m.r, addSpan m.w key⟩
def MS.under (m : MS) (p : Str) : MS × List Str := (⟨m.s, addSpan m.r (p ++ [42]), m.w⟩, keysUnder m.s p)
def MS.wipe (m : MS) (p : Str) : MS := (m.under p).2.foldl (fun m k => m.lay k []) (m.under p).1

def dec (n : Int) : Str := Lib.itoa n
/-- The number in 0 .. 10^9 whose numeral this is. -/
def readDec (t : Str) : Int × Bool :=
 match Lib.atoiAll t with
 | .ok n => if 0 ≤ n ∧ n ≤ 1000000000 ∧ dec n = t then (n, true) else (0, false)
 | _ => (0, false)
def numOf (t : Str) : Int := if 999 < (readDec t).1 then 0 else (readDec t).1
def MS.num (m : MS) (key : Str) : MS × Int := ((m.look key).1, numOf (m.look key).2)
def MS.setNum (m : MS) (key : Str) (n : Int) : MS := m.lay key (if 1 ≤ n ∧ n ≤ 999 then dec n else [])
def MS.bump (m : MS) (key : Str) : MS × Int :=
 if 999 < (m.num key).2 + 1 then ((m.num key).1, 0) else ((m.num key).1.setNum key ((m.num key).2 + 1), (m.num key).2 + 1)
def keyNum (h : Str) (n : Int) (t : Str) : Str := h ++ dec n ++ t

theorem findAt_le {α : Type} (p : α → Bool) : ∀ l : List α, findAt p l ≤ l.length
 | [] => Nat.le_refl _
 | x :: l => by
   unfold findAt
   split
   · exact Nat.zero_le _
   · exact Nat.succ_le_succ (findAt_le p l)
theorem findAt_eq {α : Type} (p : α → Bool) (d : α) : ∀ (l : List α) (i : Nat), i < l.length → (∀ j, j < i → p (l.getD j d) = false) → p (l.getD i d) = true → findAt p l = i
 | [], i, h, _, _ => by simp at h
 | x :: l, 0, _, _, h => by simp at h; simp [findAt, h]
 | x :: l, i + 1, h, hj, hp => by
   have h0 := hj 0 (by omega)
   simp at h0
   simp only [findAt, h0]
   have := findAt_eq p d l i (by simpa using h) (fun j hji => by have := hj (j + 1) (by omega); simpa using this) (by simpa using hp)
   simp [this]
theorem findAt_none {α : Type} (p : α → Bool) (d : α) : ∀ (l : List α), (∀ j, j < l.length → p (l.getD j d) = false) → findAt p l = l.length
 | [], _ => rfl
 | x :: l, h => by
   have h0 := h 0 (by simp)
   simp at h0
   simp only [findAt, h0]
   have := findAt_none p d l (fun j hj => by have := h (j + 1) (by simpa using hj); simpa using this)
   simp [this]
theorem insertAt_length {α : Type} (i : Nat) (x : α) (l : List α) (h : i ≤ l.length) : (insertAt i x l).length = l.length + 1 := by
 unfold insertAt
 simp
 omega
end Go.Proofs.YthlfmbbaomdciaaGreatDoor
namespace Go.Proofs.YthlfmbbaomdciaaGreatDoor
open Go Go.RowKit
def str (l : Str) : Value := .string ⟨l.toArray⟩

abbrev Env := Nat → Value
def upd (e : Env) (d : Nat) (v : Value) : Env := fun i => bif Nat.beq i d then v else e i
def updO (e : Env) (d : Option Nat) (v : Value) : Env := match d with | some d => upd e d v | none => e
def act (n : Nat) (e : Env) : Act := { tmps := Array.ofFn (n := n) (fun i => e i.val), defers := [] }
def rd (n : Nat) (e : Env) : Operand → Value
 | .tmp t => bif Nat.blt t n then e t else undef
 | .const v => v
 | .global g => .pointer (some ⟨g, 0, none⟩)
 | .func f => .func (.func f) #[] #[]

theorem act_eval (n : Nat) (e : Env) (x : Operand) : (act n e).eval x = rd n e x := by
 cases x with
 | tmp t =>
   simp only [Act.eval, act, rd]
   by_cases h : t < n
   · have : Nat.blt t n = true := by simp [Nat.blt_eq, h]
     simp [this, h]
   · have : Nat.blt t n = false := by
       cases hb : Nat.blt t n with
       | false => rfl
       | true => exact absurd (Nat.blt_eq ▸ hb) h
     simp [this, h]
 | const v => rfl
 | global g => rfl
 | func f => rfl

theorem act_eval' (n : Nat) (e : Env) : (act n e).eval = rd n e := funext (act_eval n e)

theorem act_put (n : Nat) (e : Env) (d : Option Nat) (v : Value) : (act n e).put d v = act n (updO e d v) := by
 cases d with
 | none => rfl
 | some d =>
   simp only [Act.put, act, updO, upd]
   congr 1
   apply Array.ext
   · simp
   · intro i h1 h2
     by_cases hd : d = i
     · subst hd; simp
     · have : Nat.beq i d = false := by
         cases hb : Nat.beq i d with
         | false => rfl
         | true => exact absurd (Nat.eq_of_beq_eq_true hb).symm hd
       have h3 : i < (Array.ofFn (n := n) fun i => e i.val).size := by simpa using h2
       rw [Array.getElem_setIfInBounds_ne h3 hd]
       simp only [Array.getElem_ofFn, this, cond_false]

/-- A block of cells; nothing of them is frozen (but a row of bytes may bear the mark of a text's copy behind its last cell). -/
def CellsAt (w : World) (g : Nat) (cur : Array Value) (t : TypeId) : Prop := ∃ fz : Nat × Nat, w.heap[g]? = some (.cells cur t fz) ∧ (fz.2 ≤ fz.1 ∨ (cur.size ≤ fz.1 ∧ t = TB))
section
variable {w w' : World} {g : Nat} {cur cs : Array Value} {t : TypeId}
theorem CellsAt.lt (h : CellsAt w g cur t) : g < w.heap.size := by
 obtain ⟨fz, h, _⟩ := h
 exact (Array.getElem?_eq_some_iff.1 h).1
theorem CellsAt.cell (h : CellsAt w g cur t) (o : Nat) : w.cell? ⟨g, o, none⟩ = cur[o]? := by
 obtain ⟨fz, h, _⟩ := h
 exact cell_of_row w g o cur t fz h
theorem CellsAt.keep (h : CellsAt w g cur t) (hk : w'.heap[g]? = w.heap[g]?) : CellsAt w' g cur t := by
 obtain ⟨fz, h, hz⟩ := h
 exact ⟨fz, hk.trans h, hz⟩
theorem CellsAt.setRow (h : CellsAt w g cur t) (hs : cs.size = cur.size) : CellsAt (w.setRow g cs) g cs t := by
 obtain ⟨fz, h, hz⟩ := h
 exact ⟨fz, setRow_heap w g cur cs t fz h, by rw [hs]; exact hz⟩
theorem CellsAt.new (w : World) (cur : Array Value) (t : TypeId) : CellsAt (w.alloc (.cells cur t)) w.heap.size cur t := ⟨(0, 0), heap_alloc_new w _, .inl (Nat.le_refl _)⟩
theorem CellsAt.shape (h : CellsAt w g cur t) : w.shape? g = some (t, cur.size) := by
 obtain ⟨fz, h, _⟩ := h
 simp [World.shape?, h]
theorem CellsAt.unfrozen (h : CellsAt w g cur t) {o : Nat} (ho : o < cur.size ∨ t ≠ TB) : w.frozen? ⟨g, o, none⟩ = false := by
 obtain ⟨⟨lo, hi⟩, h, hz⟩ := h
 simp only [World.frozen?, h, Bool.and_eq_false_iff, decide_eq_false_iff_not]
 simp only at hz
 rcases hz with hz | ⟨hz, ht⟩
 · omega
 · rcases ho with ho | ho
   · omega
   · exact absurd ht ho
end
theorem run_storeCells_R (P : Program) (g o : Nat) (t : TypeId) : ∀ (vs : List Value) (i : Nat) (cur : Array Value) (w : World), CellsAt w g cur t → o + i + vs.length ≤ cur.size → (∀ v ∈ vs, v.oneCell' = true) →
   (storeCells ⟨g, o, none⟩ vs i).run P w = .ok () (w.setRow g (cur.toList.take (o + i) ++ vs ++ cur.toList.drop (o + i + vs.length)).toArray)
 | [], i, cur, w, hg, _, _ => by
   obtain ⟨fz, hg, _⟩ := hg
   simp only [storeCells, List.append_nil, List.length_nil, Nat.add_zero, List.take_append_drop, Array.toArray_toList]
   rw [setRow_self w g cur t fz hg]
   rfl
 | v :: rest, i, cur, w, hg, hl, h1 => by
   have hi : o + i < cur.size := by simp at hl; omega
   have hadd : (⟨g, o, none⟩ : Addr).add i = ⟨g, o + i, none⟩ := by unfold Addr.add; split <;> simp_all
   have hcell : w.cell? ⟨g, o + i, none⟩ = some cur[o + i] := by rw [hg.cell]; simp [hi]
   have hfro : w.frozen? ⟨g, o + i, none⟩ = false := hg.unfrozen (.inl hi)
   have hgg := hg
   obtain ⟨fz, hg', _⟩ := hgg
   have hst : (store ((⟨g, o, none⟩ : Addr).add i) v).run P w = .ok () (w.setRow g (cur.setIfInBounds (o + i) v)) := by
     rw [hadd, run_store P w _ v _ (h1 v (by simp)), hcell]
     simp [hfro, setCell_eq_setRow w g (o + i) cur t fz v hg']
   have ih := run_storeCells_R P g o t rest (i + 1) (cur.setIfInBounds (o + i) v) (w.setRow g (cur.setIfInBounds (o + i) v)) (hg.setRow (by simp)) (by simp at hl ⊢; omega) (fun x hx => h1 x (by simp [hx]))
   simp only [storeCells, Sem.run_bind, hst, Result.andThen_ok, ih, setRow_setRow]
   congr 3
   have e := list_seg_step cur.toList (o + i) v rest (by simp at hl ⊢; omega)
   simpa [Array.toList_setIfInBounds, Nat.add_assoc] using e
/-- A slice value that owns its cells. -/
def World.ownsR (w : World) (base : Nat) (e : TypeId) (size : Nat) (v : Value) (n : Nat) (xs : List Value) : Prop :=
 xs.length = n * size ∧
 ((v = .slice none 0 0 ∧ n = 0) ∨
  ∃ g cap cur, v = .slice (some ⟨g, 0, none⟩) n cap ∧ base ≤ g ∧ CellsAt w g cur e ∧ n ≤ cap ∧ cap ≤ maxLen ∧ cap * size ≤ cur.size ∧ cur.toList.take (n * size) = xs)
theorem World.ownsR.lt {w : World} {base : Nat} {e : TypeId} {size : Nat} {v : Value} {n : Nat} {xs : List Value} (h : World.ownsR w base e size v n xs) : ∀ k, v.ownBlock = some k → base ≤ k ∧ k < w.heap.size := by
 intro k hk
 rcases h.2 with ⟨rfl, _⟩ | ⟨g, cap, cur, rfl, hb, hg, _⟩
 · simp [Value.ownBlock] at hk
 · simp [Value.ownBlock] at hk
   subst hk
   exact ⟨hb, hg.lt⟩
theorem World.ownsR.of {w : World} {base : Nat} {e : TypeId} {size : Nat} {v : Value} {n : Nat} {xs : List Value} (h : w.ownsRow base e size v n xs) : World.ownsR w base e size v n xs := by
 refine ⟨h.1, ?_⟩
 rcases h.2 with h | ⟨g, cap, cur, hv, hb, hg, r1, r2, r3, r4⟩
 · exact .inl h
 · exact .inr ⟨g, cap, cur, hv, hb, ⟨(0, 0), hg, .inl (Nat.le_refl _)⟩, r1, r2, Nat.le_of_eq r3.symm, r4⟩

/-- A row behind a slice value, told. -/
structure RD where
 v : Value
 t : Nat
 k : Nat
 n : Nat
 cs : List Value
/-- What the call owns: a block known whole, a row behind a slice value, or some rows. -/
inductive Res where
 | blk (b : Nat) (o : Obj)
 | row (v : Value) (t k n : Nat) (cs : List Value)
 | rows (rs : List RD)
def RD.res (r : RD) : Res := .row r.v r.t r.k r.n r.cs

def Res.ids : Res → List Nat
 | .blk b _ => [b]
 | .row v _ _ _ _ => v.ownBlock.toList
 | .rows rs => rs.flatMap (fun r => r.v.ownBlock.toList)

def Res.holds (w : World) : Res → Prop
 | .blk b o => w.heap[b]? = some o
 | .row v t k n cs => World.ownsR w 0 t k v n cs
 | .rows rs => ∀ r ∈ rs, World.ownsR w 0 r.t r.k r.v r.n r.cs

def idsOf (L : List Res) : List Nat := L.flatMap Res.ids

theorem idsOf_cons (r : Res) (L : List Res) : idsOf (r :: L) = r.ids ++ idsOf L := by simp [idsOf]
theorem idsOf_append (L M : List Res) : idsOf (L ++ M) = idsOf L ++ idsOf M := by simp [idsOf]
theorem mem_idsOf {L : List Res} {i : Nat} : i ∈ idsOf L ↔ ∃ r ∈ L, i ∈ r.ids := by simp [idsOf]

theorem Res.lt {w : World} {r : Res} (h : r.holds w) : ∀ i ∈ r.ids, i < w.heap.size := by
 intro i hi
 cases r with
 | blk b o =>
   simp only [Res.ids, List.mem_singleton] at hi
   subst hi
   exact (Array.getElem?_eq_some_iff.1 h).1
 | row v t k n cs =>
   simp only [Res.ids, Option.mem_toList] at hi
   exact (World.ownsR.lt h i hi).2
 | rows rs =>
   simp only [Res.ids, List.mem_flatMap, Option.mem_toList] at hi
   obtain ⟨q, hq, hi⟩ := hi
   exact (World.ownsR.lt (h q hq) i hi).2

theorem World.ownsR.same {w w' : World} {t k n : Nat} {v : Value} {cs : List Value} (h : World.ownsR w 0 t k v n cs) (hs : ∀ i, v.ownBlock = some i → w'.heap[i]? = w.heap[i]?) : World.ownsR w' 0 t k v n cs := by
 refine ⟨h.1, ?_⟩
 rcases h.2 with hn | ⟨g, cap, cur, rfl, hb, hgg, rest⟩
 · exact .inl hn
 · exact .inr ⟨g, cap, cur, rfl, hb, hgg.keep (hs g (by simp [Value.ownBlock])), rest⟩
/-- A resource that lies outside what turned still holds. -/
theorem Res.holds_of_same {w w' : World} {r : Res} (h : r.holds w) (hs : ∀ i ∈ r.ids, w'.heap[i]? = w.heap[i]?) : r.holds w' := by
 cases r with
 | blk b o => simp only [Res.holds] at *; rw [hs b (by simp [Res.ids])]; exact h
 | row v t k n cs =>
   simp only [Res.holds] at *
   refine ⟨h.1, ?_⟩
   rcases h.2 with hn | ⟨g, cap, cur, rfl, hb, hgg, rest⟩
   · exact .inl hn
   · refine .inr ⟨g, cap, cur, rfl, hb, ?_, rest⟩
     exact hgg.keep (hs g (by simp [Res.ids, Value.ownBlock]))
 | rows rs =>
   intro q hq
   refine World.ownsR.same (h q hq) fun i hi => hs i ?_
   simp only [Res.ids, List.mem_flatMap, Option.mem_toList]
   exact ⟨q, hq, hi⟩

/-- The resources hold, and no block is owned twice. -/
structure Has (L : List Res) (w : World) : Prop where
 holds : ∀ r ∈ L, r.holds w
 nodup : (idsOf L).Nodup
 low : ∀ i ∈ idsOf L, GB ≤ i
 room : GB ≤ w.heap.size
 glob : Glob w

/-- Since w0 nothing has turned but the blocks D and new ones; of these the resources L are known. -/
structure St (w0 : World) (D : List Nat) (L : List Res) (w : World) : Prop extends Has L w where
 os : w.os = w0.os
 tape : w.tape = w0.tape
 output : w.output = w0.output
 size : w0.heap.size ≤ w.heap.size
 fresh : ∀ i ∈ idsOf L, i ∈ D ∨ w0.heap.size ≤ i
 keep : ∀ k, k < w0.heap.size → k ∉ D → w.heap[k]? = w0.heap[k]?

theorem St.start {L : List Res} {w : World} (h : Has L w) : St w (idsOf L) L w :=
 ⟨h, rfl, rfl, rfl, Nat.le_refl _, fun _ hi => .inl hi, fun _ _ _ => rfl⟩

theorem idsOf_sublist {L M : List Res} (hs : M.Sublist L) : (idsOf M).Sublist (idsOf L) := by
 induction hs with
 | slnil => exact List.Sublist.refl _
 | cons r _ ih => rw [idsOf_cons]; exact ih.trans (List.sublist_append_right _ _)
 | cons_cons r _ ih => rw [idsOf_cons, idsOf_cons]; exact List.Sublist.append (List.Sublist.refl _) ih

theorem idsOf_perm {L M : List Res} (hs : M.Perm L) : (idsOf M).Perm (idsOf L) := by
 unfold idsOf
 exact List.Perm.flatMap_right _ hs

theorem Has.sub {L M : List Res} {w : World} (h : Has L w) (hs : M.Sublist L) : Has M w :=
 ⟨fun r hr => h.holds r (hs.subset hr), List.Nodup.sublist (idsOf_sublist hs) h.nodup, fun i hi => h.low i ((idsOf_sublist hs).subset hi), h.room, h.glob⟩

theorem Has.perm {L M : List Res} {w : World} (h : Has L w) (hs : M.Perm L) : Has M w :=
 ⟨fun r hr => h.holds r (hs.subset hr), (idsOf_perm hs).nodup_iff.2 h.nodup, fun i hi => h.low i ((idsOf_perm hs).subset hi), h.room, h.glob⟩

section
variable {w0 w w' : World} {D : List Nat} {L M : List Res}

theorem St.sub (h : St w0 D L w) (hs : M.Sublist L) : St w0 D M w :=
 { h with toHas := h.toHas.sub hs, fresh := fun i hi => h.fresh i ((idsOf_sublist hs).subset hi) }

theorem St.perm (h : St w0 D L w) (hs : M.Perm L) : St w0 D M w :=
 { h with toHas := h.toHas.perm hs, fresh := fun i hi => h.fresh i ((idsOf_perm hs).subset hi) }

theorem St.lt (h : St w0 D L w) : ∀ i ∈ idsOf L, i < w.heap.size := fun i hi => by
 obtain ⟨r, hr, hir⟩ := mem_idsOf.1 hi
 exact Res.lt (h.holds r hr) i hir

/-- The general step: the resources A are turned into A'; all else stays. -/
theorem St.turn {A A' F : List Res} (h : St w0 D L w) (hp : L.Perm (A ++ F)) (hos : w'.os = w.os) (htape : w'.tape = w.tape) (hout : w'.output = w.output)
   (hsize : w.heap.size ≤ w'.heap.size) (hkeep : ∀ k, k < w.heap.size → k ∉ idsOf A → w'.heap[k]? = w.heap[k]?)
   (hA : ∀ r ∈ A', r.holds w') (hAn : (idsOf A').Nodup) (hfresh : ∀ i ∈ idsOf A', i ∈ idsOf A ∨ w.heap.size ≤ i) : St w0 D (A' ++ F) w' := by
 have h2 : St w0 D (A ++ F) w := h.perm hp.symm
 have hnd := h2.nodup
 rw [idsOf_append] at hnd
 obtain ⟨_, hF, hdis⟩ := List.nodup_append.1 hnd
 have hlt := h2.lt
 have hFin : ∀ r ∈ F, r.holds w' := fun r hr => Res.holds_of_same (h2.holds r (List.mem_append_right _ hr)) fun i hi =>
   hkeep i (Res.lt (h2.holds r (List.mem_append_right _ hr)) i hi) fun hiA => hdis i hiA i (mem_idsOf.2 ⟨r, hr, hi⟩) rfl
 have hlow : ∀ i ∈ idsOf A', GB ≤ i := fun i hi => by
   rcases hfresh i hi with hiA | hge
   · exact h2.low i (by rw [idsOf_append]; exact List.mem_append_left _ hiA)
   · exact Nat.le_trans h.room hge
 have hkeepLow : ∀ k, k < GB → w'.heap[k]? = w.heap[k]? := fun k hk => hkeep k (Nat.lt_of_lt_of_le hk h.room) fun hkA => by
   have := h2.low k (by rw [idsOf_append]; exact List.mem_append_left _ hkA)
   omega
 refine ⟨⟨fun r hr => ?_, ?_, fun i hi => ?_, Nat.le_trans h.room hsize, h.glob.keep hkeepLow⟩, hos.trans h.os, htape.trans h.tape, hout.trans h.output, Nat.le_trans h.size hsize, fun i hi => ?_, fun k hk hkD => ?_⟩
 · rcases List.mem_append.1 hr with hr | hr
   · exact hA r hr
   · exact hFin r hr
 · rw [idsOf_append]
   refine List.nodup_append.2 ⟨hAn, hF, fun i hi j hj hij => ?_⟩
   subst hij
   rcases hfresh i hi with hiA | hge
   · exact hdis i hiA i hj rfl
   · exact absurd (hlt i (by rw [idsOf_append]; exact List.mem_append_right _ hj)) (by omega)
 · rw [idsOf_append] at hi
   rcases List.mem_append.1 hi with hi | hi
   · exact hlow i hi
   · exact h2.low i (by rw [idsOf_append]; exact List.mem_append_right _ hi)
 · rw [idsOf_append] at hi
   rcases List.mem_append.1 hi with hi | hi
   · rcases hfresh i hi with hiA | hge
     · exact h2.fresh i (by rw [idsOf_append]; exact List.mem_append_left _ hiA)
     · exact .inr (Nat.le_trans h.size hge)
   · exact h2.fresh i (by rw [idsOf_append]; exact List.mem_append_right _ hi)
 · rw [hkeep k (Nat.lt_of_lt_of_le hk h.size) fun hkA => ?_]
   · exact h.keep k hk hkD
   · rcases h2.fresh k (by rw [idsOf_append]; exact List.mem_append_left _ hkA) with hd | hge
     · exact hkD hd
     · omega

/-- What a reader needs of a world. -/
structure Qw (w0 : World) (D : List Nat) (L : List Res) (w : World) : Prop where
 holds : ∀ r ∈ L, r.holds w
 keep : ∀ k, k < w0.heap.size → k ∉ D → w.heap[k]? = w0.heap[k]?

theorem St.qw (h : St w0 D L w) : Qw w0 D L w := ⟨h.holds, h.keep⟩
theorem Qw.sub (h : Qw w0 D L w) (hs : ∀ r ∈ M, r ∈ L) : Qw w0 D M w := ⟨fun r hr => h.holds r (hs r hr), h.keep⟩
theorem Qw.get {i : Nat} {r : Res} (h : Qw w0 D L w) (hL : L[i]? = some r) : r.holds w := h.holds r (List.mem_of_getElem? hL)

theorem St.drew (h : St w0 D L w) : St w0 D L w.drew :=
 ⟨⟨fun r hr => Res.holds_of_same (h.holds r hr) fun _ _ => rfl, h.nodup, h.low, h.room, h.glob.keep fun _ _ => rfl⟩, h.os, h.tape, h.output, h.size, h.fresh, h.keep⟩

/-- Some rows are as good as each of them. -/
theorem idsOf_rows (rs : List RD) (L : List Res) : idsOf (.rows rs :: L) = idsOf (rs.map RD.res ++ L) := by
 rw [idsOf_cons, idsOf_append]
 congr 1
 simp only [Res.ids, idsOf, List.flatMap_map]
 rfl
theorem St.openRows {rs : List RD} (h : St w0 D (.rows rs :: L) w) : St w0 D (rs.map RD.res ++ L) w :=
 { h with
   toHas := ⟨fun r hr => by
     rcases List.mem_append.1 hr with hr | hr
     · obtain ⟨q, hq, rfl⟩ := List.mem_map.1 hr
       exact h.holds _ (List.mem_cons_self ..) q hq
     · exact h.holds r (List.mem_cons_of_mem _ hr), by rw [← idsOf_rows]; exact h.nodup, by rw [← idsOf_rows]; exact h.low, h.room, h.glob⟩
   fresh := by rw [← idsOf_rows]; exact h.fresh }
theorem St.closeRows {rs : List RD} (h : St w0 D (rs.map RD.res ++ L) w) : St w0 D (.rows rs :: L) w :=
 { h with
   toHas := ⟨fun r hr => by
     rcases List.mem_cons.1 hr with rfl | hr
     · exact fun q hq => h.holds _ (List.mem_append_left _ (List.mem_map.2 ⟨q, hq, rfl⟩))
     · exact h.holds r (List.mem_append_right _ hr), by rw [idsOf_rows]; exact h.nodup, by rw [idsOf_rows]; exact h.low, h.room, h.glob⟩
   fresh := by rw [idsOf_rows]; exact h.fresh }
/-- A new block. -/
theorem St.alloc (h : St w0 D L w) (o : Obj) : St w0 D (.blk w.heap.size o :: L) (w.alloc o) := by
 refine h.turn (A := []) (A' := [.blk w.heap.size o]) (F := L) (List.Perm.refl _) rfl rfl rfl (by simp) (fun k hk _ => Below.heap_alloc _ _ _ hk) ?_ ?_ ?_
 · intro r hr
   simp only [List.mem_singleton] at hr
   subst hr
   exact heap_alloc_new w o
 · simp [idsOf, Res.ids]
 · intro i hi
   simp only [idsOf, Res.ids, List.flatMap_cons, List.flatMap_nil, List.append_nil, List.mem_singleton] at hi
   exact .inr (by omega)

theorem perm_set (i : Nat) (r r' : Res) (hL : L[i]? = some r) : L.Perm ([r] ++ L.eraseIdx i) ∧ (L.set i r').Perm ([r'] ++ L.eraseIdx i) := by
 induction L generalizing i with
 | nil => simp at hL
 | cons a L ih =>
   cases i with
   | zero => simp at hL; subst hL; exact ⟨List.Perm.refl _, List.Perm.refl _⟩
   | succ i =>
     simp only [List.getElem?_cons_succ] at hL
     obtain ⟨h1, h2⟩ := ih i hL
     refine ⟨?_, ?_⟩
     · simp only [List.eraseIdx_cons_succ, List.singleton_append]
       exact ((List.Perm.cons a h1).trans (List.Perm.swap r a _))
     · simp only [List.set_cons_succ, List.eraseIdx_cons_succ, List.singleton_append]
       exact ((List.Perm.cons a h2).trans (List.Perm.swap r' a _))

theorem perm_erase (i : Nat) (r : Res) (hL : L[i]? = some r) : L.Perm (r :: L.eraseIdx i) := (perm_set i r r hL).1

/-- One resource turned in its place. -/
theorem St.turn1 {r r' : Res} {i : Nat} (h : St w0 D L w) (hL : L[i]? = some r) (hos : w'.os = w.os) (htape : w'.tape = w.tape) (hout : w'.output = w.output)
   (hsize : w.heap.size ≤ w'.heap.size) (hkeep : ∀ k, k < w.heap.size → k ∉ r.ids → w'.heap[k]? = w.heap[k]?)
   (hr : r'.holds w') (hnd : r'.ids.Nodup) (hfresh : ∀ i ∈ r'.ids, i ∈ r.ids ∨ w.heap.size ≤ i) : St w0 D (L.set i r') w' := by
 obtain ⟨h1, h2⟩ := perm_set i r r' hL
 have e1 : idsOf [r] = r.ids := by simp [idsOf]
 have e2 : idsOf [r'] = r'.ids := by simp [idsOf]
 refine (h.turn (A := [r]) (A' := [r']) h1 hos htape hout hsize (by rw [e1]; exact hkeep) ?_ (by rw [e2]; exact hnd) (by rw [e1, e2]; exact hfresh)).perm h2
 intro x hx
 simp only [List.mem_singleton] at hx
 subst hx
 exact hr

theorem St.get {i : Nat} {r : Res} (h : St w0 D L w) (hL : L[i]? = some r) : r.holds w := h.holds r (List.mem_of_getElem? hL)

end

section
variable {P : Program} {ops : Array Oper} {Q : Exit → Act → World → Prop} {n : Nat} {w0 : World} {D : List Nat} {L : List Res} {e : Env}

/-- A list of operations. -/
def JL (P : Program) (ops : Array Oper) (Q : Exit → Act → World → Prop) (n : Nat) (w0 : World) (D : List Nat) (L : List Res) (l : List Oper) (e : Env) : Prop :=
 ∀ w, St w0 D L w → wpList P ops Q l (act n e) w

/-- A piece of code. -/
def JC (P : Program) (Q : Exit → Act → World → Prop) (n : Nat) (w0 : World) (D : List Nat) (L : List Res) (c : Code) (e : Env) : Prop :=
 ∀ w, St w0 D L w → c.wp P Q (act n e) w

/-- An exit. -/
def JQ (Q : Exit → Act → World → Prop) (x : Exit) (n : Nat) (w0 : World) (D : List Nat) (L : List Res) (e : Env) : Prop :=
 ∀ w, St w0 D L w → Q x (act n e) w

/-- What a single operation does: it yields v and leaves the resources L'. -/
def JO (P : Program) (n : Nat) (w0 : World) (D : List Nat) (L : List Res) (e : Env) (o : Oper) (Φ : Value → List Res → Prop) : Prop :=
 ∀ w, St w0 D L w → ∀ (K : Act → World → Prop) (Q : Exit → Act → World → Prop), (∀ v L' w', Φ v L' → St w0 D L' w' → K (act n (updO e o.dst v)) w') → o.wp P (act n e) w K Q

/-- An operation that yields v and leaves the world as it is, whatever it is. -/
def PO (P : Program) (n : Nat) (e : Env) (o : Oper) (v : Value) : Prop := ∀ w, (execOp (rd n e) o).run P w = .ok (.value v) w

/-- An operation that yields v wherever the resources L hold, and leaves the world as it is. -/
def LO (P : Program) (n : Nat) (w0 : World) (D : List Nat) (L : List Res) (e : Env) (o : Oper) (v : Value) : Prop := ∀ w, Qw w0 D L w → (execOp (rd n e) o).run P w = .ok (.value v) w

theorem LO.pure {o : Oper} {v : Value} (h : PO P n e o v) : LO P n w0 D L e o v := fun w _ => h w
theorem jm {o : Oper} {v : Value} (h : LO P n w0 D L e o v) : JO P n w0 D L e o (fun u L' => u = v ∧ L' = L) := fun w hw K Q hK => by
 unfold Oper.wp
 rw [act_eval', h w hw.qw, Oper.upon_value, act_put]
 exact hK v L w ⟨rfl, rfl⟩ hw

/-- What the resources tell of the values. -/
theorem jo {l : List Oper} (h : (∃ w, St w0 D L w) → JL P ops Q n w0 D L l e) : JL P ops Q n w0 D L l e := fun w hw => h ⟨w, hw⟩ w hw
theorem JC.facts {c : Code} (h : (∃ w, St w0 D L w) → JC P Q n w0 D L c e) : JC P Q n w0 D L c e := fun w hw => h ⟨w, hw⟩ w hw
theorem JQ.facts {x : Exit} (h : (∃ w, St w0 D L w) → JQ Q x n w0 D L e) : JQ Q x n w0 D L e := fun w hw => h ⟨w, hw⟩ w hw

theorem jb (h : JQ Q .normal n w0 D L e) : JL P ops Q n w0 D L [] e := fun w hw => wpList_nil (h w hw)

theorem jF {o : Oper} {rest : List Oper} {Φ : Value → List Res → Prop} (hg : o.guard = none) (ho : JO P n w0 D L e o Φ)
   (h : ∀ v L', Φ v L' → JL P ops Q n w0 D L' rest (updO e o.dst v)) : JL P ops Q n w0 D L (o :: rest) e := fun w hw =>
 wpList_plain hg fun K hK => ho w hw K Q fun v L' w' hΦ hw' => hK _ _ (h v L' hΦ w' hw')

theorem JO.pure {o : Oper} {v : Value} (h : (∃ w, St w0 D L w) → PO P n e o v) : JO P n w0 D L e o (fun u L' => u = v ∧ L' = L) := fun w hw K Q hK => by
 unfold Oper.wp
 rw [act_eval', h ⟨w, hw⟩ w, Oper.upon_value, act_put]
 exact hK v L w ⟨rfl, rfl⟩ hw

theorem kF {o : Oper} {rest : List Oper} {v : Value} (hg : o.guard = none) (ho : PO P n e o v)
   (h : JL P ops Q n w0 D L rest (updO e o.dst v)) : JL P ops Q n w0 D L (o :: rest) e :=
 jF hg (JO.pure fun _ => ho) fun _ _ ⟨hv, hL⟩ => by subst hv; subst hL; exact h

theorem JL.ld {o : Oper} {rest : List Oper} {v : Value} (hg : o.guard = none) (ho : LO P n w0 D L e o v)
   (h : JL P ops Q n w0 D L rest (updO e o.dst v)) : JL P ops Q n w0 D L (o :: rest) e :=
 jF hg (jm ho) fun _ _ ⟨hv, hL⟩ => by subst hv; subst hL; exact h

/-- A guard that says yes, and one that says no. -/
theorem jW {o : Oper} {rest : List Oper} {Φ : Value → List Res → Prop} {j : Nat} {b : Bool} {t : Tmp} (hg : o.guard = some (j, b)) (hj : (ops[j]?).bind (·.dst) = some t) (ht : Nat.blt t n = true) (hv : e t = .bool b)
   (ho : JO P n w0 D L e o Φ) (h : ∀ v L', Φ v L' → JL P ops Q n w0 D L' rest (updO e o.dst v)) : JL P ops Q n w0 D L (o :: rest) e := fun w hw => by
 have hlt : t < n := (Nat.blt_eq (x := t) (y := n)) ▸ ht
 have hy : yielded ops (act n e).tmps j = some b := by simp [yielded, hj, act, hlt, hv]
 refine wpList_step fun K hK => ?_
 rw [if_pos (by simp [Region.wanted, hg, hy])]
 exact ho w hw K Q fun v L' w' hΦ hw' => hK _ _ (h v L' hΦ w' hw')

theorem JL.guardOff {o : Oper} {rest : List Oper} {j : Nat} {b : Bool} {t : Tmp} (hg : o.guard = some (j, !b)) (hj : (ops[j]?).bind (·.dst) = some t) (ht : Nat.blt t n = true) (hv : e t = .bool b)
   (h : JL P ops Q n w0 D L rest (updO e o.dst undef)) : JL P ops Q n w0 D L (o :: rest) e := fun w hw => by
 have hlt : t < n := (Nat.blt_eq (x := t) (y := n)) ▸ ht
 have hy : yielded ops (act n e).tmps j = some b := by simp [yielded, hj, act, hlt, hv]
 refine wpList_step fun K hK => ?_
 rw [if_neg (by cases b <;> simp [Region.wanted, hg, hy]), act_put]
 exact hK _ _ (h w hw)

theorem JL.perm {l : List Oper} {L' : List Res} (hL : L'.Perm L) (h : JL P ops Q n w0 D L' l e) : JL P ops Q n w0 D L l e := fun w hw => h w (hw.perm hL)
theorem JQ.sub {x : Exit} {L' : List Res} (hL : L'.Sublist L) (h : JQ Q x n w0 D L' e) : JQ Q x n w0 D L e := fun w hw => h w (hw.sub hL)
theorem ju {x : Exit} {L' : List Res} (hL : L'.Perm L) (h : JQ Q x n w0 D L' e) : JQ Q x n w0 D L e := fun w hw => h w (hw.perm hL)
theorem JC.sub {c : Code} {L' : List Res} (hL : L'.Sublist L) (h : JC P Q n w0 D L' c e) : JC P Q n w0 D L c e := fun w hw => h w (hw.sub hL)
theorem JC.perm {c : Code} {L' : List Res} (hL : L'.Perm L) (h : JC P Q n w0 D L' c e) : JC P Q n w0 D L c e := fun w hw => h w (hw.perm hL)

theorem jy {id : Nat} {l : List Oper} (h : JL P l.toArray Q n w0 D L l e) : JC P Q n w0 D L (.region id l.toArray false) e := fun w hw => wp_region_lit (h w hw)
theorem jc {x y : Code} (h : JC P (Exit.then (y.wp P Q) Q) n w0 D L x e) : JC P Q n w0 D L (.seq x y) e := fun w hw => wp_seq (h w hw)
theorem jT {y : Code} (h : JC P Q n w0 D L y e) : JQ (Exit.then (y.wp P Q) Q) .normal n w0 D L e := fun w hw => h w hw
theorem JQ.thenExit {K : Act → World → Prop} {id : Nat} (h : JQ Q (.exit id) n w0 D L e) : JQ (Exit.then K Q) (.exit id) n w0 D L e := h
theorem JQ.thenRet {K : Act → World → Prop} (h : JQ Q .ret n w0 D L e) : JQ (Exit.then K Q) .ret n w0 D L e := h
theorem JC.skip (h : JQ Q .normal n w0 D L e) : JC P Q n w0 D L .skip e := fun w hw => wp_skip (h w hw)
theorem JC.exit {id : Nat} (h : JQ Q (.exit id) n w0 D L e) : JC P Q n w0 D L (.exit id) e := fun w hw => wp_exit (h w hw)
theorem jz (h : JQ Q .ret n w0 D L e) : JC P Q n w0 D L .ret e := fun w hw => wp_ret (h w hw)
theorem JC.condT {c : Operand} {x y : Code} (hc : rd n e c = .bool true) (h : JC P Q n w0 D L x e) : JC P Q n w0 D L (.cond c x y) e := fun w hw => wp_cond_true (by rw [act_eval]; exact hc) (h w hw)
theorem JC.condF {c : Operand} {x y : Code} (hc : rd n e c = .bool false) (h : JC P Q n w0 D L y e) : JC P Q n w0 D L (.cond c x y) e := fun w hw => wp_cond_false (by rw [act_eval]; exact hc) (h w hw)
theorem JC.block {id : Nat} {c : Code} (h : JC P (Exit.inBlock id Q) n w0 D L c e) : JC P Q n w0 D L (.block id c) e := fun w hw => wp_block (h w hw)
theorem JQ.blockN {id : Nat} (h : JQ Q .normal n w0 D L e) : JQ (Exit.inBlock id Q) .normal n w0 D L e := fun w hw => h w hw
theorem JQ.blockE {id : Nat} (h : JQ Q .normal n w0 D L e) : JQ (Exit.inBlock id Q) (.exit id) n w0 D L e := fun w hw => by
 have := h w hw
 simpa [Exit.inBlock] using this
theorem JQ.blockO {id id' : Nat} (hne : Nat.beq id' id = false) (h : JQ Q (.exit id') n w0 D L e) : JQ (Exit.inBlock id Q) (.exit id') n w0 D L e := fun w hw => by
 have h1 := h w hw
 have hne' : id' ≠ id := fun he => by subst he; simp at hne
 simpa [Exit.inBlock, hne'] using h1
theorem JQ.blockRet {id : Nat} (h : JQ Q .ret n w0 D L e) : JQ (Exit.inBlock id Q) .ret n w0 D L e := fun w hw => h w hw

/-- The end of a round: the relation holds again, at a smaller count. -/
def Again (n : Nat) (w0 : World) (D : List Nat) (I : Nat → Env → List Res → Prop) (k : Nat) (a : Act) (w : World) : Prop :=
 ∃ k' e' L', k' < k ∧ a = act n e' ∧ St w0 D L' w ∧ I k' e' L'

theorem jV {I : Nat → Env → List Res → Prop} {k : Nat} (k' : Nat) (hk : k' < k) (h : I k' e L) : JQ (Exit.then (Again n w0 D I k) Q) .normal n w0 D L e :=
 fun _ hw => ⟨k', e, L, hk, rfl, hw, h⟩

theorem jL {c : Code} (I : Nat → Env → List Res → Prop) (k : Nat) (h0 : I k e L)
   (round : ∀ k e L, I k e L → JC P (Exit.then (Again n w0 D I k) Q) n w0 D L c e) : JC P Q n w0 D L (.loop c) e := by
 have key : ∀ m k, k < m → ∀ e L w, I k e L → St w0 D L w → Code.rounds P c Q m (act n e) w := by
   intro m
   induction m with
   | zero => intro k hk; omega
   | succ m ih =>
     intro k hk e L w hI hw
     rw [rounds_succ]
     refine wp_mono (round k e L hI w hw) fun x a w' hq => ?_
     cases x with
     | normal =>
       obtain ⟨k', e', L', hk', rfl, hw', hI'⟩ := hq
       exact ih k' (by omega) e' L' w' hI' hw'
     | _ => exact hq
 exact fun w hw => wp_loop_rounds (k + 1) (key (k + 1) k (by omega) e L w h0 hw)

/-- What a function does: called with these arguments, the resources A at hand, it returns v and leaves A'; of what else was there nothing has turned. -/
def Ct (P : Program) (f : FuncId) (args : List Value) (A : List Res) (Pre : World → Prop) (Post : Value → List Res → Prop) : Prop :=
 ∀ w, Has A w → Pre w → Calls P f args.toArray w (fun e w' => ∃ v A', e = .returned v ∧ Post v A' ∧ St w (idsOf A) A' w')

/-- The end of a body. -/
def Done (w0 : World) (D : List Nat) (Post : Value → List Res → Prop) (e : Ending) (w : World) : Prop :=
 ∃ v A', e = .returned v ∧ Post v A' ∧ St w0 D A' w

def argEnv (l : List Value) : Env := fun i => l.getD i undef

theorem act_args (n : Nat) (l : List Value) (h : l.length ≤ n) : ({ tmps := l.toArray ++ Array.replicate (n - l.toArray.size) undef, defers := [] } : Act) = act n (argEnv l) := by
 simp only [act, argEnv]
 congr 1
 apply Array.ext
 · simp; omega
 · intro i h1 h2
   simp only [Array.getElem_ofFn, Array.getElem_append, List.size_toArray, List.getElem_toArray, Array.getElem_replicate, List.getD_eq_getElem?_getD]
   split
   · rename_i hi; simp [hi]
   · rename_i hi; simp [List.getElem?_eq_none (by omega : l.length ≤ i)]

theorem Ct.intro {f : FuncId} {fn : Func} {c : Code} {args : List Value} {A : List Res} {Pre : World → Prop} {Post : Value → List Res → Prop}
   (hf : P.funcs[f]? = some fn) (hb : fn.body = some c) (hn : fn.ntmps = n) (hle : args.length ≤ n)
   (h : ∀ w0, Pre w0 → JC P (bodyPost P fn (Done w0 (idsOf A) Post)) n w0 (idsOf A) A c (argEnv args)) : Ct P f args A Pre Post := fun w hA hpre => by
 refine calls_of_wp hf hb ?_
 rw [hn, act_args n args hle]
 exact h w hpre w (St.start hA)

end
section
variable {P : Program} {ops : Array Oper} {Q : Exit → Act → World → Prop} {n : Nat} {w0 : World} {D : List Nat} {L : List Res} {e : Env}
variable {d : Option Tmp} {ty : TypeId} {pos : String} {aft : Array Edge} {gd : Option (Nat × Bool)}

theorem beq_dec {α : Type} [BEq α] [LawfulBEq α] [DecidableEq α] (a b : α) : (a == b) = decide (a = b) := by by_cases h : a = b <;> simp [h]

theorem PO.move {x : Operand} {v : Value} (hx : rd n e x = v) : PO P n e ⟨d, .move x, ty, pos, aft, gd⟩ v := fun w => by simp [execOp, hx]
theorem PO.assign {x : Operand} {v : Value} (hx : rd n e x = v) : PO P n e ⟨d, .assign x, ty, pos, aft, gd⟩ v := fun w => by simp [execOp, hx]
theorem PO.pickT {c x y : Operand} {v : Value} (hc : rd n e c = .bool true) (hx : rd n e x = v) : PO P n e ⟨d, .pick c x y, ty, pos, aft, gd⟩ v := fun w => by simp [execOp, hc, hx, asBool]
theorem PO.pickF {c x y : Operand} {v : Value} (hc : rd n e c = .bool false) (hy : rd n e y = v) : PO P n e ⟨d, .pick c x y, ty, pos, aft, gd⟩ v := fun w => by simp [execOp, hc, hy, asBool]
theorem PO.nilCheck {x : Operand} {a : Addr} (hx : rd n e x = .pointer (some a)) : PO P n e ⟨d, .nilCheck x, ty, pos, aft, gd⟩ (.pointer (some a)) := fun w => by simp [execOp, hx]
theorem PO.makeFunc {fn : Fn} {f c : Array Operand} {fv cv : List Value} (hf : f.toList.map (rd n e) = fv) (hc : c.toList.map (rd n e) = cv) :
   PO P n e ⟨d, .makeFunc fn f c, ty, pos, aft, gd⟩ (.func fn fv.toArray cv.toArray) := fun w => by
 subst hf; subst hc
 simp [execOp, Instr.makeFunc]
 constructor <;> (apply Array.ext'; simp)
theorem PO.extract {x : Operand} {vs : Array Value} {i : Nat} {v : Value} (hx : rd n e x = .tuple vs) (hi : vs[i]? = some v) : PO P n e ⟨d, .extract x i, ty, pos, aft, gd⟩ v := fun w => by
 simp [execOp, Instr.extract, hx, hi]

/-- The address of a field. -/
def FieldOff (P : Program) (s f off : Nat) : Prop := ∀ b o w, (Instr.fieldAt s (.pointer (some ⟨b, o, none⟩)) f).run P w = .ok (.pointer (some ⟨b, o + off, none⟩)) w
theorem FieldOff.mk {s f off ft k : Nat} {fs : Array Field} {fl : Field} (hu : P.underlying s = some (.struct fs)) (hf : fs[f]? = some fl) (hft : fl.type = ft) (ho : fl.offset = off)
   (hs : ∀ w, (sizeOf ft).run P w = .ok (k + 1) w) : FieldOff P s f off := fun b o w => by
 subst hft; subst ho
 have ha : ∀ m, (⟨b, o, none⟩ : Addr).add m = ⟨b, o + m, none⟩ := fun m => by unfold Addr.add; split <;> simp_all
 simp [Instr.fieldAt, run_underlying hu, hf, Instr.sureAddr, fieldPlace, hs, ha]
theorem PO.fieldAddr {x : Operand} {s f off b o : Nat} (hf : FieldOff P s f off) (hx : rd n e x = .pointer (some ⟨b, o, none⟩)) :
   PO P n e ⟨d, .fieldAddr s x f, ty, pos, aft, gd⟩ (.pointer (some ⟨b, o + off, none⟩)) := fun w => by simp [execOp, hx, hf b o w]

/-- The place of a cell behind a slice. -/
def elp (a : Option Addr) (o : Nat) : Value := match a with | some a => .pointer (some ⟨a.block, a.off + o, none⟩) | none => undef
theorem PO.fieldAddrE {x : Operand} {s f off o : Nat} {a : Option Addr} (hf : FieldOff P s f off) (ha : a.isSome = true) (hx : rd n e x = elp a o) :
   PO P n e ⟨d, .fieldAddr s x f, ty, pos, aft, gd⟩ (elp a (o + off)) := fun w => by
 cases a with
 | none => simp at ha
 | some a => simp [execOp, hx, elp, hf a.block (a.off + o) w, Nat.add_assoc]

theorem wr {x c : Int} (h : x = c ∧ -9223372036854775808 ≤ x ∧ x ≤ 9223372036854775807) : IntKind.i64.wrap x = c := (IntWalk.i64_in x h.2).trans h.1
theorem getD_some {α : Type} {l : List α} {i : Nat} {d : α} (h : i < l.length) : l[i]? = some (l.getD i d) := by simp [h]
theorem je {t : TypeId} {parts : Array (Nat × Operand)} {ps : List (Nat × Value)} {cs : List Value} (hp : parts.toList.map (fun x => (x.1, rd n e x.2)) = ps) (hb : P.built t ps = some cs.toArray) :
   PO P n e ⟨d, .build t parts, ty, pos, aft, gd⟩ (.agg cs.toArray) := fun w => by
 have hps : (parts.map fun x => (x.1, rd n e x.2)).toList = ps := by rw [← hp]; simp
 have := run_build (P := P) w t (parts.map fun x => (x.1, rd n e x.2)) cs.toArray (by rw [hps]; exact hb)
 simp [execOp, this]
theorem i64_in {x : Int} (h : -9223372036854775808 ≤ x ∧ x ≤ 9223372036854775807) : IntKind.i64.wrap x = x := IntWalk.i64_in x h
theorem PO.addW {x y : Operand} {k : IntKind} {a b : Int} {t u : TypeId} (hx : rd n e x = .int k a) (hy : rd n e y = .int k b) : PO P n e ⟨d, .binOp .add t x y u, ty, pos, aft, gd⟩ (.int k (k.wrap (a + b))) := fun w => by
 simp [execOp, hx, hy, eqGuard, binOp, Op.intArith]
theorem PO.subW {x y : Operand} {k : IntKind} {a b : Int} {t u : TypeId} (hx : rd n e x = .int k a) (hy : rd n e y = .int k b) : PO P n e ⟨d, .binOp .sub t x y u, ty, pos, aft, gd⟩ (.int k (k.wrap (a - b))) := fun w => by
 simp [execOp, hx, hy, eqGuard, binOp, Op.intArith]
theorem PO.mulW {x y : Operand} {k : IntKind} {a b : Int} {t u : TypeId} (hx : rd n e x = .int k a) (hy : rd n e y = .int k b) : PO P n e ⟨d, .binOp .mul t x y u, ty, pos, aft, gd⟩ (.int k (k.wrap (a * b))) := fun w => by
 simp [execOp, hx, hy, eqGuard, binOp, Op.intArith]
theorem PO.add {x y : Operand} {k : IntKind} {a b c : Int} {t u : TypeId} (hx : rd n e x = .int k a) (hy : rd n e y = .int k b) (hc : k.wrap (a + b) = c) : PO P n e ⟨d, .binOp .add t x y u, ty, pos, aft, gd⟩ (.int k c) := hc ▸ PO.addW hx hy
theorem jg {x y : Operand} {k : IntKind} {a b c : Int} {t u : TypeId} (hx : rd n e x = .int k a) (hy : rd n e y = .int k b) (hc : k.wrap (a - b) = c) : PO P n e ⟨d, .binOp .sub t x y u, ty, pos, aft, gd⟩ (.int k c) := hc ▸ PO.subW hx hy
theorem PO.mul {x y : Operand} {k : IntKind} {a b c : Int} {t u : TypeId} (hx : rd n e x = .int k a) (hy : rd n e y = .int k b) (hc : k.wrap (a * b) = c) : PO P n e ⟨d, .binOp .mul t x y u, ty, pos, aft, gd⟩ (.int k c) := hc ▸ PO.mulW hx hy
theorem PO.quo {x y : Operand} {k : IntKind} {a b c : Int} {t u : TypeId} (hx : rd n e x = .int k a) (hy : rd n e y = .int k b) (hb : b ≠ 0) (hc : k.wrap (a.tdiv b) = c) : PO P n e ⟨d, .binOp .quo t x y u, ty, pos, aft, gd⟩ (.int k c) := fun w => by
 simp [execOp, hx, hy, eqGuard, binOp, Op.intDiv, hb, hc]
theorem PO.rem {x y : Operand} {k : IntKind} {a b c : Int} {t u : TypeId} (hx : rd n e x = .int k a) (hy : rd n e y = .int k b) (hb : b ≠ 0) (hc : a.tmod b = c) : PO P n e ⟨d, .binOp .rem t x y u, ty, pos, aft, gd⟩ (.int k c) := fun w => by
 simp [execOp, hx, hy, eqGuard, binOp, Op.intDiv, hb, hc]
theorem PO.bits {op : BinOp} {x y : Operand} {k : IntKind} {a b : Int} {t u : TypeId} (hop : op = .and ∨ op = .or ∨ op = .xor) (hx : rd n e x = .int k a) (hy : rd n e y = .int k b) :
   PO P n e ⟨d, .binOp op t x y u, ty, pos, aft, gd⟩ (.int k (Go.bits op k a b)) := fun w => by
 rcases hop with rfl | rfl | rfl <;> simp [execOp, hx, hy, eqGuard, binOp, intBits_and, intBits_or, intBits_xor]
theorem PO.lss {x y : Operand} {k : IntKind} {a b : Int} {t u : TypeId} (hx : rd n e x = .int k a) (hy : rd n e y = .int k b) : PO P n e ⟨d, .binOp .lss t x y u, ty, pos, aft, gd⟩ (.bool (decide (a < b))) := fun w => by
 simp [execOp, hx, hy, eqGuard, binOp, Op.intCmp]
theorem PO.leq {x y : Operand} {k : IntKind} {a b : Int} {t u : TypeId} (hx : rd n e x = .int k a) (hy : rd n e y = .int k b) : PO P n e ⟨d, .binOp .leq t x y u, ty, pos, aft, gd⟩ (.bool (decide (a ≤ b))) := fun w => by
 simp [execOp, hx, hy, eqGuard, binOp, Op.intCmp]
theorem PO.gtr {x y : Operand} {k : IntKind} {a b : Int} {t u : TypeId} (hx : rd n e x = .int k a) (hy : rd n e y = .int k b) : PO P n e ⟨d, .binOp .gtr t x y u, ty, pos, aft, gd⟩ (.bool (decide (b < a))) := fun w => by
 simp [execOp, hx, hy, eqGuard, binOp, Op.intCmp]
theorem PO.geq {x y : Operand} {k : IntKind} {a b : Int} {t u : TypeId} (hx : rd n e x = .int k a) (hy : rd n e y = .int k b) : PO P n e ⟨d, .binOp .geq t x y u, ty, pos, aft, gd⟩ (.bool (decide (b ≤ a))) := fun w => by
 simp [execOp, hx, hy, eqGuard, binOp, Op.intCmp]
theorem PO.eqlI {x y : Operand} {k : IntKind} {a b : Int} {t u : TypeId} (hx : rd n e x = .int k a) (hy : rd n e y = .int k b) : PO P n e ⟨d, .binOp .eql t x y u, ty, pos, aft, gd⟩ (.bool (decide (a = b))) := fun w => by
 simp [execOp, hx, hy, eqGuard, binOp, Op.intCmp, beq_dec]
theorem PO.neqI {x y : Operand} {k : IntKind} {a b : Int} {t u : TypeId} (hx : rd n e x = .int k a) (hy : rd n e y = .int k b) : PO P n e ⟨d, .binOp .neq t x y u, ty, pos, aft, gd⟩ (.bool (!decide (a = b))) := fun w => by
 simp [execOp, hx, hy, eqGuard, binOp, Op.intCmp, bne, beq_dec]
theorem PO.neg {x : Operand} {k : IntKind} {a c : Int} {t : TypeId} (hx : rd n e x = .int k a) (hc : k.wrap (0 - a) = c) : PO P n e ⟨d, .unOp .neg t x, ty, pos, aft, gd⟩ (.int k c) := fun w => by
 simp only [execOp, hx, unary_neg, Op.intArith, hc]; rfl
theorem PO.not {x : Operand} {b : Bool} {t : TypeId} (hx : rd n e x = .bool b) : PO P n e ⟨d, .unOp .not t x, ty, pos, aft, gd⟩ (.bool (!b)) := fun w => by simp [execOp, hx, Op.unary]

theorem str_toList (l : Str) : (ByteArray.mk l.toArray).toList = l := ByteArray.toList_mk l
theorem mk_append (a b : Str) : (ByteArray.mk a.toArray) ++ (ByteArray.mk b.toArray) = ByteArray.mk (a ++ b).toArray := by
 apply ByteArray.ext
 simp
theorem PO.addS {x y : Operand} {a b : Str} {t u : TypeId} (hx : rd n e x = str a) (hy : rd n e y = str b) (hl : a.length + b.length ≤ 9223372036854775807) : PO P n e ⟨d, .binOp .add t x y u, ty, pos, aft, gd⟩ (str (a ++ b)) := fun w => by
 simp only [str] at hx hy
 have hl' : ((ByteArray.mk a.toArray).size : Int) + ((ByteArray.mk b.toArray).size : Int) ≤ 9223372036854775807 := by
   have h1 : (ByteArray.mk a.toArray).size = a.length := by simp [ByteArray.size]
   have h2 : (ByteArray.mk b.toArray).size = b.length := by simp [ByteArray.size]
   rw [h1, h2]; omega
 simp [execOp, hx, hy, eqGuard, binOp, Op.stringOp, str, mk_append, hl']
theorem PO.eqlS {x y : Operand} {a b : Str} {t u : TypeId} (hx : rd n e x = str a) (hy : rd n e y = str b) : PO P n e ⟨d, .binOp .eql t x y u, ty, pos, aft, gd⟩ (.bool (decide (a = b))) := fun w => by
 simp only [str] at hx hy
 simp [execOp, hx, hy, eqGuard, binOp_string_eql, str_toList, beq_dec]
theorem PO.neqS {x y : Operand} {a b : Str} {t u : TypeId} (hx : rd n e x = str a) (hy : rd n e y = str b) : PO P n e ⟨d, .binOp .neq t x y u, ty, pos, aft, gd⟩ (.bool (!decide (a = b))) := fun w => by
 simp only [str] at hx hy
 simp [execOp, hx, hy, eqGuard, binOp_string_neq, str_toList, beq_dec]
theorem PO.lssS {x y : Operand} {a b : Str} {t u : TypeId} (hx : rd n e x = str a) (hy : rd n e y = str b) : PO P n e ⟨d, .binOp .lss t x y u, ty, pos, aft, gd⟩ (.bool (Op.bytesLess a b)) := fun w => by
 simp only [str] at hx hy
 simp [execOp, hx, hy, eqGuard, binOp_string_lss, str_toList]
theorem PO.gtrS {x y : Operand} {a b : Str} {t u : TypeId} (hx : rd n e x = str a) (hy : rd n e y = str b) : PO P n e ⟨d, .binOp .gtr t x y u, ty, pos, aft, gd⟩ (.bool (!Op.bytesLess a b && !decide (a = b))) := fun w => by
 simp only [str] at hx hy
 simp [execOp, hx, hy, eqGuard, binOp, Op.stringOp, str_toList, beq_dec]
theorem PO.geqS {x y : Operand} {a b : Str} {t u : TypeId} (hx : rd n e x = str a) (hy : rd n e y = str b) : PO P n e ⟨d, .binOp .geq t x y u, ty, pos, aft, gd⟩ (.bool (!Op.bytesLess a b)) := fun w => by
 simp only [str] at hx hy
 simp [execOp, hx, hy, eqGuard, binOp, Op.stringOp, str_toList]
theorem size_mk (l : Str) : (ByteArray.mk l.toArray).size = l.length := by simp [ByteArray.size]
theorem PO.lenS {x : Operand} {a : Str} {t : TypeId} (ht : P.underlying t = some .string) (hx : rd n e x = str a) :
   PO P n e ⟨d, .call ⟨.builtin .len, #[x], #[t]⟩, ty, pos, aft, gd⟩ (.int .i64 a.length) := fun w => by
 simp only [str] at hx
 simp [execOp, resolve, invoke, builtin, hx, run_len_string _ _ _ _ ht, size_mk, goInt]
theorem PO.indexS {x y : Operand} {a : Str} {k : IntKind} {i : Nat} {c : UInt8} {t : TypeId} (ht : P.underlying t = some .string) (hx : rd n e x = str a) (hy : rd n e y = .int k i) (hi : a[i]? = some c) :
   PO P n e ⟨d, .index t x y, ty, pos, aft, gd⟩ (.int .u8 c.toNat) := fun w => by
 simp only [str] at hx
 obtain ⟨hlt, hc⟩ := List.getElem?_eq_some_iff.1 hi
 have hlt' : i < (ByteArray.mk a.toArray).size := by rw [size_mk]; exact hlt
 have hb : (ByteArray.mk a.toArray)[i]? = some c := by
   rw [ByteArray.getElem?_lt' _ _ hlt']
   exact congrArg some hc
 simp [execOp, Instr.index, hx, hy, asIntOf, run_underlying ht, hb]
theorem PO.sliceS {x lo hi : Operand} {a : Str} {k k' : IntKind} {i j : Nat} {t : TypeId} (ht : P.underlying t = some .string) (hx : rd n e x = str a) (hlo : rd n e lo = .int k i) (hhi : rd n e hi = .int k' j) (h1 : i ≤ j) (h2 : j ≤ a.length) :
   PO P n e ⟨d, .slice t x (some lo) (some hi) none, ty, pos, aft, gd⟩ (str ((a.drop i).take (j - i))) := fun w => by
 simp only [str] at hx
 have h2' : (j : Int) ≤ ((ByteArray.mk a.toArray).size : Int) := by rw [size_mk]; omega
 have h2'' : j ≤ (ByteArray.mk a.toArray).size := by rw [size_mk]; exact h2
 simp [execOp, run_sliceAt_string _ _ _ _ _ _ ht, Instr.slice, hx, hlo, hhi, run_underlying ht, Instr.sliceBounds, Instr.sliceBound, asIntOf, h2'', h1, str, ByteArray.extract_mk]
theorem PO.sliceSl {x lo : Operand} {a : Str} {k : IntKind} {i : Nat} {t : TypeId} (ht : P.underlying t = some .string) (hx : rd n e x = str a) (hlo : rd n e lo = .int k i) (h1 : i ≤ a.length) :
   PO P n e ⟨d, .slice t x (some lo) none none, ty, pos, aft, gd⟩ (str (a.drop i)) := fun w => by
 simp only [str] at hx
 have h1' : i ≤ (ByteArray.mk a.toArray).size := by rw [size_mk]; exact h1
 have : (a.drop i).take (a.length - i) = a.drop i := List.take_of_length_le (by simp)
 simp [execOp, run_sliceAt_string _ _ _ _ _ _ ht, Instr.slice, hx, hlo, run_underlying ht, Instr.sliceBounds, Instr.sliceBound, asIntOf, h1', str, ByteArray.extract_mk, size_mk, this]
 intro h; omega
theorem PO.sliceSh {x hi : Operand} {a : Str} {k : IntKind} {j : Nat} {t : TypeId} (ht : P.underlying t = some .string) (hx : rd n e x = str a) (hhi : rd n e hi = .int k j) (h2 : j ≤ a.length) :
   PO P n e ⟨d, .slice t x none (some hi) none, ty, pos, aft, gd⟩ (str (a.take j)) := fun w => by
 simp only [str] at hx
 have h2' : j ≤ (ByteArray.mk a.toArray).size := by rw [size_mk]; exact h2
 simp [execOp, run_sliceAt_string _ _ _ _ _ _ ht, Instr.slice, hx, hhi, run_underlying ht, Instr.sliceBounds, Instr.sliceBound, asIntOf, h2', str, ByteArray.extract_mk]
theorem PO.convI {x : Operand} {k k' : IntKind} {a c : Int} {s t : TypeId} {ds : TypeDesc} (hs : P.underlying s = some ds) (ht : P.underlying t = some (.int k')) (hx : rd n e x = .int k a) (hc : k'.wrap a = c) :
   PO P n e ⟨d, .convert s t x, ty, pos, aft, gd⟩ (.int k' c) := fun w => by
 simp [execOp, convert, run_underlying hs, run_underlying ht, hx, Conv.intToInt, hc]

theorem PO.lenV {x : Operand} {a : Option Addr} {m c : Nat} {t el : TypeId} (ht : P.underlying t = some (.slice el)) (hx : rd n e x = .slice a m c) :
   PO P n e ⟨d, .call ⟨.builtin .len, #[x], #[t]⟩, ty, pos, aft, gd⟩ (.int .i64 m) := fun w => by
 simp [execOp, resolve, invoke, builtin, hx, Builtin.len_, run_underlying ht, goInt]
theorem PO.capV {x : Operand} {a : Option Addr} {m c : Nat} {t el : TypeId} (ht : P.underlying t = some (.slice el)) (hx : rd n e x = .slice a m c) :
   PO P n e ⟨d, .call ⟨.builtin .cap, #[x], #[t]⟩, ty, pos, aft, gd⟩ (.int .i64 c) := fun w => by
 simp [execOp, resolve, invoke, builtin, hx, Builtin.cap_, run_underlying ht, goInt]
theorem PO.indexAddrV {x y : Operand} {a : Option Addr} {m c : Nat} {k : IntKind} {i s : Nat} {t el : TypeId} (ht : P.underlying t = some (.slice el)) (hs : ∀ w, (sizeOf el).run P w = .ok s w) (ha : a.isSome = true) (hsp : a.bind (·.spot) = none)
   (hx : rd n e x = .slice a m c) (hy : rd n e y = .int k i) (hi : i < m) : PO P n e ⟨d, .indexAddr t x y, ty, pos, aft, gd⟩ (elp a (i * s)) := fun w => by
 cases a with
 | none => simp at ha
 | some a =>
   obtain ⟨b, o, sp⟩ := a
   simp only [Option.bind_some] at hsp
   subst hsp
   have had : ∀ q, (⟨b, o, none⟩ : Addr).add q = ⟨b, o + q, none⟩ := fun q => by unfold Addr.add; split <;> simp_all
   simp [execOp, Instr.indexAt, hx, hy, asIntOf, run_underlying ht, hs, elp, had, hi]

end
end Go.Proofs.YthlfmbbaomdciaaGreatDoor
