/-
  Lists of bytes, cells and counters: what the program and its reference compute. No program in sight.
-/
import Derived.Lib.ItoaNum
import Derived.Lib.AtoiAll
import Derived.Laws.Cover1
set_option linter.unusedSimpArgs false
set_option linter.unusedVariables false
set_option linter.unnecessarySimpa false
namespace Go.Proofs.YtkmpmjficoohkaaGreat
open Go

abbrev Str := List UInt8
abbrev Cell := Str × Str
abbrev c0 : Cell := ([], [])
def lessB (a b : Str) : Bool := Op.bytesLess a b
def gtrB (a b : Str) : Bool := !Op.bytesLess a b && !decide (a = b)
def geqB (a b : Str) : Bool := !Op.bytesLess a b

def getKey (s : List Cell) (key : Str) : Str := match s with
  | [] => []
  | c :: s => if c.1 = key then c.2 else getKey s key

def keyByte (c : UInt8) : Bool := decide (33 ≤ c.toNat) && decide (c.toNat ≤ 126) && !decide (c.toNat = 42)
def keyOk (key : Str) : Bool := key.all keyByte && decide (1 ≤ key.length) && decide (key.length ≤ 40)

/-- Where the first element stands of which p holds; the length if there is none. -/
def findAt {α : Type} (p : α → Bool) : List α → Nat
  | [] => 0
  | x :: l => if p x then 0 else findAt p l + 1

def insertAt {α : Type} (i : Nat) (x : α) (l : List α) : List α := l.take i ++ x :: l.drop i

def addSpan (l : List Str) (x : Str) : List Str :=
  let i := findAt (fun y => geqB y x) l
  if i < l.length then (if l.getD i [] = x then l else insertAt i x l) else l ++ [x]

def putKey (s : List Cell) (key val : Str) : List Cell :=
  if !keyOk key || decide (60 < val.length) then s
  else
    let f := s.filter (fun c => !decide (c.1 = key))
    if val = [] then f else insertAt (findAt (fun c => gtrB c.1 key) f) (key, val) f

def prefixB (s p : Str) : Bool := decide (p.length ≤ s.length) && decide (s.take p.length = p)
def keysUnder (s : List Cell) (p : Str) : List Str := (s.filter (fun c => prefixB c.1 p)).map (·.1)

/-- A machine, as data: the store, the keys read, the keys written. -/
structure MS where
  s : List Cell
  r : List Str
  w : List Str

def MS.look (m : MS) (key : Str) : MS × Str := (⟨m.s, addSpan m.r key, m.w⟩, getKey m.s key)
def MS.lay (m : MS) (key val : Str) : MS := ⟨putKey m.s key val, m.r, addSpan m.w key⟩
def MS.under (m : MS) (p : Str) : MS × List Str := (⟨m.s, addSpan m.r (p ++ [42]), m.w⟩, keysUnder m.s p)
def MS.wipe (m : MS) (p : Str) : MS := (m.under p).2.foldl (fun m k => m.lay k []) (m.under p).1

def dec (n : Int) : Str := Lib.itoa n
/-- The number in 0 .. 10^9 whose numeral this is. -/
def readDec (t : Str) : Int × Bool :=
  match Lib.atoiAll t with
  | .ok n => if 0 ≤ n ∧ n ≤ 1000000000 ∧ dec n = t then (n, true) else (0, false)
  | _ => (0, false)
def numOf (t : Str) : Int := if 999 < (readDec t).1 then 0 else (readDec t).1
def MS.num (m : MS) (key : Str) : MS × Int := ((m.look key).1, numOf (m.look key).2)
def MS.setNum (m : MS) (key : Str) (n : Int) : MS := m.lay key (if 1 ≤ n ∧ n ≤ 999 then dec n else [])
def MS.bump (m : MS) (key : Str) : MS × Int :=
  if 999 < (m.num key).2 + 1 then ((m.num key).1, 0) else ((m.num key).1.setNum key ((m.num key).2 + 1), (m.num key).2 + 1)
def keyNum (h : Str) (n : Int) (t : Str) : Str := h ++ dec n ++ t

theorem filter_length_le' {α : Type} (p : α → Bool) (l : List α) : (l.filter p).length ≤ l.length := List.length_filter_le _ _
theorem findAt_le {α : Type} (p : α → Bool) : ∀ l : List α, findAt p l ≤ l.length
  | [] => Nat.le_refl _
  | x :: l => by
    unfold findAt
    split
    · exact Nat.zero_le _
    · exact Nat.succ_le_succ (findAt_le p l)
theorem findAt_eq {α : Type} (p : α → Bool) (d : α) : ∀ (l : List α) (i : Nat), i < l.length → (∀ j, j < i → p (l.getD j d) = false) → p (l.getD i d) = true → findAt p l = i
  | [], i, h, _, _ => by simp at h
  | x :: l, 0, _, _, h => by simp at h; simp [findAt, h]
  | x :: l, i + 1, h, hj, hp => by
    have h0 := hj 0 (by omega)
    simp at h0
    simp only [findAt, h0]
    have := findAt_eq p d l i (by simpa using h) (fun j hji => by have := hj (j + 1) (by omega); simpa using this) (by simpa using hp)
    simp [this]
theorem findAt_none {α : Type} (p : α → Bool) (d : α) : ∀ (l : List α), (∀ j, j < l.length → p (l.getD j d) = false) → findAt p l = l.length
  | [], _ => rfl
  | x :: l, h => by
    have h0 := h 0 (by simp)
    simp at h0
    simp only [findAt, h0]
    have := findAt_none p d l (fun j hj => by have := h (j + 1) (by simpa using hj); simpa using this)
    simp [this]
theorem insertAt_length {α : Type} (i : Nat) (x : α) (l : List α) (h : i ≤ l.length) : (insertAt i x l).length = l.length + 1 := by
  unfold insertAt
  simp
  omega

end Go.Proofs.YtkmpmjficoohkaaGreat
