/-
Texts of the walk, joined: what each one proves stands at its theorems.
-/
import Derived.Test.YthlfmbbaomdciaaGreatDoorB0Au0
import Derived.Lib.ItoaLen
import Derived.Lib.SmallJoins
import Derived.Shelf.LaysM
import Derived.Shelf.LaysC
import Derived.Shelf.Strconv.Itoa3
import Derived.Shelf.Strconv.AtoiAll
import Derived.Shelf.Strconv.ErrVarAll
import Derived.Shelf.Small.Wraps
import Derived.Shelf.Strings.Prefix
import Derived.Shelf.Hex.More
import Derived.Shelf.Hex.DecodeOwns
import Derived.Lib.Strings
set_option linter.unusedSimpArgs false
set_option linter.unusedVariables false
set_option linter.unnecessarySimpa false
namespace Go.Proofs.YthlfmbbaomdciaaGreatDoor
open Go Go.RowKit
/-- Bounds of a machine: how many cells, how many spans on each list, how long a cell's texts. -/
def MS.ok (S T : Nat) (m : MS) : Prop := m.s.length ≤ S ∧ m.r.length ≤ T ∧ m.w.length ≤ T ∧ ∀ c ∈ m.s, c.1.length ≤ 1048576 ∧ c.2.length ≤ 1048576
theorem MS.ok.mono {S T S' T' : Nat} {m : MS} (h : m.ok S T) (hS : S ≤ S') (hT : T ≤ T') : m.ok S' T' := ⟨by have := h.1; omega, by have := h.2.1; omega, by have := h.2.2.1; omega, h.2.2.2⟩
theorem getKey_mem {s : List Cell} {key : Str} : getKey s key = [] ∨ ∃ c ∈ s, c.1 = key ∧ c.2 = getKey s key := by
 induction s with
 | nil => exact .inl rfl
 | cons c s ih =>
   unfold getKey
   by_cases hc : c.1 = key
   · exact .inr ⟨c, by simp, hc, by simp [hc]⟩
   · rw [if_neg hc]
     rcases ih with h | ⟨c', h, h2⟩
     · exact .inl h
     · exact .inr ⟨c', by simp [h], h2⟩
theorem MS.ok.getKey {S T : Nat} {m : MS} (h : m.ok S T) (key : Str) : (getKey m.s key).length ≤ 1048576 := by
 rcases getKey_mem (s := m.s) (key := key) with h0 | ⟨c, hc, _, h2⟩
 · rw [h0]; simp
 · rw [← h2]; exact (h.2.2.2 c hc).2
theorem insertAt_mem {α : Type} {i : Nat} {x y : α} {l : List α} (h : y ∈ insertAt i x l) : y = x ∨ y ∈ l := by
 unfold insertAt at h
 simp only [List.mem_append, List.mem_cons] at h
 rcases h with h | h | h
 · exact .inr (List.mem_of_mem_take h)
 · exact .inl h
 · exact .inr (List.mem_of_mem_drop h)
theorem putKey_mem {s : List Cell} {key val : Str} {c : Cell} (h : c ∈ putKey s key val) : c ∈ s ∨ (c = (key, val) ∧ key.length ≤ 40 ∧ val.length ≤ 60) := by
 unfold putKey at h
 split at h
 · exact .inl h
 · rename_i hk
   simp only [Bool.or_eq_true, Bool.not_eq_true', decide_eq_true_eq, not_or, Bool.not_eq_false] at hk
   simp only at h
   split at h
   · exact .inl (List.mem_filter.1 h).1
   · rcases insertAt_mem h with h | h
     · refine .inr ⟨h, ?_, by omega⟩
       have := hk.1
       simp only [keyOk, Bool.and_eq_true, decide_eq_true_eq] at this
       exact this.2
     · exact .inl (List.mem_filter.1 h).1
theorem putKey_nil_len (s : List Cell) (key : Str) : (putKey s key []).length ≤ s.length := by
 unfold putKey
 simp only
 split
 · exact Nat.le_refl _
 · rw [if_pos trivial]; exact List.length_filter_le _ _
theorem MS.ok.look {S T : Nat} {m : MS} (h : m.ok S T) (key : Str) : (m.look key).1.ok S (T + 1) := by
 have := look_len m key
 exact ⟨by have := h.1; omega, by have := h.2.1; omega, by have := h.2.2.1; omega, h.2.2.2⟩
theorem MS.ok.lay {S T : Nat} {m : MS} (h : m.ok S T) (key val : Str) : (m.lay key val).ok (S + 1) (T + 1) := by
 have := lay_len m key val
 refine ⟨by have := h.1; omega, by have := h.2.1; omega, by have := h.2.2.1; omega, fun c hc => ?_⟩
 rcases putKey_mem (s := m.s) hc with hc | ⟨rfl, h1, h2⟩
 · exact h.2.2.2 c hc
 · exact ⟨by simp only; omega, by simp only; omega⟩
theorem MS.ok.layNil {S T : Nat} {m : MS} (h : m.ok S T) (key : Str) : (m.lay key []).ok S (T + 1) := by
 have h1 := lay_len m key []
 have h2 := putKey_nil_len m.s key
 refine ⟨Nat.le_trans h2 h.1, by have := h.2.1; omega, by have := h.2.2.1; omega, fun c hc => ?_⟩
 rcases putKey_mem (s := m.s) hc with hc | ⟨rfl, h1, h2⟩
 · exact h.2.2.2 c hc
 · exact ⟨by simp only; omega, by simp only; omega⟩
theorem num_lo (m : MS) (key : Str) : 0 ≤ (m.num key).2 ∧ (m.num key).2 ≤ 999 := numOf_lo _
theorem bump_lo (m : MS) (key : Str) : 0 ≤ (m.bump key).2 ∧ (m.bump key).2 ≤ 999 := by
 have h := num_lo m key
 unfold MS.bump
 split
 · exact ⟨by simp, by simp⟩
 · exact ⟨by simp only; omega, by simp only; omega⟩
theorem MS.ok.bump {S T : Nat} {m : MS} (h : m.ok S T) (key : Str) : (m.bump key).1.ok (S + 1) (T + 1) := by
 have h1 := h.look key
 unfold MS.bump
 split
 · exact h1.mono (by omega) (by omega)
 · have h2 := h.lay key (if 1 ≤ (m.num key).2 + 1 ∧ (m.num key).2 + 1 ≤ 999 then dec ((m.num key).2 + 1) else [])
   exact ⟨h2.1, h1.2.1, h2.2.2.1, h2.2.2.2⟩
theorem dec_len21 {n : Int} (h0 : -9223372036854775808 ≤ n) (h1 : n ≤ 9223372036854775807) : (dec n).length ≤ 21 := Lib.itoa_length_le n h0 h1
theorem keyNum_len {h t : Str} {n : Int} {a b : Nat} (h0 : -9223372036854775808 ≤ n) (h1 : n ≤ 9223372036854775807) (ha : h.length ≤ a) (hb : t.length ≤ b) : (keyNum h n t).length ≤ a + 21 + b := by
 have := dec_len21 h0 h1
 unfold keyNum
 simp only [List.length_append]
 omega
/-- A list of texts: how many, how long. -/
def okL (n k : Nat) (l : List Str) : Prop := l.length ≤ n ∧ ∀ j, j < l.length → k ≤ (l.getD j []).length ∧ (l.getD j []).length ≤ 1048576
theorem getD_mem {α : Type} {l : List α} {j : Nat} {d : α} (h : j < l.length) : l.getD j d ∈ l := by
 rw [List.getD_eq_getElem?_getD, List.getElem?_eq_getElem h]
 exact List.getElem_mem h
theorem keysUnder_ok {S T : Nat} {m : MS} (h : m.ok S T) (p : Str) : okL S p.length (keysUnder m.s p) := by
 refine ⟨?_, fun j hj => ?_⟩
 · unfold keysUnder
   rw [List.length_map]
   exact Nat.le_trans (List.length_filter_le _ _) h.1
 · have hm := getD_mem (d := ([] : Str)) hj
   unfold keysUnder at hm
   obtain ⟨c, hc, he⟩ := List.mem_map.1 hm
   obtain ⟨hc1, hc2⟩ := List.mem_filter.1 hc
   have e : (keysUnder m.s p).getD j [] = c.1 := he.symm
   rw [e]
   simp only [prefixB, Bool.and_eq_true, decide_eq_true_eq] at hc2
   exact ⟨hc2.1, (h.2.2.2 c hc1).1⟩
theorem MS.ok.under {S T : Nat} {m : MS} (h : m.ok S T) (p : Str) : (m.under p).1.ok S (T + 1) := by
 have := addSpan_len m.r (p ++ [42])
 refine ⟨h.1, ?_, by have := h.2.2.1; show m.w.length ≤ T + 1; omega, h.2.2.2⟩
 show (addSpan m.r (p ++ [42])).length ≤ T + 1
 have := h.2.1
 omega

def nameByte (c : UInt8) : Bool := (decide (97 ≤ c.toNat) && decide (c.toNat ≤ 122)) || (decide (48 ≤ c.toNat) && decide (c.toNat ≤ 57)) || decide (c.toNat = 46) || decide (c.toNat = 45)
def nameOk (s : Str) : Bool := s.all nameByte && decide (1 ≤ s.length) && decide (s.length ≤ 12)
theorem nameOk_bad {key : Str} {j : Nat} (h : j < key.length) (hb : nameByte (key.getD j 0) = false) : nameOk key = false := by
 have : key.all nameByte = false := by
   rw [List.all_eq_false]
   exact ⟨key.getD j 0, getD_mem h, by rw [hb]; simp⟩
 simp [nameOk, this]
theorem nameOk_good {key : Str} {j : Nat} (h : key.length ≤ j) (hb : ∀ i, i < j → i < key.length → nameByte (key.getD i 0) = true) : nameOk key = (decide (1 ≤ key.length) && decide (key.length ≤ 12)) := by
 have : key.all nameByte = true := by
   rw [List.all_eq_true]
   intro x hx
   obtain ⟨i, hi, rfl⟩ := List.getElem_of_mem hx
   have := hb i (by omega) hi
   rwa [List.getD_eq_getElem?_getD, List.getElem?_eq_getElem hi] at this
 simp [nameOk, this]

def hexFig (x : Nat) : UInt8 := if x < 10 then UInt8.ofNat (48 + x) else UInt8.ofNat (87 + x)
def hexB : Str → Str
 | [] => []
 | c :: s => hexFig (c.toNat / 16) :: hexFig (c.toNat % 16) :: hexB s
def hexS (s : Str) : Str := if 20000 < s.length then [] else hexB s
def hexVal (c : UInt8) : Option Nat := if 48 ≤ c.toNat ∧ c.toNat ≤ 57 then some (c.toNat - 48) else if 97 ≤ c.toNat ∧ c.toNat ≤ 102 then some (c.toNat - 87) else none
def unhexL : Str → Option Str
 | [] => some []
 | [_] => none
 | a :: b :: t => match hexVal a, hexVal b, unhexL t with
   | some h, some l, some r => some (UInt8.ofNat (16 * h + l) :: r)
   | _, _, _ => none
def unhex (t : Str) : Str × Bool := if 40000 < t.length then ([], false) else match unhexL t with
 | some r => (r, true)
 | none => ([], false)
theorem hexB_len : ∀ s : Str, (hexB s).length = 2 * s.length
 | [] => rfl
 | c :: s => by simp only [hexB, List.length_cons, hexB_len s]; omega
theorem unhexL_len : ∀ (t r : Str), unhexL t = some r → 2 * r.length = t.length
 | [], r, h => by simp only [unhexL, Option.some.injEq] at h; subst h; rfl
 | [_], r, h => by simp [unhexL] at h
 | a :: b :: t, r, h => by
   unfold unhexL at h
   split at h
   · rename_i hh ll rr h1 h2 h3
     simp only [Option.some.injEq] at h
     subst h
     have := unhexL_len t rr h3
     simp only [List.length_cons]
     omega
   · cases h
theorem unhex_len (t : Str) : (unhex t).1.length ≤ 20000 := by
 unfold unhex
 split
 · simp
 · split
   · rename_i r h
     have := unhexL_len t r h
     simp only
     omega
   · simp
def messageOf (v : Str) : Str := match v with
 | [] => []
 | c :: t => if c = 45 then (unhex t).1 else []
theorem messageOf_len (v : Str) : (messageOf v).length ≤ 20000 := by
 unfold messageOf
 split
 · simp
 · split
   · exact unhex_len _
   · simp

/-- The keys behind their first signs. -/
def dropAcc (k : Nat) : List Str → List Str → List Str
 | [], out => out
 | x :: l, out => dropAcc k l (out ++ [x.drop k])
namespace MS
def message (m : MS) (key : Str) : MS × Str := match m.look key with | (m, v) => (m, messageOf v)
def fileOf (m : MS) (name : Str) : MS × Int := if nameOk name = true then m.num (([110, 47] : Str) ++ name) else (m, 0)
def makeName (m : MS) (name : Str) : MS × Int × Int :=
 if nameOk name = true then
   match m.fileOf name with
   | (m, id) => if id = 0 then
       match m.num ([99, 47, 102, 105, 108, 101] : Str) with
       | (m, n) => if 20 ≤ n then (m, 0, 3) else
         match m.bump ([99, 47, 102, 105, 108, 101] : Str) with
         | (m, id) => ((m.setNum (([110, 47] : Str) ++ name) id).setNum (keyNum ([105, 47] : Str) id ([47, 108] : Str)) 1, id, 0)
     else (m, 0, 1)
 else (m, 0, 4)
def linkName (m : MS) (from_ to_ : Str) : MS × Int :=
 if nameOk from_ = true then
   if nameOk to_ = true then
     match m.fileOf from_ with
     | (m, id) => if id = 0 then (m, 2) else
       match m.fileOf to_ with
       | (m, o) => if o = 0 then
           match m.num (keyNum ([105, 47] : Str) id ([47, 108] : Str)) with
           | (m, n) => if 4 ≤ n then (m, 3) else
             ((m.setNum (([110, 47] : Str) ++ to_) id).setNum (keyNum ([105, 47] : Str) id ([47, 108] : Str)) (n + 1), 0)
         else (m, 1)
   else (m, 4)
 else (m, 4)
/-- What wipe does with the keys that it finds. -/
def wipeL : List Str → MS → MS
 | [], m => m
 | k :: l, m => wipeL l (m.lay k [])
def wipe' (m : MS) (p : Str) : MS := match m.under p with | (m, l) => wipeL l m
def unlinkName (m : MS) (name : Str) : MS × Int :=
 if nameOk name = true then
   match m.fileOf name with
   | (m, id) => if id = 0 then (m, 2) else
     match (m.lay (([110, 47] : Str) ++ name) []).num (keyNum ([105, 47] : Str) id ([47, 108] : Str)) with
     | (m, n) => if 1 < n then (m.setNum (keyNum ([105, 47] : Str) id ([47, 108] : Str)) (n - 1), 0) else (m.wipe' (keyNum ([105, 47] : Str) id ([47] : Str)), 0)
 else (m, 4)
def renameName (m : MS) (from_ to_ : Str) : MS × Int :=
 if nameOk from_ = true then
   if nameOk to_ = true then
     match m.fileOf from_ with
     | (m, id) => if id = 0 then (m, 2) else
       match m.fileOf to_ with
       | (m, o) => if o = id then (m, 0) else
         if o = 0 then ((m.setNum (([110, 47] : Str) ++ to_) id).lay (([110, 47] : Str) ++ from_) [], 0) else
           match m.unlinkName to_ with
           | (m, _) => ((m.setNum (([110, 47] : Str) ++ to_) id).lay (([110, 47] : Str) ++ from_) [], 0)
   else (m, 4)
 else (m, 4)
def names (m : MS) : MS × List Str := match m.under ([110, 47] : Str) with | (m, l) => (m, dropAcc 2 l [])

def sizeOf (m : MS) (id : Int) : MS × Int := m.num (keyNum ([105, 47] : Str) id ([47, 115] : Str))
def block (m : MS) (id place : Int) : MS × Str := match m.look (keyNum (keyNum ([105, 47] : Str) id ([47, 98, 47] : Str)) place []) with | (m, v) => (m, (unhex v).1)

def makePipe (m : MS) : MS × Int × Int :=
 match m.num ([99, 47, 112, 105, 112, 101] : Str) with
 | (m, n) => if 8 ≤ n then (m, 0, 3) else
   match m.bump ([99, 47, 112, 105, 112, 101] : Str) with
   | (m, id) => (m.setNum (keyNum ([112, 47] : Str) id ([47, 111] : Str)) 1, id, 0)
def isPipe (m : MS) (id : Int) : MS × Bool := match m.num (keyNum ([112, 47] : Str) id ([47, 111] : Str)) with | (m, n) => (m, decide (n = 1))
def putPipe (m : MS) (id : Int) (text : Str) : MS × Int :=
 match m.isPipe id with
 | (m, b) => if b = true then
     if 20 < (text.length : Int) then (m, 4) else
     match m.num (keyNum ([112, 47] : Str) id ([47, 116] : Str)) with
     | (m, t) => match m.num (keyNum ([112, 47] : Str) id ([47, 104] : Str)) with
       | (m, h) => if 4 ≤ t - h then (m, 5) else if 999 ≤ t then (m, 3) else
         ((m.setNum (keyNum ([112, 47] : Str) id ([47, 116] : Str)) (t + 1)).lay (keyNum (keyNum ([112, 47] : Str) id ([47, 113, 47] : Str)) (t + 1) []) (([45] : Str) ++ hexS text), 0)
   else (m, 2)
def takePipe (m : MS) (id : Int) : MS × Str × Int :=
 match m.isPipe id with
 | (m, b) => if b = true then
     match m.num (keyNum ([112, 47] : Str) id ([47, 104] : Str)) with
     | (m, h) => match m.num (keyNum ([112, 47] : Str) id ([47, 116] : Str)) with
       | (m, t) => if t = h then (m, [], 5) else
         match m.message (keyNum (keyNum ([112, 47] : Str) id ([47, 113, 47] : Str)) (h + 1) []) with
         | (m, x) => ((m.lay (keyNum (keyNum ([112, 47] : Str) id ([47, 113, 47] : Str)) (h + 1) []) []).setNum (keyNum ([112, 47] : Str) id ([47, 104] : Str)) (h + 1), x, 0)
   else (m, [], 2)

def state (m : MS) (id : Int) : MS × Int := m.num (keyNum ([114, 47] : Str) id ([47, 115] : Str))
def spawn (m : MS) (parent : Int) : MS × Int × Int :=
 match m.num ([99, 47, 112, 114, 111, 99] : Str) with
 | (m, n) => if 12 ≤ n then (m, 0, 3) else
   match m.bump ([99, 47, 112, 114, 111, 99] : Str) with
   | (m, id) => ((m.setNum (keyNum ([114, 47] : Str) id ([47, 115] : Str)) 1).setNum (keyNum ([114, 47] : Str) id ([47, 112] : Str)) parent, id, 0)
def endProc (m : MS) (id n : Int) : MS × Int :=
 match m.state id with
 | (m, s) => if s = 1 then
     if 0 ≤ n ∧ n ≤ 100 then ((m.setNum (keyNum ([114, 47] : Str) id ([47, 115] : Str)) 2).setNum (keyNum ([114, 47] : Str) id ([47, 120] : Str)) (n + 1), 0) else (m, 4)
   else (m, 2)
def reap (m : MS) (parent id : Int) : MS × Int × Int :=
 match m.num (keyNum ([114, 47] : Str) id ([47, 112] : Str)) with
 | (m, own) => if own = 0 then (m, 0, 2) else if own = parent then
     match m.state id with
     | (m, s) => if s = 1 then (m, 0, 5) else if s = 2 then
         match m.num (keyNum ([114, 47] : Str) id ([47, 120] : Str)) with
         | (m, n) => (m.wipe' (keyNum ([114, 47] : Str) id ([47] : Str)), n - 1, 0)
       else (m, 0, 2)
   else (m, 0, 2)
def isKid (k : Str) : Bool := decide (5 ≤ k.length) && decide (k.drop (k.length - 2) = ([47, 112] : Str))
def kidsL (parent : Int) : List Str → MS → List Int → MS × List Int
 | [], m, out => (m, out)
 | k :: l, m, out => if isKid k = true then
     match m.num k with
     | (m, n) => if n = parent then kidsL parent l m (out ++ [numOf ((k.take (k.length - 2)).drop 2)]) else kidsL parent l m out
   else kidsL parent l m out
def kids (m : MS) (parent : Int) : MS × List Int := match m.under ([114, 47] : Str) with | (m, l) => kidsL parent l m []

def send (m : MS) (to_ n : Int) : MS × Int :=
 match m.state to_ with
 | (m, s) => if s = 1 then
     if 1 ≤ n ∧ n ≤ 31 then
       match m.num (keyNum ([103, 47] : Str) to_ ([47, 116] : Str)) with
       | (m, t) => match m.num (keyNum ([103, 47] : Str) to_ ([47, 104] : Str)) with
         | (m, h) => if 4 ≤ t - h then (m, 5) else if 999 ≤ t then (m, 3) else
           ((m.setNum (keyNum ([103, 47] : Str) to_ ([47, 116] : Str)) (t + 1)).setNum (keyNum (keyNum ([103, 47] : Str) to_ ([47, 113, 47] : Str)) (t + 1) []) n, 0)
     else (m, 4)
   else (m, 2)
def takeSignal (m : MS) (id : Int) : MS × Int × Int :=
 match m.num (keyNum ([103, 47] : Str) id ([47, 104] : Str)) with
 | (m, h) => match m.num (keyNum ([103, 47] : Str) id ([47, 116] : Str)) with
   | (m, t) => if t = h then (m, 0, 5) else
     match m.num (keyNum (keyNum ([103, 47] : Str) id ([47, 113, 47] : Str)) (h + 1) []) with
     | (m, n) => ((m.lay (keyNum (keyNum ([103, 47] : Str) id ([47, 113, 47] : Str)) (h + 1) []) []).setNum (keyNum ([103, 47] : Str) id ([47, 104] : Str)) (h + 1), n, 0)
def setTimer (m : MS) (id at_ : Int) : MS × Int := if 0 ≤ at_ ∧ at_ ≤ 999 then (m.setNum (keyNum ([116, 47] : Str) id []) at_, 0) else (m, 4)
def tickL (clock : Int) : List Str → MS → Int → MS × Int
 | [], m, k => (m, k)
 | x :: l, m, k => match m.num x with
   | (m, n) => if clock < n then tickL clock l m k else
     match (m.lay x []).send (numOf (x.drop 2)) 14 with
     | (m, _) => tickL clock l m (k + 1)
def tick (m : MS) (n : Int) : MS × Int × Int :=
 if n < 1 then (m, 0, 4) else
   match m.num ([99, 47, 99, 108, 111, 99, 107] : Str) with
   | (m, c) => if 999 - c < n then (m, 0, 3) else
     match (m.setNum ([99, 47, 99, 108, 111, 99, 107] : Str) (c + n)).under ([116, 47] : Str) with
     | (m, l) => match tickL (c + n) l m 0 with
       | (m, k) => (m, k, 0)

def storePage (m : MS) (id page : Int) (text : Str) : MS × Int :=
 if 0 ≤ page ∧ page ≤ 3 then
   if 20 < (text.length : Int) then (m, 4) else
     (m.lay (keyNum (keyNum ([109, 47] : Str) id ([47] : Str)) page []) (if text = [] then [] else ([45] : Str) ++ hexS text), 0)
 else (m, 4)
def loadPage (m : MS) (id page : Int) : MS × Str × Int :=
 if 0 ≤ page ∧ page ≤ 3 then
   match m.message (keyNum (keyNum ([109, 47] : Str) id ([47] : Str)) page []) with
   | (m, x) => (m, x, 0)
 else (m, [], 4)
def forkL (k : Nat) (to_ : Int) : List Str → MS → MS
 | [], m => m
 | x :: l, m => match m.look x with
   | (m, v) => forkL k to_ l (m.lay (keyNum ([109, 47] : Str) to_ ([47] : Str) ++ x.drop k) v)
def forkPages (m : MS) (from_ to_ : Int) : MS := match m.under (keyNum ([109, 47] : Str) from_ ([47] : Str)) with | (m, l) => forkL (keyNum ([109, 47] : Str) from_ ([47] : Str)).length to_ l m
def dropPages (m : MS) (id : Int) : MS := m.wipe' (keyNum ([109, 47] : Str) id ([47] : Str))

def putOut (m : MS) (text : Str) : MS × Int :=
 if 1 ≤ (text.length : Int) ∧ (text.length : Int) ≤ 20 then
   match m.num ([100, 47, 110] : Str) with
   | (m, n) => if 40 ≤ n then (m, 3) else ((m.setNum ([100, 47, 110] : Str) (n + 1)).lay (keyNum ([100, 47] : Str) (n + 1) []) (([45] : Str) ++ hexS text), 0)
 else (m, 4)
end MS
end Go.Proofs.YthlfmbbaomdciaaGreatDoor
namespace Go.Proofs.YthlfmbbaomdciaaGreatDoor
open Go Go.RowKit
theorem Has.below {w w' : World} (h : Has [] w) (hb : Below w.heap.size w w') : St w (idsOf []) [] w' :=
 ⟨⟨fun _ hr => by simp at hr, by simp [idsOf], fun _ hi => by simp [idsOf] at hi, Nat.le_trans h.room hb.size, h.glob.keep fun k hk => hb.block k (Nat.lt_of_lt_of_le hk h.room)⟩, hb.os, hb.tape, hb.output, hb.size, fun _ hi => by simp [idsOf] at hi, fun k hk _ => hb.block k hk⟩
theorem below_grow (w : World) (k : Nat) (os : Array Obj) : Below w.heap.size w (Sort.grow (w.drewN k) os) :=
 ⟨rfl, rfl, rfl, by simp [Sort.grow, World.drewN], fun j hj => by
   simp only [Sort.grow, World.drewN]
   rw [Array.getElem?_append_left hj]⟩
end Go.Proofs.YthlfmbbaomdciaaGreatDoor
namespace Go.Proofs
open Go.Shelf
def Tryz.laysM171_ren : Go.Shelf.Ren := ⟨fun | 171 => 253 | 243 => 331 | 246 => 359 | 283 => 369 | 284 => 370 | 285 => 371 | 286 => 372 | 129 => 381 | 317 => 380 | 318 => 382 | 319 => 383 | 320 => 384 | 337 => 392 | 338 => 393 | n => n, fun | 3 => 3 | 9 => 9 | 2 => 2 | 4 => 4 | 171 => 296 | 0 => 0 | 53 => 297 | 37 => 22 | 5 => 5 | 173 => 300 | 212 => 308 | 51 => 309 | 20 => 20 | 213 => 310 | 46 => 252 | 232 => 326 | 233 => 327 | n => n, fun | 17 => 0 | 18 => 4 | 19 => 5 | n => n⟩
theorem Tryz.laysM171 : Go.Proofs.LaysM.n171 Tryz.prog Tryz.laysM171_ren := {
 mixed := by kernel_rfl
 f129 := Tryz.func381.trans (congrArg some (by kernel_rfl))
 f171 := Tryz.func253.trans (congrArg some (by kernel_rfl))
 f243 := Tryz.func331.trans (congrArg some (by kernel_rfl))
 f246 := Tryz.func359.trans (congrArg some (by kernel_rfl))
 f283 := Tryz.func369.trans (congrArg some (by kernel_rfl))
 f284 := Tryz.func370.trans (congrArg some (by kernel_rfl))
 f285 := Tryz.func371.trans (congrArg some (by kernel_rfl))
 f286 := Tryz.func372.trans (congrArg some (by kernel_rfl))
 f317 := Tryz.func380.trans (congrArg some (by kernel_rfl))
 f318 := Tryz.func382.trans (congrArg some (by kernel_rfl))
 f319 := Tryz.func383.trans (congrArg some (by kernel_rfl))
 f320 := Tryz.func384.trans (congrArg some (by kernel_rfl))
 f337 := Tryz.func392.trans (congrArg some (by kernel_rfl))
 f338 := Tryz.func393.trans (congrArg some (by kernel_rfl))
 t0 := Tryz.underlying0
 a0 := Tryz.isAgg0
 z0 := Tryz.sizeOf0
 v0 := Tryz.zeroValue0
 t2 := Tryz.underlying2
 a2 := Tryz.isAgg2
 z2 := Tryz.sizeOf2
 v2 := Tryz.zeroValue2
 t3 := Tryz.underlying3
 a3 := Tryz.isAgg3
 z3 := Tryz.sizeOf3
 v3 := Tryz.zeroValue3
 t4 := Tryz.underlying4
 a4 := Tryz.isAgg4
 z4 := Tryz.sizeOf4
 v4 := Tryz.zeroValue4
 t5 := Tryz.underlying5
 a5 := Tryz.isAgg5
 z5 := Tryz.sizeOf5
 v5 := Tryz.zeroValue5
 t9 := Tryz.underlying9
 a9 := Tryz.isAgg9
 z9 := Tryz.sizeOf9
 v9 := Tryz.zeroValue9
 t20 := Tryz.underlying20
 a20 := Tryz.isAgg20
 z20 := Tryz.sizeOf20
 v20 := Tryz.zeroValue20
 t37 := Tryz.underlying22
 a37 := Tryz.isAgg22
 z37 := Tryz.sizeOf22
 v37 := Tryz.zeroValue22
 t46 := Tryz.underlying252
 a46 := Tryz.isAgg252
 z46 := Tryz.sizeOf252
 v46 := Tryz.zeroValue252
 t51 := Tryz.underlying309
 a51 := Tryz.isAgg309
 z51 := Tryz.sizeOf309
 v51 := Tryz.zeroValue309
 t53 := Tryz.underlying297
 a53 := Tryz.isAgg297
 z53 := Tryz.sizeOf297
 v53 := Tryz.zeroValue297
 t171 := Tryz.underlying296
 a171 := Tryz.isAgg296
 z171 := Tryz.sizeOf296
 v171 := Tryz.zeroValue296
 t173 := Tryz.underlying300
 a173 := Tryz.isAgg300
 z173 := Tryz.sizeOf300
 v173 := Tryz.zeroValue300
 t212 := Tryz.underlying308
 a212 := Tryz.isAgg308
 z212 := Tryz.sizeOf308
 v212 := Tryz.zeroValue308
 t213 := Tryz.underlying310
 a213 := Tryz.isAgg310
 z213 := Tryz.sizeOf310
 t232 := Tryz.underlying326
 a232 := Tryz.isAgg326
 z232 := Tryz.sizeOf326
 v232 := Tryz.zeroValue326
 t233 := Tryz.underlying327
 a233 := Tryz.isAgg327
 z233 := Tryz.sizeOf327
 v233 := Tryz.zeroValue327
 g17 := by kernel_rfl
 g18 := by kernel_rfl
 g19 := by kernel_rfl
 i0 := by kernel_rfl
 i2 := by kernel_rfl
 i3 := by kernel_rfl
 i4 := by kernel_rfl
 i5 := by kernel_rfl
 i9 := by kernel_rfl
 i20 := by kernel_rfl
 i37 := by kernel_rfl
 i46 := by kernel_rfl
 i51 := by kernel_rfl
 i53 := by kernel_rfl
 i171 := by kernel_rfl
 i173 := by kernel_rfl
 i212 := by kernel_rfl
 i232 := by kernel_rfl
 i233 := by kernel_rfl
 m17 := by kernel_rfl
 m18 := by kernel_rfl
 m19 := by kernel_rfl }
open Go.RowKit Go.Sort Go.Lib in
theorem Tryz.strconv_Itoa (n : Int) (h0 : -9223372036854775808 ≤ n) (h1 : n ≤ 9223372036854775807) (w : World) (htab : Lib.TabIs Tryz.prog w "internal/strconv.uint64pow10" .u64 Lib.pow10Tab) :
   Calls Tryz.prog 253 #[.int .i64 n] w fun e w' => e = .returned (.string ⟨(Lib.itoa n).toArray⟩) ∧ ∃ k os, w' = grow (w.drewN k) os := Any.strconv_Itoa Tryz.laysM171 n h0 h1 w htab
def Tryz.laysC172_ren : Go.Shelf.Ren := ⟨fun | 172 => 368 | 244 => 378 | 245 => 379 | 247 => 387 | 279 => 388 | 280 => 389 | 281 => 390 | 282 => 391 | 287 => 394 | 316 => 395 | 171 => 253 | 205 => 396 | 321 => 397 | 322 => 398 | 243 => 331 | 246 => 359 | 283 => 369 | 284 => 370 | 285 => 371 | 286 => 372 | 129 => 381 | 317 => 380 | 318 => 382 | 319 => 383 | 320 => 384 | 337 => 392 | 338 => 393 | n => n, fun | 9 => 9 | 3 => 3 | 75 => 293 | 76 => 294 | 4 => 4 | 5 => 5 | 167 => 313 | 37 => 22 | 0 => 0 | 85 => 314 | 2 => 2 | 168 => 316 | 53 => 297 | 175 => 321 | 46 => 252 | 210 => 324 | 127 => 329 | 145 => 332 | 143 => 330 | 21 => 21 | 171 => 296 | 173 => 300 | 212 => 308 | 51 => 309 | 20 => 20 | 213 => 310 | 232 => 326 | 233 => 327 | 80 => 335 | n => n, fun | 15 => 2 | 16 => 3 | 17 => 0 | 18 => 4 | 19 => 5 | n => n⟩
theorem Tryz.laysC172 : Go.Proofs.LaysC.n172 Tryz.prog Tryz.laysC172_ren := {
 mixed := by kernel_rfl
 f129 := Tryz.func381.trans (congrArg some (by kernel_rfl))
 f171 := Tryz.func253.trans (congrArg some (by kernel_rfl))
 f172 := Tryz.func368.trans (congrArg some (by kernel_rfl))
 f205 := Tryz.func396.trans (congrArg some (by kernel_rfl))
 f243 := Tryz.func331.trans (congrArg some (by kernel_rfl))
 f244 := Tryz.func378.trans (congrArg some (by kernel_rfl))
 f245 := Tryz.func379.trans (congrArg some (by kernel_rfl))
 f246 := Tryz.func359.trans (congrArg some (by kernel_rfl))
 f247 := Tryz.func387.trans (congrArg some (by kernel_rfl))
 f279 := Tryz.func388.trans (congrArg some (by kernel_rfl))
 f280 := Tryz.func389.trans (congrArg some (by kernel_rfl))
 f281 := Tryz.func390.trans (congrArg some (by kernel_rfl))
 f282 := Tryz.func391.trans (congrArg some (by kernel_rfl))
 f283 := Tryz.func369.trans (congrArg some (by kernel_rfl))
 f284 := Tryz.func370.trans (congrArg some (by kernel_rfl))
 f285 := Tryz.func371.trans (congrArg some (by kernel_rfl))
 f286 := Tryz.func372.trans (congrArg some (by kernel_rfl))
 f287 := Tryz.func394.trans (congrArg some (by kernel_rfl))
 f316 := Tryz.func395.trans (congrArg some (by kernel_rfl))
 f317 := Tryz.func380.trans (congrArg some (by kernel_rfl))
 f318 := Tryz.func382.trans (congrArg some (by kernel_rfl))
 f319 := Tryz.func383.trans (congrArg some (by kernel_rfl))
 f320 := Tryz.func384.trans (congrArg some (by kernel_rfl))
 f321 := Tryz.func397.trans (congrArg some (by kernel_rfl))
 f322 := Tryz.func398.trans (congrArg some (by kernel_rfl))
 f337 := Tryz.func392.trans (congrArg some (by kernel_rfl))
 f338 := Tryz.func393.trans (congrArg some (by kernel_rfl))
 t0 := Tryz.underlying0
 a0 := Tryz.isAgg0
 z0 := Tryz.sizeOf0
 v0 := Tryz.zeroValue0
 t2 := Tryz.underlying2
 a2 := Tryz.isAgg2
 z2 := Tryz.sizeOf2
 v2 := Tryz.zeroValue2
 t3 := Tryz.underlying3
 a3 := Tryz.isAgg3
 z3 := Tryz.sizeOf3
 v3 := Tryz.zeroValue3
 t4 := Tryz.underlying4
 a4 := Tryz.isAgg4
 z4 := Tryz.sizeOf4
 v4 := Tryz.zeroValue4
 t5 := Tryz.underlying5
 a5 := Tryz.isAgg5
 z5 := Tryz.sizeOf5
 v5 := Tryz.zeroValue5
 t9 := Tryz.underlying9
 a9 := Tryz.isAgg9
 z9 := Tryz.sizeOf9
 v9 := Tryz.zeroValue9
 t20 := Tryz.underlying20
 a20 := Tryz.isAgg20
 z20 := Tryz.sizeOf20
 v20 := Tryz.zeroValue20
 t21 := Tryz.underlying21
 a21 := Tryz.isAgg21
 z21 := Tryz.sizeOf21
 v21 := Tryz.zeroValue21
 t37 := Tryz.underlying22
 a37 := Tryz.isAgg22
 z37 := Tryz.sizeOf22
 v37 := Tryz.zeroValue22
 t46 := Tryz.underlying252
 a46 := Tryz.isAgg252
 z46 := Tryz.sizeOf252
 v46 := Tryz.zeroValue252
 t51 := Tryz.underlying309
 a51 := Tryz.isAgg309
 z51 := Tryz.sizeOf309
 v51 := Tryz.zeroValue309
 t53 := Tryz.underlying297
 a53 := Tryz.isAgg297
 z53 := Tryz.sizeOf297
 v53 := Tryz.zeroValue297
 t75 := Tryz.underlying293
 a75 := Tryz.isAgg293
 z75 := Tryz.sizeOf293
 v75 := Tryz.zeroValue293
 t76 := Tryz.underlying294
 a76 := Tryz.isAgg294
 z76 := Tryz.sizeOf294
 v76 := Tryz.zeroValue294
 t85 := Tryz.underlying314
 a85 := Tryz.isAgg314
 z85 := Tryz.sizeOf314
 v85 := Tryz.zeroValue314
 t127 := Tryz.underlying329
 a127 := Tryz.isAgg329
 z127 := Tryz.sizeOf329
 v127 := Tryz.zeroValue329
 t143 := Tryz.underlying330
 a143 := Tryz.isAgg330
 z143 := Tryz.sizeOf330
 v143 := Tryz.zeroValue330
 t145 := Tryz.underlying332
 a145 := Tryz.isAgg332
 z145 := Tryz.sizeOf332
 v145 := Tryz.zeroValue332
 t167 := Tryz.underlying313
 a167 := Tryz.isAgg313
 z167 := Tryz.sizeOf313
 v167 := Tryz.zeroValue313
 t168 := Tryz.underlying316
 a168 := Tryz.isAgg316
 z168 := Tryz.sizeOf316
 v168 := Tryz.zeroValue316
 t171 := Tryz.underlying296
 a171 := Tryz.isAgg296
 z171 := Tryz.sizeOf296
 v171 := Tryz.zeroValue296
 t173 := Tryz.underlying300
 a173 := Tryz.isAgg300
 z173 := Tryz.sizeOf300
 v173 := Tryz.zeroValue300
 t175 := Tryz.underlying321
 a175 := Tryz.isAgg321
 z175 := Tryz.sizeOf321
 v175 := Tryz.zeroValue321
 t210 := Tryz.underlying324
 a210 := Tryz.isAgg324
 z210 := Tryz.sizeOf324
 v210 := Tryz.zeroValue324
 t212 := Tryz.underlying308
 a212 := Tryz.isAgg308
 z212 := Tryz.sizeOf308
 v212 := Tryz.zeroValue308
 t213 := Tryz.underlying310
 a213 := Tryz.isAgg310
 z213 := Tryz.sizeOf310
 t232 := Tryz.underlying326
 a232 := Tryz.isAgg326
 z232 := Tryz.sizeOf326
 v232 := Tryz.zeroValue326
 t233 := Tryz.underlying327
 a233 := Tryz.isAgg327
 z233 := Tryz.sizeOf327
 v233 := Tryz.zeroValue327
 g15 := by kernel_rfl
 g16 := by kernel_rfl
 g17 := by kernel_rfl
 g18 := by kernel_rfl
 g19 := by kernel_rfl
 t80 := Tryz.underlying335
 a80 := Tryz.isAgg335
 z80 := Tryz.sizeOf335
 v80 := Tryz.zeroValue335
 i0 := by kernel_rfl
 i2 := by kernel_rfl
 i3 := by kernel_rfl
 i4 := by kernel_rfl
 i5 := by kernel_rfl
 i9 := by kernel_rfl
 i20 := by kernel_rfl
 i21 := by kernel_rfl
 i37 := by kernel_rfl
 i46 := by kernel_rfl
 i51 := by kernel_rfl
 i53 := by kernel_rfl
 i75 := by kernel_rfl
 i76 := by kernel_rfl
 i80 := by kernel_rfl
 i85 := by kernel_rfl
 i127 := by kernel_rfl
 i143 := by kernel_rfl
 i145 := by kernel_rfl
 i167 := by kernel_rfl
 i168 := by kernel_rfl
 i171 := by kernel_rfl
 i173 := by kernel_rfl
 i175 := by kernel_rfl
 i210 := by kernel_rfl
 i212 := by kernel_rfl
 i232 := by kernel_rfl
 i233 := by kernel_rfl
 m15 := by kernel_rfl
 m16 := by kernel_rfl
 m17 := by kernel_rfl
 m18 := by kernel_rfl
 m19 := by kernel_rfl
 c0 := by kernel_rfl
 c2 := by kernel_rfl
 c3 := by kernel_rfl
 c4 := by kernel_rfl
 c5 := by kernel_rfl
 c9 := by kernel_rfl
 c20 := by kernel_rfl
 c21 := by kernel_rfl
 c37 := by kernel_rfl
 c46 := by kernel_rfl
 c51 := by kernel_rfl
 c53 := by kernel_rfl
 c75 := by kernel_rfl
 c76 := by kernel_rfl
 c80 := by kernel_rfl
 c85 := by kernel_rfl
 c127 := by kernel_rfl
 c143 := by kernel_rfl
 c145 := by kernel_rfl
 c167 := by kernel_rfl
 c168 := by kernel_rfl
 c171 := by kernel_rfl
 c173 := by kernel_rfl
 c175 := by kernel_rfl
 c210 := by kernel_rfl
 c212 := by kernel_rfl
 c213 := by kernel_rfl
 c232 := by kernel_rfl
 c233 := by kernel_rfl }
open Go.RowKit in
theorem Tryz.strconv_Atoi_ok (s : ByteArray) (hmax : s.size ≤ 9223372036854775806) (v : Int) (h : Lib.atoiAll s.data.toList = .ok v) (w : World) :
   Calls Tryz.prog 368 #[.string s] w fun e w' => e = .returned (.tuple #[.int .i64 v, .nilIface]) ∧ (w' = w ∨ ∃ t, w' = Lib.bytesWorld w 5 t) := Any.strconv_Atoi_ok Tryz.laysC172 s hmax v h w
open Go.RowKit in
theorem Tryz.strconv_Atoi_range_var (s : ByteArray) (hlim : s.size ≤ 281474976710656) (h : Lib.atoiAll s.data.toList = .range) (tp : TypeId) (p : Value) (w : World) (hvar : w.var? Tryz.prog "strconv.ErrRange" = some #[.iface tp p]) :
   Calls Tryz.prog 368 #[.string s] w fun e w' => ∃ N, e = .returned (.tuple #[.int .i64 (Lib.atoiSat s.data.toList), .iface 316 (.pointer (some ⟨N, 0, none⟩))]) ∧ w.heap.size ≤ N ∧ w'.heap[N]? = some (.cells #[.string ⟨#[65, 116, 111, 105]⟩, .string s, .iface tp p] 324 (0, 0)) ∧ Below w.heap.size w w' := Any.strconv_Atoi_range_var Tryz.laysC172 s hlim h tp p w hvar
def Tryz.lays103_ren : Go.Shelf.Ren := ⟨fun | 103 => 366 | 210 => 377 | 206 => 373 | n => n, fun | 9 => 9 | 4 => 4 | 24 => 163 | 3 => 3 | n => n, fun | n => n⟩
theorem Tryz.lays103 : Go.Proofs.Lays.n103 Tryz.prog Tryz.lays103_ren := {
 mixed := by kernel_rfl
 f103 := Tryz.func366.trans (congrArg some (by kernel_rfl))
 f206 := Tryz.func373.trans (congrArg some (by kernel_rfl))
 f210 := Tryz.func377.trans (congrArg some (by kernel_rfl))
 t3 := Tryz.underlying3
 a3 := Tryz.isAgg3
 z3 := Tryz.sizeOf3
 v3 := Tryz.zeroValue3
 t4 := Tryz.underlying4
 a4 := Tryz.isAgg4
 z4 := Tryz.sizeOf4
 v4 := Tryz.zeroValue4
 t9 := Tryz.underlying9
 a9 := Tryz.isAgg9
 z9 := Tryz.sizeOf9
 v9 := Tryz.zeroValue9
 t24 := Tryz.underlying163
 a24 := Tryz.isAgg163
 z24 := Tryz.sizeOf163
 v24 := Tryz.zeroValue163 }
open Go.RowKit in
theorem Tryz.strings_CutPrefix (s p : ByteArray) (w : World) :
   Calls Tryz.prog 366 #[.string s, .string p] w fun e w' => e = .returned (.tuple #[.string ⟨(Lib.trimPrefix s.data.toList p.data.toList).toArray⟩, .bool (Lib.hasPrefix s.data.toList p.data.toList)]) ∧ w' = w := Any.strings_CutPrefix Tryz.lays103 s p w
def Tryz.lays104_ren : Go.Shelf.Ren := ⟨fun | 104 => 308 | 211 => 351 | 207 => 367 | n => n, fun | 9 => 9 | 4 => 4 | 24 => 163 | 3 => 3 | n => n, fun | n => n⟩
theorem Tryz.lays104 : Go.Proofs.Lays.n104 Tryz.prog Tryz.lays104_ren := {
 mixed := by kernel_rfl
 f104 := Tryz.func308.trans (congrArg some (by kernel_rfl))
 f207 := Tryz.func367.trans (congrArg some (by kernel_rfl))
 f211 := Tryz.func351.trans (congrArg some (by kernel_rfl))
 t3 := Tryz.underlying3
 a3 := Tryz.isAgg3
 z3 := Tryz.sizeOf3
 v3 := Tryz.zeroValue3
 t4 := Tryz.underlying4
 a4 := Tryz.isAgg4
 z4 := Tryz.sizeOf4
 v4 := Tryz.zeroValue4
 t9 := Tryz.underlying9
 a9 := Tryz.isAgg9
 z9 := Tryz.sizeOf9
 v9 := Tryz.zeroValue9
 t24 := Tryz.underlying163
 a24 := Tryz.isAgg163
 z24 := Tryz.sizeOf163
 v24 := Tryz.zeroValue163 }
open Go.RowKit in
theorem Tryz.strings_CutSuffix (s p : ByteArray) (w : World) (hs : s.size ≤ 9223372036854775807) :
   Calls Tryz.prog 308 #[.string s, .string p] w fun e w' => e = .returned (.tuple #[.string ⟨(Lib.trimSuffix s.data.toList p.data.toList).toArray⟩, .bool (Lib.hasSuffix s.data.toList p.data.toList)]) ∧ w' = w := Any.strings_CutSuffix Tryz.lays104 s p w hs
def Tryz.lays99_ren : Go.Shelf.Ren := ⟨fun | 99 => 361 | 206 => 373 | n => n, fun | 9 => 9 | 4 => 4 | 3 => 3 | n => n, fun | n => n⟩
theorem Tryz.lays99 : Go.Proofs.Lays.n99 Tryz.prog Tryz.lays99_ren := {
 mixed := by kernel_rfl
 f99 := Tryz.func361.trans (congrArg some (by kernel_rfl))
 f206 := Tryz.func373.trans (congrArg some (by kernel_rfl))
 t3 := Tryz.underlying3
 a3 := Tryz.isAgg3
 z3 := Tryz.sizeOf3
 v3 := Tryz.zeroValue3
 t4 := Tryz.underlying4
 a4 := Tryz.isAgg4
 z4 := Tryz.sizeOf4
 v4 := Tryz.zeroValue4
 t9 := Tryz.underlying9
 a9 := Tryz.isAgg9
 z9 := Tryz.sizeOf9
 v9 := Tryz.zeroValue9 }
open Go.RowKit Go.Lib in
theorem Tryz.strings_HasPrefix (s p : ByteArray) (w : World) :
   Calls Tryz.prog 361 #[.string s, .string p] w fun e w' => e = .returned (.bool (Lib.hasPrefix s.data.toList p.data.toList)) ∧ w' = w := Any.strings_HasPrefix Tryz.lays99 s p w
def Tryz.laysPah39_ren : Go.Shelf.Ren := ⟨fun | 39 => 254 | 41 => 332 | 40 => 333 | n => n, fun | 30 => 22 | 9 => 9 | 3 => 3 | 0 => 0 | 5 => 5 | 46 => 252 | n => n, fun | n => n⟩
theorem Tryz.laysPah39 : Go.Proofs.Lays.ph39 Tryz.prog Tryz.laysPah39_ren := {
 mixed := by kernel_rfl
 f39 := Tryz.func254.trans (congrArg some (by kernel_rfl))
 f40 := Tryz.func333.trans (congrArg some (by kernel_rfl))
 f41 := Tryz.func332.trans (congrArg some (by kernel_rfl))
 t0 := Tryz.underlying0
 a0 := Tryz.isAgg0
 z0 := Tryz.sizeOf0
 v0 := Tryz.zeroValue0
 t3 := Tryz.underlying3
 a3 := Tryz.isAgg3
 z3 := Tryz.sizeOf3
 v3 := Tryz.zeroValue3
 t5 := Tryz.underlying5
 a5 := Tryz.isAgg5
 z5 := Tryz.sizeOf5
 v5 := Tryz.zeroValue5
 t9 := Tryz.underlying9
 a9 := Tryz.isAgg9
 z9 := Tryz.sizeOf9
 v9 := Tryz.zeroValue9
 t30 := Tryz.underlying22
 a30 := Tryz.isAgg22
 z30 := Tryz.sizeOf22
 v30 := Tryz.zeroValue22
 t46 := Tryz.underlying252
 a46 := Tryz.isAgg252
 z46 := Tryz.sizeOf252
 v46 := Tryz.zeroValue252
 info5 := by kernel_rfl }
open Go.RowKit Go.Lib in
theorem Tryz.hex_EncodeToString_bytes (bs os cs : Nat) (l : List UInt8) (w : World) (hsrc : ∀ i (h : i < l.length), w.cell? ⟨bs, os + i, none⟩ = some (.int .u8 ((l[i]'h).toNat : Int))) (hb : bs < w.heap.size) (hbig : 2 * l.length ≤ 281474976710656) :
   Calls Tryz.prog 254 #[.slice (some ⟨bs, os, none⟩) l.length cs] w fun e w' => e = .returned (.string ⟨(Hx.encode l).toArray⟩) ∧ Below w.heap.size w w' := Any.hex_EncodeToString_bytes Tryz.laysPah39 bs os cs l w hsrc hb hbig
open Go.RowKit Go.Lib in
theorem Tryz.hex_EncodeToString_nil (w : World) :
   Calls Tryz.prog 254 #[.slice none 0 0] w fun e w' => e = .returned (.string ⟨#[]⟩) ∧ Below w.heap.size w w' := Any.hex_EncodeToString_nil Tryz.laysPah39 w
def Tryz.laysPah43_ren : Go.Shelf.Ren := ⟨fun | 43 => 376 | 42 => 385 | 44 => 386 | n => n, fun | 9 => 9 | 30 => 22 | 35 => 293 | 3 => 3 | 38 => 294 | 4 => 4 | 0 => 0 | 5 => 5 | 47 => 320 | 46 => 252 | 45 => 335 | n => n, fun | 0 => 1 | n => n⟩
theorem Tryz.laysPah43 : Go.Proofs.Lays.ph43 Tryz.prog Tryz.laysPah43_ren := {
 mixed := by kernel_rfl
 f42 := Tryz.func385.trans (congrArg some (by kernel_rfl))
 f43 := Tryz.func376.trans (congrArg some (by kernel_rfl))
 f44 := Tryz.func386.trans (congrArg some (by kernel_rfl))
 t0 := Tryz.underlying0
 a0 := Tryz.isAgg0
 z0 := Tryz.sizeOf0
 v0 := Tryz.zeroValue0
 t3 := Tryz.underlying3
 a3 := Tryz.isAgg3
 z3 := Tryz.sizeOf3
 v3 := Tryz.zeroValue3
 t4 := Tryz.underlying4
 a4 := Tryz.isAgg4
 z4 := Tryz.sizeOf4
 v4 := Tryz.zeroValue4
 t5 := Tryz.underlying5
 a5 := Tryz.isAgg5
 z5 := Tryz.sizeOf5
 v5 := Tryz.zeroValue5
 t9 := Tryz.underlying9
 a9 := Tryz.isAgg9
 z9 := Tryz.sizeOf9
 v9 := Tryz.zeroValue9
 t30 := Tryz.underlying22
 a30 := Tryz.isAgg22
 z30 := Tryz.sizeOf22
 v30 := Tryz.zeroValue22
 t35 := Tryz.underlying293
 a35 := Tryz.isAgg293
 z35 := Tryz.sizeOf293
 v35 := Tryz.zeroValue293
 t38 := Tryz.underlying294
 a38 := Tryz.isAgg294
 z38 := Tryz.sizeOf294
 v38 := Tryz.zeroValue294
 t45 := Tryz.underlying335
 a45 := Tryz.isAgg335
 z45 := Tryz.sizeOf335
 v45 := Tryz.zeroValue335
 t46 := Tryz.underlying252
 a46 := Tryz.isAgg252
 z46 := Tryz.sizeOf252
 v46 := Tryz.zeroValue252
 t47 := Tryz.underlying320
 a47 := Tryz.isAgg320
 z47 := Tryz.sizeOf320
 v47 := Tryz.zeroValue320
 g0 := by kernel_rfl
 info5 := by kernel_rfl }
open Go.RowKit Go.Lib in
theorem Tryz.hex_DecodeString_owns (s : ByteArray) (w : World) (ev : Value) (hE : w.cell? ⟨1, 0, none⟩ = some ev) (hbig : s.size ≤ 281474976710656) :
   Calls Tryz.prog 376 #[.string s] w fun e w' => ∃ v, e = .returned (.tuple #[v, Hx.errVal 320 ev (Hx.decode s.data.toList).2]) ∧
     w'.ownsRow w.heap.size 5 1 v (Hx.decode s.data.toList).1.length ((Hx.decode s.data.toList).1.map fun b => Value.int .u8 (b.toNat : Int)) ∧ Below w.heap.size w w' := Any.hex_DecodeString_owns Tryz.laysPah43 s w ev hE hbig
end Go.Proofs
namespace Go.Proofs.YthlfmbbaomdciaaGreatDoor
open Go Go.RowKit
theorem hasPrefix_eq (s p : Str) : Lib.hasPrefix s p = prefixB s p := by
 unfold Lib.hasPrefix prefixB
 rw [Bool.eq_iff_iff]
 simp only [List.isPrefixOf_iff_prefix, Bool.and_eq_true, decide_eq_true_eq]
 constructor
 · rintro ⟨t, rfl⟩; simp
 · rintro ⟨h1, h2⟩; exact ⟨s.drop p.length, (congrArg (fun q => q ++ s.drop p.length) h2).symm.trans (List.take_append_drop _ _)⟩
def suffixB (s p : Str) : Bool := decide (p.length ≤ s.length) && decide (s.drop (s.length - p.length) = p)
theorem hasSuffix_eq (s p : Str) : Lib.hasSuffix s p = suffixB s p := by
 unfold Lib.hasSuffix suffixB
 rw [Bool.eq_iff_iff]
 simp only [List.isSuffixOf_iff_suffix, Bool.and_eq_true, decide_eq_true_eq]
 constructor
 · rintro ⟨t, rfl⟩; simp
 · rintro ⟨h1, h2⟩; exact ⟨s.take (s.length - p.length), (congrArg (fun q => s.take (s.length - p.length) ++ q) h2).symm.trans (List.take_append_drop _ _)⟩
def cutPre (s p : Str) : Str × Bool := if prefixB s p = true then (s.drop p.length, true) else (s, false)
def cutSuf (s p : Str) : Str × Bool := if suffixB s p = true then (s.take (s.length - p.length), true) else (s, false)
theorem cutPre_lib (s p : Str) : cutPre s p = (Lib.trimPrefix s p, Lib.hasPrefix s p) := by
 unfold cutPre Lib.trimPrefix
 rw [hasPrefix_eq]
 cases prefixB s p <;> rfl
theorem cutSuf_lib (s p : Str) : cutSuf s p = (Lib.trimSuffix s p, Lib.hasSuffix s p) := by
 unfold cutSuf Lib.trimSuffix
 rw [hasSuffix_eq]
 cases suffixB s p <;> rfl
theorem cutPre_len (s p : Str) : (cutPre s p).1.length ≤ s.length := by unfold cutPre; split <;> simp
theorem cutSuf_len (s p : Str) : (cutSuf s p).1.length ≤ s.length := by unfold cutSuf; split <;> simp [List.length_take]

theorem N_hasPrefix (s p : Str) : Ct Tryz.prog 361 [str s, str p] [] (fun _ => True) (fun v A' => ∃ b, prefixB s p = b ∧ v = .bool b ∧ A' = []) := fun w hA _ => by
 refine (Tryz.strings_HasPrefix ⟨s.toArray⟩ ⟨p.toArray⟩ w).mono fun e w' h => ?_
 obtain ⟨rfl, rfl⟩ := h
 exact ⟨_, [], rfl, ⟨_, rfl, by simp only [← hasPrefix_eq], rfl⟩, hA.below (Below.refl _ _)⟩
theorem N_cutPrefix (s p : Str) : Ct Tryz.prog 366 [str s, str p] [] (fun _ => True) (fun v A' => ∃ u b, cutPre s p = (u, b) ∧ u.length ≤ s.length ∧ v = .tuple #[str u, .bool b] ∧ A' = []) := fun w hA _ => by
 refine (Tryz.strings_CutPrefix ⟨s.toArray⟩ ⟨p.toArray⟩ w).mono fun e w' h => ?_
 obtain ⟨rfl, rfl⟩ := h
 exact ⟨_, [], rfl, ⟨_, _, cutPre_lib s p, by have := cutPre_len s p; rw [cutPre_lib] at this; exact this, rfl, rfl⟩, hA.below (Below.refl _ _)⟩
theorem N_cutSuffix (s p : Str) (hs : s.length ≤ 9223372036854775807) : Ct Tryz.prog 308 [str s, str p] [] (fun _ => True) (fun v A' => ∃ u b, cutSuf s p = (u, b) ∧ u.length ≤ s.length ∧ v = .tuple #[str u, .bool b] ∧ A' = []) := fun w hA _ => by
 refine (Tryz.strings_CutSuffix ⟨s.toArray⟩ ⟨p.toArray⟩ w (by rw [size_mk]; omega)).mono fun e w' h => ?_
 obtain ⟨rfl, rfl⟩ := h
 exact ⟨_, [], rfl, ⟨_, _, cutSuf_lib s p, by have := cutSuf_len s p; rw [cutSuf_lib] at this; exact this, rfl, rfl⟩, hA.below (Below.refl _ _)⟩
theorem C_itoa (n : Int) (h0 : -9223372036854775808 ≤ n) (h1 : n ≤ 9223372036854775807) : Ct Tryz.prog 253 [.int .i64 n] [] (fun _ => True) (fun v A' => v = str (dec n) ∧ A' = []) := fun w hA _ => by
 refine (Tryz.strconv_Itoa n h0 h1 w hA.glob.1).mono fun e w' h => ?_
 obtain ⟨rfl, k, os, rfl⟩ := h
 exact ⟨_, [], rfl, ⟨rfl, rfl⟩, hA.below (below_grow w k os)⟩

/-- What Atoi says. -/
def atoiPost (t : Str) (v : Value) : Prop := (∃ n, Lib.atoiAll t = .ok n ∧ v = .tuple #[.int .i64 n, .nilIface]) ∨ ((∀ n, Lib.atoiAll t ≠ .ok n) ∧ ∃ n te pe, v = .tuple #[.int .i64 n, .iface te pe])
theorem C_atoi (t : Str) (ht : t.length ≤ 281474976710656) : Ct Tryz.prog 368 [str t] [] (fun _ => True) (fun v A' => atoiPost t v ∧ A' = []) := fun w hA _ => by
 have hs : (ByteArray.mk t.toArray).size = t.length := size_mk t
 have hl : (ByteArray.mk t.toArray).data.toList = t := by simp
 obtain ⟨tp, p, hv1⟩ := hA.glob.two
 obtain ⟨tp', p', hv2⟩ := hA.glob.three
 rcases hat : Lib.atoiAll t with n | _ | _
 · skip
   refine (Tryz.strconv_Atoi_ok ⟨t.toArray⟩ (by rw [hs]; omega) n (by rw [hl]; exact hat) w).mono fun e w' h => ?_
   obtain ⟨rfl, h⟩ := h
   have hb : Below w.heap.size w w' := by
     rcases h with rfl | ⟨q, rfl⟩
     · exact Below.refl _ _
     · exact ⟨rfl, rfl, rfl, by rw [Lib.bytesWorld_size]; omega, fun k hk => Lib.bytesWorld_at_old w _ _ k hk⟩
   exact ⟨_, [], rfl, ⟨.inl ⟨n, hat, rfl⟩, rfl⟩, hA.below hb⟩
 · skip
   refine (Any.strconv_Atoi_syntax_var Tryz.laysC172 ⟨t.toArray⟩ (by rw [hs]; omega) (by rw [hl]; exact hat) tp p w hv1).mono fun e w' h => ?_
   obtain ⟨N, rfl, _, _, hb⟩ := h
   exact ⟨_, [], rfl, ⟨.inr ⟨fun n hn => by rw [hat] at hn; simp at hn, _, _, _, rfl⟩, rfl⟩, hA.below hb⟩
 · skip
   refine (Tryz.strconv_Atoi_range_var ⟨t.toArray⟩ (by rw [hs]; omega) (by rw [hl]; exact hat) tp' p' w hv2).mono fun e w' h => ?_
   obtain ⟨N, rfl, _, _, hb⟩ := h
   exact ⟨_, [], rfl, ⟨.inr ⟨fun n hn => by rw [hat] at hn; simp at hn, _, _, _, rfl⟩, rfl⟩, hA.below hb⟩
end Go.Proofs.YthlfmbbaomdciaaGreatDoor
