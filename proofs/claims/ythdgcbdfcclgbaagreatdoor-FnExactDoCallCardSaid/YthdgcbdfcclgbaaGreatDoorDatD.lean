/-
  Texts of the walk, joined: what each one proves stands at its theorems.
-/
import Derived.Test.YthdgcbdfcclgbaaGreatDoorSc
import Derived.Lib.ItoaLen
import Derived.Test.YthdgcbdfcclgbaaGreatDoorS11SMACH
import Derived.Lib.Strings
set_option linter.unusedSimpArgs false
set_option linter.unusedVariables false
set_option linter.unnecessarySimpa false
namespace Go.Proofs.YthdgcbdfcclgbaaGreatDoor
open Go Go.RowKit

/-- Bounds of a machine: how many cells, how many spans on each list, how long a cell's texts. -/
def MS.ok (S T : Nat) (m : MS) : Prop := m.s.length ≤ S ∧ m.r.length ≤ T ∧ m.w.length ≤ T ∧ ∀ c ∈ m.s, c.1.length ≤ 1048576 ∧ c.2.length ≤ 1048576
theorem MS.ok.mono {S T S' T' : Nat} {m : MS} (h : m.ok S T) (hS : S ≤ S') (hT : T ≤ T') : m.ok S' T' := ⟨by have := h.1; omega, by have := h.2.1; omega, by have := h.2.2.1; omega, h.2.2.2⟩
theorem getKey_mem {s : List Cell} {key : Str} : getKey s key = [] ∨ ∃ c ∈ s, c.1 = key ∧ c.2 = getKey s key := by
  induction s with
  | nil => exact .inl rfl
  | cons c s ih =>
    unfold getKey
    by_cases hc : c.1 = key
    · exact .inr ⟨c, by simp, hc, by simp [hc]⟩
    · rw [if_neg hc]
      rcases ih with h | ⟨c', h, h2⟩
      · exact .inl h
      · exact .inr ⟨c', by simp [h], h2⟩
theorem MS.ok.getKey {S T : Nat} {m : MS} (h : m.ok S T) (key : Str) : (getKey m.s key).length ≤ 1048576 := by
  rcases getKey_mem (s := m.s) (key := key) with h0 | ⟨c, hc, _, h2⟩
  · rw [h0]; simp
  · rw [← h2]; exact (h.2.2.2 c hc).2
theorem insertAt_mem {α : Type} {i : Nat} {x y : α} {l : List α} (h : y ∈ insertAt i x l) : y = x ∨ y ∈ l := by
  unfold insertAt at h
  simp only [List.mem_append, List.mem_cons] at h
  rcases h with h | h | h
  · exact .inr (List.mem_of_mem_take h)
  · exact .inl h
  · exact .inr (List.mem_of_mem_drop h)
theorem putKey_mem {s : List Cell} {key val : Str} {c : Cell} (h : c ∈ putKey s key val) : c ∈ s ∨ (c = (key, val) ∧ key.length ≤ 40 ∧ val.length ≤ 60) := by
  unfold putKey at h
  split at h
  · exact .inl h
  · rename_i hk
    simp only [Bool.or_eq_true, Bool.not_eq_true', decide_eq_true_eq, not_or, Bool.not_eq_false] at hk
    simp only at h
    split at h
    · exact .inl (List.mem_filter.1 h).1
    · rcases insertAt_mem h with h | h
      · refine .inr ⟨h, ?_, by omega⟩
        have := hk.1
        simp only [keyOk, Bool.and_eq_true, decide_eq_true_eq] at this
        exact this.2
      · exact .inl (List.mem_filter.1 h).1
theorem putKey_nil_len (s : List Cell) (key : Str) : (putKey s key []).length ≤ s.length := by
  unfold putKey
  simp only
  split
  · exact Nat.le_refl _
  · rw [if_pos trivial]; exact List.length_filter_le _ _
theorem MS.ok.look {S T : Nat} {m : MS} (h : m.ok S T) (key : Str) : (m.look key).1.ok S (T + 1) := by
  have := look_len m key
  exact ⟨by have := h.1; omega, by have := h.2.1; omega, by have := h.2.2.1; omega, h.2.2.2⟩
theorem MS.ok.lay {S T : Nat} {m : MS} (h : m.ok S T) (key val : Str) : (m.lay key val).ok (S + 1) (T + 1) := by
  have := lay_len m key val
  refine ⟨by have := h.1; omega, by have := h.2.1; omega, by have := h.2.2.1; omega, fun c hc => ?_⟩
  rcases putKey_mem (s := m.s) hc with hc | ⟨rfl, h1, h2⟩
  · exact h.2.2.2 c hc
  · exact ⟨by simp only; omega, by simp only; omega⟩
theorem MS.ok.layNil {S T : Nat} {m : MS} (h : m.ok S T) (key : Str) : (m.lay key []).ok S (T + 1) := by
  have h1 := lay_len m key []
  have h2 := putKey_nil_len m.s key
  refine ⟨Nat.le_trans h2 h.1, by have := h.2.1; omega, by have := h.2.2.1; omega, fun c hc => ?_⟩
  rcases putKey_mem (s := m.s) hc with hc | ⟨rfl, h1, h2⟩
  · exact h.2.2.2 c hc
  · exact ⟨by simp only; omega, by simp only; omega⟩
theorem num_lo (m : MS) (key : Str) : 0 ≤ (m.num key).2 ∧ (m.num key).2 ≤ 999 := numOf_lo _
theorem bump_lo (m : MS) (key : Str) : 0 ≤ (m.bump key).2 ∧ (m.bump key).2 ≤ 999 := by
  have h := num_lo m key
  unfold MS.bump
  split
  · exact ⟨by simp, by simp⟩
  · exact ⟨by simp only; omega, by simp only; omega⟩
theorem MS.ok.bump {S T : Nat} {m : MS} (h : m.ok S T) (key : Str) : (m.bump key).1.ok (S + 1) (T + 1) := by
  have h1 := h.look key
  unfold MS.bump
  split
  · exact h1.mono (by omega) (by omega)
  · have h2 := h.lay key (if 1 ≤ (m.num key).2 + 1 ∧ (m.num key).2 + 1 ≤ 999 then dec ((m.num key).2 + 1) else [])
    exact ⟨h2.1, h1.2.1, h2.2.2.1, h2.2.2.2⟩
theorem dec_len21 {n : Int} (h0 : -9223372036854775808 ≤ n) (h1 : n ≤ 9223372036854775807) : (dec n).length ≤ 21 := Lib.itoa_length_le n h0 h1
/-- A list of texts: how many, how long. -/
def okL (n k : Nat) (l : List Str) : Prop := l.length ≤ n ∧ ∀ j, j < l.length → k ≤ (l.getD j []).length ∧ (l.getD j []).length ≤ 1048576
theorem getD_mem {α : Type} {l : List α} {j : Nat} {d : α} (h : j < l.length) : l.getD j d ∈ l := by
  rw [List.getD_eq_getElem?_getD, List.getElem?_eq_getElem h]
  exact List.getElem_mem h
theorem keysUnder_ok {S T : Nat} {m : MS} (h : m.ok S T) (p : Str) : okL S p.length (keysUnder m.s p) := by
  refine ⟨?_, fun j hj => ?_⟩
  · unfold keysUnder
    rw [List.length_map]
    exact Nat.le_trans (List.length_filter_le _ _) h.1
  · have hm := getD_mem (d := ([] : Str)) hj
    unfold keysUnder at hm
    obtain ⟨c, hc, he⟩ := List.mem_map.1 hm
    obtain ⟨hc1, hc2⟩ := List.mem_filter.1 hc
    have e : (keysUnder m.s p).getD j [] = c.1 := he.symm
    rw [e]
    simp only [prefixB, Bool.and_eq_true, decide_eq_true_eq] at hc2
    exact ⟨hc2.1, (h.2.2.2 c hc1).1⟩
theorem MS.ok.under {S T : Nat} {m : MS} (h : m.ok S T) (p : Str) : (m.under p).1.ok S (T + 1) := by
  have := addSpan_len m.r (p ++ [42])
  refine ⟨h.1, ?_, by have := h.2.2.1; show m.w.length ≤ T + 1; omega, h.2.2.2⟩
  show (addSpan m.r (p ++ [42])).length ≤ T + 1
  have := h.2.1
  omega

/- names -/
def nameByte (c : UInt8) : Bool := (decide (97 ≤ c.toNat) && decide (c.toNat ≤ 122)) || (decide (48 ≤ c.toNat) && decide (c.toNat ≤ 57)) || decide (c.toNat = 46) || decide (c.toNat = 45)
def nameOk (s : Str) : Bool := s.all nameByte && decide (1 ≤ s.length) && decide (s.length ≤ 12)
theorem nameOk_bad {key : Str} {j : Nat} (h : j < key.length) (hb : nameByte (key.getD j 0) = false) : nameOk key = false := by
  have : key.all nameByte = false := by
    rw [List.all_eq_false]
    exact ⟨key.getD j 0, getD_mem h, by rw [hb]; simp⟩
  simp [nameOk, this]
theorem nameOk_good {key : Str} {j : Nat} (h : key.length ≤ j) (hb : ∀ i, i < j → i < key.length → nameByte (key.getD i 0) = true) : nameOk key = (decide (1 ≤ key.length) && decide (key.length ≤ 12)) := by
  have : key.all nameByte = true := by
    rw [List.all_eq_true]
    intro x hx
    obtain ⟨i, hi, rfl⟩ := List.getElem_of_mem hx
    have := hb i (by omega) hi
    rwa [List.getD_eq_getElem?_getD, List.getElem?_eq_getElem hi] at this
  simp [nameOk, this]

/- hexadecimal texts -/
def hexFig (x : Nat) : UInt8 := if x < 10 then UInt8.ofNat (48 + x) else UInt8.ofNat (87 + x)
def hexB : Str → Str
  | [] => []
  | c :: s => hexFig (c.toNat / 16) :: hexFig (c.toNat % 16) :: hexB s
def hexS (s : Str) : Str := if 20000 < s.length then [] else hexB s
def hexVal (c : UInt8) : Option Nat := if 48 ≤ c.toNat ∧ c.toNat ≤ 57 then some (c.toNat - 48) else if 97 ≤ c.toNat ∧ c.toNat ≤ 102 then some (c.toNat - 87) else none
def unhexL : Str → Option Str
  | [] => some []
  | [_] => none
  | a :: b :: t => match hexVal a, hexVal b, unhexL t with
    | some h, some l, some r => some (UInt8.ofNat (16 * h + l) :: r)
    | _, _, _ => none
def unhex (t : Str) : Str × Bool := if 40000 < t.length then ([], false) else match unhexL t with
  | some r => (r, true)
  | none => ([], false)
theorem hexB_len : ∀ s : Str, (hexB s).length = 2 * s.length
  | [] => rfl
  | c :: s => by simp only [hexB, List.length_cons, hexB_len s]; omega
theorem unhexL_len : ∀ (t r : Str), unhexL t = some r → 2 * r.length = t.length
  | [], r, h => by simp only [unhexL, Option.some.injEq] at h; subst h; rfl
  | [_], r, h => by simp [unhexL] at h
  | a :: b :: t, r, h => by
    unfold unhexL at h
    split at h
    · rename_i hh ll rr h1 h2 h3
      simp only [Option.some.injEq] at h
      subst h
      have := unhexL_len t rr h3
      simp only [List.length_cons]
      omega
    · cases h
theorem unhex_len (t : Str) : (unhex t).1.length ≤ 20000 := by
  unfold unhex
  split
  · simp
  · split
    · rename_i r h
      have := unhexL_len t r h
      simp only
      omega
    · simp
def messageOf (v : Str) : Str := match v with
  | [] => []
  | c :: t => if c = 45 then (unhex t).1 else []
theorem messageOf_len (v : Str) : (messageOf v).length ≤ 20000 := by
  unfold messageOf
  split
  · simp
  · split
    · exact unhex_len _
    · simp

/-- The keys behind their first signs. -/
def dropAcc (k : Nat) : List Str → List Str → List Str
  | [], out => out
  | x :: l, out => dropAcc k l (out ++ [x.drop k])
namespace MS
def message (m : MS) (key : Str) : MS × Str := match m.look key with | (m, v) => (m, messageOf v)
def fileOf (m : MS) (name : Str) : MS × Int := if nameOk name = true then m.num (([110, 47] : Str) ++ name) else (m, 0)
def makeName (m : MS) (name : Str) : MS × Int × Int :=
  if nameOk name = true then
    match m.fileOf name with
    | (m, id) => if id = 0 then
        match m.num ([99, 47, 102, 105, 108, 101] : Str) with
        | (m, n) => if 20 ≤ n then (m, 0, 3) else
          match m.bump ([99, 47, 102, 105, 108, 101] : Str) with
          | (m, id) => ((m.setNum (([110, 47] : Str) ++ name) id).setNum (keyNum ([105, 47] : Str) id ([47, 108] : Str)) 1, id, 0)
      else (m, 0, 1)
  else (m, 0, 4)
def linkName (m : MS) (from_ to_ : Str) : MS × Int :=
  if nameOk from_ = true then
    if nameOk to_ = true then
      match m.fileOf from_ with
      | (m, id) => if id = 0 then (m, 2) else
        match m.fileOf to_ with
        | (m, o) => if o = 0 then
            match m.num (keyNum ([105, 47] : Str) id ([47, 108] : Str)) with
            | (m, n) => if 4 ≤ n then (m, 3) else
              ((m.setNum (([110, 47] : Str) ++ to_) id).setNum (keyNum ([105, 47] : Str) id ([47, 108] : Str)) (n + 1), 0)
          else (m, 1)
    else (m, 4)
  else (m, 4)
/-- What wipe does with the keys that it finds. -/
def wipeL : List Str → MS → MS
  | [], m => m
  | k :: l, m => wipeL l (m.lay k [])
def wipe' (m : MS) (p : Str) : MS := match m.under p with | (m, l) => wipeL l m
def unlinkName (m : MS) (name : Str) : MS × Int :=
  if nameOk name = true then
    match m.fileOf name with
    | (m, id) => if id = 0 then (m, 2) else
      match (m.lay (([110, 47] : Str) ++ name) []).num (keyNum ([105, 47] : Str) id ([47, 108] : Str)) with
      | (m, n) => if 1 < n then (m.setNum (keyNum ([105, 47] : Str) id ([47, 108] : Str)) (n - 1), 0) else (m.wipe' (keyNum ([105, 47] : Str) id ([47] : Str)), 0)
  else (m, 4)
def renameName (m : MS) (from_ to_ : Str) : MS × Int :=
  if nameOk from_ = true then
    if nameOk to_ = true then
      match m.fileOf from_ with
      | (m, id) => if id = 0 then (m, 2) else
        match m.fileOf to_ with
        | (m, o) => if o = id then (m, 0) else
          if o = 0 then ((m.setNum (([110, 47] : Str) ++ to_) id).lay (([110, 47] : Str) ++ from_) [], 0) else
            match m.unlinkName to_ with
            | (m, _) => ((m.setNum (([110, 47] : Str) ++ to_) id).lay (([110, 47] : Str) ++ from_) [], 0)
    else (m, 4)
  else (m, 4)
def names (m : MS) : MS × List Str := match m.under ([110, 47] : Str) with | (m, l) => (m, dropAcc 2 l [])

/- files -/
def sizeOf (m : MS) (id : Int) : MS × Int := m.num (keyNum ([105, 47] : Str) id ([47, 115] : Str))
def block (m : MS) (id place : Int) : MS × Str := match m.look (keyNum (keyNum ([105, 47] : Str) id ([47, 98, 47] : Str)) place []) with | (m, v) => (m, (unhex v).1)

/- pipes -/
def makePipe (m : MS) : MS × Int × Int :=
  match m.num ([99, 47, 112, 105, 112, 101] : Str) with
  | (m, n) => if 8 ≤ n then (m, 0, 3) else
    match m.bump ([99, 47, 112, 105, 112, 101] : Str) with
    | (m, id) => (m.setNum (keyNum ([112, 47] : Str) id ([47, 111] : Str)) 1, id, 0)
def isPipe (m : MS) (id : Int) : MS × Bool := match m.num (keyNum ([112, 47] : Str) id ([47, 111] : Str)) with | (m, n) => (m, decide (n = 1))
def putPipe (m : MS) (id : Int) (text : Str) : MS × Int :=
  match m.isPipe id with
  | (m, b) => if b = true then
      if 20 < (text.length : Int) then (m, 4) else
      match m.num (keyNum ([112, 47] : Str) id ([47, 116] : Str)) with
      | (m, t) => match m.num (keyNum ([112, 47] : Str) id ([47, 104] : Str)) with
        | (m, h) => if 4 ≤ t - h then (m, 5) else if 999 ≤ t then (m, 3) else
          ((m.setNum (keyNum ([112, 47] : Str) id ([47, 116] : Str)) (t + 1)).lay (keyNum (keyNum ([112, 47] : Str) id ([47, 113, 47] : Str)) (t + 1) []) (([45] : Str) ++ hexS text), 0)
    else (m, 2)
def takePipe (m : MS) (id : Int) : MS × Str × Int :=
  match m.isPipe id with
  | (m, b) => if b = true then
      match m.num (keyNum ([112, 47] : Str) id ([47, 104] : Str)) with
      | (m, h) => match m.num (keyNum ([112, 47] : Str) id ([47, 116] : Str)) with
        | (m, t) => if t = h then (m, [], 5) else
          match m.message (keyNum (keyNum ([112, 47] : Str) id ([47, 113, 47] : Str)) (h + 1) []) with
          | (m, x) => ((m.lay (keyNum (keyNum ([112, 47] : Str) id ([47, 113, 47] : Str)) (h + 1) []) []).setNum (keyNum ([112, 47] : Str) id ([47, 104] : Str)) (h + 1), x, 0)
    else (m, [], 2)

/- processes -/
def state (m : MS) (id : Int) : MS × Int := m.num (keyNum ([114, 47] : Str) id ([47, 115] : Str))
def spawn (m : MS) (parent : Int) : MS × Int × Int :=
  match m.num ([99, 47, 112, 114, 111, 99] : Str) with
  | (m, n) => if 12 ≤ n then (m, 0, 3) else
    match m.bump ([99, 47, 112, 114, 111, 99] : Str) with
    | (m, id) => ((m.setNum (keyNum ([114, 47] : Str) id ([47, 115] : Str)) 1).setNum (keyNum ([114, 47] : Str) id ([47, 112] : Str)) parent, id, 0)
def endProc (m : MS) (id n : Int) : MS × Int :=
  match m.state id with
  | (m, s) => if s = 1 then
      if 0 ≤ n ∧ n ≤ 100 then ((m.setNum (keyNum ([114, 47] : Str) id ([47, 115] : Str)) 2).setNum (keyNum ([114, 47] : Str) id ([47, 120] : Str)) (n + 1), 0) else (m, 4)
    else (m, 2)
def reap (m : MS) (parent id : Int) : MS × Int × Int :=
  match m.num (keyNum ([114, 47] : Str) id ([47, 112] : Str)) with
  | (m, own) => if own = 0 then (m, 0, 2) else if own = parent then
      match m.state id with
      | (m, s) => if s = 1 then (m, 0, 5) else if s = 2 then
          match m.num (keyNum ([114, 47] : Str) id ([47, 120] : Str)) with
          | (m, n) => (m.wipe' (keyNum ([114, 47] : Str) id ([47] : Str)), n - 1, 0)
        else (m, 0, 2)
    else (m, 0, 2)
def isKid (k : Str) : Bool := decide (5 ≤ k.length) && decide (k.drop (k.length - 2) = ([47, 112] : Str))
def kidsL (parent : Int) : List Str → MS → List Int → MS × List Int
  | [], m, out => (m, out)
  | k :: l, m, out => if isKid k = true then
      match m.num k with
      | (m, n) => if n = parent then kidsL parent l m (out ++ [numOf ((k.take (k.length - 2)).drop 2)]) else kidsL parent l m out
    else kidsL parent l m out
def kids (m : MS) (parent : Int) : MS × List Int := match m.under ([114, 47] : Str) with | (m, l) => kidsL parent l m []

/- signals -/
def send (m : MS) (to_ n : Int) : MS × Int :=
  match m.state to_ with
  | (m, s) => if s = 1 then
      if 1 ≤ n ∧ n ≤ 31 then
        match m.num (keyNum ([103, 47] : Str) to_ ([47, 116] : Str)) with
        | (m, t) => match m.num (keyNum ([103, 47] : Str) to_ ([47, 104] : Str)) with
          | (m, h) => if 4 ≤ t - h then (m, 5) else if 999 ≤ t then (m, 3) else
            ((m.setNum (keyNum ([103, 47] : Str) to_ ([47, 116] : Str)) (t + 1)).setNum (keyNum (keyNum ([103, 47] : Str) to_ ([47, 113, 47] : Str)) (t + 1) []) n, 0)
      else (m, 4)
    else (m, 2)
def takeSignal (m : MS) (id : Int) : MS × Int × Int :=
  match m.num (keyNum ([103, 47] : Str) id ([47, 104] : Str)) with
  | (m, h) => match m.num (keyNum ([103, 47] : Str) id ([47, 116] : Str)) with
    | (m, t) => if t = h then (m, 0, 5) else
      match m.num (keyNum (keyNum ([103, 47] : Str) id ([47, 113, 47] : Str)) (h + 1) []) with
      | (m, n) => ((m.lay (keyNum (keyNum ([103, 47] : Str) id ([47, 113, 47] : Str)) (h + 1) []) []).setNum (keyNum ([103, 47] : Str) id ([47, 104] : Str)) (h + 1), n, 0)
def setTimer (m : MS) (id at_ : Int) : MS × Int := if 0 ≤ at_ ∧ at_ ≤ 999 then (m.setNum (keyNum ([116, 47] : Str) id []) at_, 0) else (m, 4)
def tickL (clock : Int) : List Str → MS → Int → MS × Int
  | [], m, k => (m, k)
  | x :: l, m, k => match m.num x with
    | (m, n) => if clock < n then tickL clock l m k else
      match (m.lay x []).send (numOf (x.drop 2)) 14 with
      | (m, _) => tickL clock l m (k + 1)
def tick (m : MS) (n : Int) : MS × Int × Int :=
  if n < 1 then (m, 0, 4) else
    match m.num ([99, 47, 99, 108, 111, 99, 107] : Str) with
    | (m, c) => if 999 - c < n then (m, 0, 3) else
      match (m.setNum ([99, 47, 99, 108, 111, 99, 107] : Str) (c + n)).under ([116, 47] : Str) with
      | (m, l) => match tickL (c + n) l m 0 with
        | (m, k) => (m, k, 0)

/- pages -/
def storePage (m : MS) (id page : Int) (text : Str) : MS × Int :=
  if 0 ≤ page ∧ page ≤ 3 then
    if 20 < (text.length : Int) then (m, 4) else
      (m.lay (keyNum (keyNum ([109, 47] : Str) id ([47] : Str)) page []) (if text = [] then [] else ([45] : Str) ++ hexS text), 0)
  else (m, 4)
def loadPage (m : MS) (id page : Int) : MS × Str × Int :=
  if 0 ≤ page ∧ page ≤ 3 then
    match m.message (keyNum (keyNum ([109, 47] : Str) id ([47] : Str)) page []) with
    | (m, x) => (m, x, 0)
  else (m, [], 4)
def forkL (k : Nat) (to_ : Int) : List Str → MS → MS
  | [], m => m
  | x :: l, m => match m.look x with
    | (m, v) => forkL k to_ l (m.lay (keyNum ([109, 47] : Str) to_ ([47] : Str) ++ x.drop k) v)
def forkPages (m : MS) (from_ to_ : Int) : MS := match m.under (keyNum ([109, 47] : Str) from_ ([47] : Str)) with | (m, l) => forkL (keyNum ([109, 47] : Str) from_ ([47] : Str)).length to_ l m
def dropPages (m : MS) (id : Int) : MS := m.wipe' (keyNum ([109, 47] : Str) id ([47] : Str))

/- output -/
def putOut (m : MS) (text : Str) : MS × Int :=
  if 1 ≤ (text.length : Int) ∧ (text.length : Int) ≤ 20 then
    match m.num ([100, 47, 110] : Str) with
    | (m, n) => if 40 ≤ n then (m, 3) else ((m.setNum ([100, 47, 110] : Str) (n + 1)).lay (keyNum ([100, 47] : Str) (n + 1) []) (([45] : Str) ++ hexS text), 0)
  else (m, 4)
end MS
end Go.Proofs.YthdgcbdfcclgbaaGreatDoor

set_option linter.unusedSimpArgs false
set_option linter.unusedVariables false
set_option linter.unnecessarySimpa false
namespace Go.Proofs.YthdgcbdfcclgbaaGreatDoor
open Go Go.RowKit

/-- Where the three lists of a machine lie. -/
structure MA where
  a0 : Option Addr
  c0 : Nat
  a1 : Option Addr
  c1 : Nat
  a2 : Option Addr
  c2 : Nat
@[reducible] def rC (a : Option Addr) (c : Nat) (s : List Cell) : Res := .row (.slice a s.length c) 80 2 s.length (s.flatMap encC)
@[reducible] def rS (a : Option Addr) (c : Nat) (l : List Str) : Res := .row (.slice a l.length c) 9 1 l.length (l.map str)
@[reducible] def rI (a : Option Addr) (c : Nat) (l : List Int) : Res := .row (.slice a l.length c) 3 1 l.length (l.map (Value.int .i64))
@[reducible] def mc (x : MA) (m : MS) : List Value := [.slice x.a0 m.s.length x.c0, .slice x.a1 m.r.length x.c1, .slice x.a2 m.w.length x.c2]
@[reducible] def mv (x : MA) (m : MS) : Value := .agg #[.slice x.a0 m.s.length x.c0, .slice x.a1 m.r.length x.c1, .slice x.a2 m.w.length x.c2]
@[reducible] def mr (x : MA) (m : MS) : List Res := [rC x.a0 x.c0 m.s, rS x.a1 x.c1 m.r, rS x.a2 x.c2 m.w]
@[reducible] def mb (p : Nat) (x : MA) (m : MS) : Res := bk p 35 [.slice x.a0 m.s.length x.c0, .slice x.a1 m.r.length x.c1, .slice x.a2 m.w.length x.c2]
@[reducible] def seesM (w : World) (x : MA) (m : MS) : Prop := Sees w (.slice x.a0 m.s.length x.c0) 2 m.s.length (m.s.flatMap encC) ∧ Sees w (.slice x.a1 m.r.length x.c1) 1 m.r.length (m.r.map str) ∧ Sees w (.slice x.a2 m.w.length x.c2) 1 m.w.length (m.w.map str)

theorem Ct.weak {P : Program} {f : FuncId} {args : List Value} {A : List Res} {Pre Pre' : World → Prop} {Post Post' : Value → List Res → Prop} (h : Ct P f args A Pre Post) (hp : ∀ w, Pre' w → Pre w) (hq : ∀ v A', Post v A' → Post' v A') : Ct P f args A Pre' Post' :=
  fun w hA hw => (h w hA (hp w hw)).mono fun _ _ ⟨v, A', he, hv, hs⟩ => ⟨v, A', he, hq v A' hv, hs⟩

theorem Ct.introL {P : Program} {n : Nat} {f : FuncId} {fn : Func} {c : Code} {args : List Value} {A : List Res} {Pre : World → Prop} {Post : Value → List Res → Prop}
    (hf : P.funcs[f]? = some fn) (hb : fn.body = some c) (hn : fn.ntmps = n) (hle : args.length ≤ n)
    (h : ∀ w0, Pre w0 → (∀ i ∈ idsOf A, GB ≤ i) → JC P (bodyPost P fn (Done w0 (idsOf A) Post)) n w0 (idsOf A) A c (argEnv args)) : Ct P f args A Pre Post := fun w hA hpre => by
  refine calls_of_wp hf hb ?_
  rw [hn, act_args n args hle]
  exact h w hpre hA.low w (St.start hA)
theorem St.hex {w0 w : World} {D : List Nat} {L : List Res} (hw : St w0 D L w) (hlow : ∀ i ∈ D, GB ≤ i) (h : HexOk w0) : HexOk w :=
  h.keep (hw.keep _ h.lt fun hD => by have := hlow _ hD; have := hexLow; omega)

/-- A nil slice is a row that nobody owns a block for. -/
theorem St.nilRow {w0 w : World} {D : List Nat} {L : List Res} (hw : St w0 D L w) (t k : Nat) : St w0 D (.row (.slice none 0 0) t k 0 [] :: L) w := by
  have e : idsOf (.row (.slice none 0 0) t k 0 [] :: L) = idsOf L := by rw [idsOf_cons]; simp [Res.ids, Value.ownBlock]
  refine ⟨⟨fun r hr => ?_, by rw [e]; exact hw.nodup, by rw [e]; exact hw.low, hw.room, hw.glob⟩, hw.os, hw.tape, hw.output, hw.size, by rw [e]; exact hw.fresh, hw.keep⟩
  simp only [List.mem_cons] at hr
  rcases hr with rfl | hr
  · exact ⟨by simp, .inl ⟨rfl, rfl⟩⟩
  · exact hw.holds r hr
theorem JL.nilRow {P : Program} {ops : Array Oper} {Q : Exit → Act → World → Prop} {n : Nat} {w0 : World} {D : List Nat} {L : List Res} {e : Env} {l : List Oper} (t k : Nat) (h : JL P ops Q n w0 D (.row (.slice none 0 0) t k 0 [] :: L) l e) : JL P ops Q n w0 D L l e := fun w hw => h w (hw.nilRow t k)
theorem JC.nilRow {P : Program} {Q : Exit → Act → World → Prop} {n : Nat} {w0 : World} {D : List Nat} {L : List Res} {e : Env} {c : Code} (t k : Nat) (h : JC P Q n w0 D (.row (.slice none 0 0) t k 0 [] :: L) c e) : JC P Q n w0 D L c e := fun w hw => h w (hw.nilRow t k)

theorem JQ.nilRow {Q : Exit → Act → World → Prop} {x : Exit} {n : Nat} {w0 : World} {D : List Nat} {L : List Res} {e : Env} (t k : Nat) (h : JQ Q x n w0 D (.row (.slice none 0 0) t k 0 [] :: L) e) : JQ Q x n w0 D L e := fun w hw => h w (hw.nilRow t k)
theorem JA.nilRow {P : Program} {ops : Array Oper} {Q : Exit → Act → World → Prop} {n : Nat} {w0 : World} {D : List Nat} {L M : List Res} {e : Env} {z fuel : Nat} {listed : Array Bool} (t k : Nat) (h : JA P ops Q n w0 D M z fuel listed (.row (.slice none 0 0) t k 0 [] :: L) e) : JA P ops Q n w0 D M z fuel listed L e := fun w hw hq => h w (hw.nilRow t k) hq

section
variable {n : Nat} {w0 : World} {D : List Nat} {L : List Res} {e : Env} {d : Option Tmp} {ty : TypeId} {pos : String} {aft : Array Edge} {gd : Option (Nat × Bool)}
/-- A machine read from its block, and laid there. -/
theorem jP (i : Nat) {x : Operand} {b : Nat} (X : MA) (M : MS) (hL : L[i]? = some (mb b X M)) (hx : rd n e x = .pointer (some ⟨b, 0, none⟩)) : LO Tryz.prog n w0 D L e ⟨d, .load 35 x, ty, pos, aft, gd⟩ (mv X M) := jf i (vs := mc X M) hL hx Tryz.isAgg35 Tryz.sizeOf35 rfl rfl
theorem jW (i : Nat) {x y : Operand} {b : Nat} {cs : List Value} (X : MA) (M : MS) (hL : L[i]? = some (bk b 35 cs)) (hx : rd n e x = .pointer (some ⟨b, 0, none⟩)) (hy : rd n e y = mv X M) (hc : cs.length = 3) :
    JO Tryz.prog n w0 D L e ⟨d, .store 35 x y, ty, pos, aft, gd⟩ (fun _ L' => L' = L.set i (mb b X M)) := by
  match cs, hc with
  | [c1, c2, c3], _ => exact jc i (vs := mc X M) (cs' := mc X M) hL hx hy rfl Tryz.sizeOf35 rfl rfl (Nat.le_of_ble_eq_true rfl) rfl
end
section
variable {P : Program} {ops : Array Oper} {Q : Exit → Act → World → Prop} {n : Nat} {w0 : World} {D : List Nat} {L M : List Res} {e : Env} {z fuel : Nat} {listed : Array Bool}
/-- A guard that was itself not asked. -/
theorem JL.guardOffU {o : Oper} {rest : List Oper} {j : Nat} {b : Bool} {t : Tmp} (hg : o.guard = some (j, b)) (hj : (ops[j]?).bind (·.dst) = some t) (ht : Nat.blt t n = true) (hv : e t = undef)
    (h : JL P ops Q n w0 D L rest (updO e o.dst undef)) : JL P ops Q n w0 D L (o :: rest) e := fun w hw => by
  have hlt : t < n := (Nat.blt_eq (x := t) (y := n)) ▸ ht
  have hy : yielded ops (act n e).tmps j = none := by simp [yielded, hj, act, hlt, hv, undef]
  refine wpList_step fun K hK => ?_
  rw [if_neg (by simp [Region.wanted, hg, hy]), act_put]
  exact hK _ _ (h w hw)
end

theorem N_look (p : Nat) (x : MA) (m : MS) {S T : Nat} (hk : m.ok S T) (hS : S ≤ 1000000000) (hT : T ≤ 1000000000) (key : Str) :
    Ct Tryz.prog 139 [.pointer (some ⟨p, 0, none⟩), str key] (mb p x m :: mr x m) (fun _ => True) (fun v A' => ∃ x' m' u, m.look key = (m', u) ∧ m'.ok S (T + 1) ∧ u.length ≤ 1048576 ∧ v = str u ∧ A' = mb p x' m' :: mr x' m') :=
  (C_look p x.a0 x.a1 x.a2 x.c0 x.c1 x.c2 m key (by have := hk.1; omega) (by have := hk.2.1; omega) (by have := hk.2.2.1; omega)).weak (fun _ h => h) fun v A' ⟨x0, y0, x1, y1, x2, y2, hv, hA⟩ => ⟨⟨x0, y0, x1, y1, x2, y2⟩, (m.look key).1, (m.look key).2, rfl, hk.look key, hk.getKey key, hv, hA⟩

theorem N_lay (p : Nat) (x : MA) (m : MS) {S T : Nat} (hk : m.ok S T) (hS : S ≤ 1000000000) (hT : T ≤ 1000000000) (key : Str) (val : Str) (hkey : key.length ≤ 1000000000000) :
    Ct Tryz.prog 127 [.pointer (some ⟨p, 0, none⟩), str key, str val] (mb p x m :: mr x m) (fun _ => True) (fun v A' => ∃ x' m', m.lay key val = m' ∧ m'.ok (S + 1) (T + 1) ∧ v = .tuple #[] ∧ A' = mb p x' m' :: mr x' m') :=
  (C_lay p x.a0 x.a1 x.a2 x.c0 x.c1 x.c2 m key val (by have := hk.1; omega) (by have := hk.2.1; omega) (by have := hk.2.2.1; omega) hkey).weak (fun _ h => h) fun v A' ⟨x0, y0, x1, y1, x2, y2, hv, hA⟩ => ⟨⟨x0, y0, x1, y1, x2, y2⟩, m.lay key val, rfl, hk.lay key val, hv, hA⟩

theorem N_layNil (p : Nat) (x : MA) (m : MS) {S T : Nat} (hk : m.ok S T) (hS : S ≤ 1000000000) (hT : T ≤ 1000000000) (key : Str) (hkey : key.length ≤ 1000000000000) :
    Ct Tryz.prog 127 [.pointer (some ⟨p, 0, none⟩), str key, str []] (mb p x m :: mr x m) (fun _ => True) (fun v A' => ∃ x' m', m.lay key [] = m' ∧ m'.ok S (T + 1) ∧ v = .tuple #[] ∧ A' = mb p x' m' :: mr x' m') :=
  (C_lay p x.a0 x.a1 x.a2 x.c0 x.c1 x.c2 m key [] (by have := hk.1; omega) (by have := hk.2.1; omega) (by have := hk.2.2.1; omega) hkey).weak (fun _ h => h) fun v A' ⟨x0, y0, x1, y1, x2, y2, hv, hA⟩ => ⟨⟨x0, y0, x1, y1, x2, y2⟩, m.lay key [], rfl, hk.layNil key, hv, hA⟩

theorem N_num (p : Nat) (x : MA) (m : MS) {S T : Nat} (hk : m.ok S T) (hS : S ≤ 1000000000) (hT : T ≤ 1000000000) (key : Str) :
    Ct Tryz.prog 118 [.pointer (some ⟨p, 0, none⟩), str key] (mb p x m :: mr x m) (fun _ => True) (fun v A' => ∃ x' m' n, m.num key = (m', n) ∧ m'.ok S (T + 1) ∧ (0 ≤ n ∧ n ≤ 999) ∧ v = .int .i64 n ∧ A' = mb p x' m' :: mr x' m') :=
  (C_num p x.a0 x.a1 x.a2 x.c0 x.c1 x.c2 m key (by have := hk.1; omega) (by have := hk.2.1; omega) (by have := hk.2.2.1; omega) (Nat.le_trans (hk.getKey key) (by decide))).weak (fun _ h => h) fun v A' ⟨x0, y0, x1, y1, x2, y2, hv, hA⟩ => ⟨⟨x0, y0, x1, y1, x2, y2⟩, (m.num key).1, (m.num key).2, rfl, hk.look key, numOf_lo _, hv, hA⟩

theorem N_setNum (p : Nat) (x : MA) (m : MS) {S T : Nat} (hk : m.ok S T) (hS : S ≤ 1000000000) (hT : T ≤ 1000000000) (key : Str) (n : Int) (hkey : key.length ≤ 1000000000000) (hn : -9223372036854775808 ≤ n ∧ n ≤ 9223372036854775807) :
    Ct Tryz.prog 124 [.pointer (some ⟨p, 0, none⟩), str key, .int .i64 n] (mb p x m :: mr x m) (fun _ => True) (fun v A' => ∃ x' m', m.setNum key n = m' ∧ m'.ok (S + 1) (T + 1) ∧ v = .tuple #[] ∧ A' = mb p x' m' :: mr x' m') :=
  (C_setNum p x.a0 x.a1 x.a2 x.c0 x.c1 x.c2 m key n (by have := hk.1; omega) (by have := hk.2.1; omega) (by have := hk.2.2.1; omega) hkey hn.1 hn.2).weak (fun _ h => h) fun v A' ⟨x0, y0, x1, y1, x2, y2, hv, hA⟩ => ⟨⟨x0, y0, x1, y1, x2, y2⟩, m.setNum key n, rfl, hk.lay key _, hv, hA⟩

theorem N_bump (p : Nat) (x : MA) (m : MS) {S T : Nat} (hk : m.ok S T) (hS : S ≤ 1000000000) (hT : T ≤ 1000000000) (key : Str) (hkey : key.length ≤ 1000000000000) :
    Ct Tryz.prog 123 [.pointer (some ⟨p, 0, none⟩), str key] (mb p x m :: mr x m) (fun _ => True) (fun v A' => ∃ x' m' n, m.bump key = (m', n) ∧ m'.ok (S + 1) (T + 1) ∧ (0 ≤ n ∧ n ≤ 999) ∧ v = .int .i64 n ∧ A' = mb p x' m' :: mr x' m') :=
  (C_bump p x.a0 x.a1 x.a2 x.c0 x.c1 x.c2 m key (by have := hk.1; omega) (by have := hk.2.1; omega) (by have := hk.2.2.1; omega) (Nat.le_trans (hk.getKey key) (by decide)) hkey).weak (fun _ h => h) fun v A' ⟨x0, y0, x1, y1, x2, y2, hv, hA⟩ => ⟨⟨x0, y0, x1, y1, x2, y2⟩, (m.bump key).1, (m.bump key).2, rfl, hk.bump key, (bump_lo m key), hv, hA⟩

theorem N_clone (x : MA) (m : MS) {S T : Nat} (hk : m.ok S T) (hS : S ≤ 1000000000) (hT : T ≤ 1000000000) :
    Ct Tryz.prog 20 [mv x m] ([]) (fun w => seesM w x m) (fun v A' => ∃ x' m', m = m' ∧ m'.ok S T ∧ v = mv x' m' ∧ A' = mr x' m') :=
  (C_cloneMach x.a0 x.a1 x.a2 x.c0 x.c1 x.c2 m (by have := hk.1; omega) (by have := hk.2.1; omega) (by have := hk.2.2.1; omega)).weak (fun _ h => h) fun v A' ⟨x0, y0, x1, y1, x2, y2, hv, hA⟩ => ⟨⟨x0, y0, x1, y1, x2, y2⟩, m, rfl, hk, hv, hA⟩

theorem N_sLook (x : MA) (m : MS) {S T : Nat} (hk : m.ok S T) (hS : S ≤ 1000000000) (hT : T ≤ 1000000000) (key : Str) :
    Ct Tryz.prog 102 [mv x m, str key] (mr x m) (fun _ => True) (fun v A' => ∃ x' m' u, m.look key = (m', u) ∧ m'.ok S (T + 1) ∧ u.length ≤ 1048576 ∧ v = .tuple #[mv x' m', str u] ∧ A' = mr x' m') :=
  (C_sLook x.a0 x.a1 x.a2 x.c0 x.c1 x.c2 m key (by have := hk.1; omega) (by have := hk.2.1; omega) (by have := hk.2.2.1; omega)).weak (fun _ h => h) fun v A' ⟨x0, y0, x1, y1, x2, y2, hv, hA⟩ => ⟨⟨x0, y0, x1, y1, x2, y2⟩, (m.look key).1, (m.look key).2, rfl, hk.look key, hk.getKey key, hv, hA⟩

theorem N_sLay (x : MA) (m : MS) {S T : Nat} (hk : m.ok S T) (hS : S ≤ 1000000000) (hT : T ≤ 1000000000) (key : Str) (val : Str) (hkey : key.length ≤ 1000000000000) :
    Ct Tryz.prog 92 [mv x m, str key, str val] (mr x m) (fun _ => True) (fun v A' => ∃ x' m', m.lay key val = m' ∧ m'.ok (S + 1) (T + 1) ∧ v = mv x' m' ∧ A' = mr x' m') :=
  (C_sLay x.a0 x.a1 x.a2 x.c0 x.c1 x.c2 m key val (by have := hk.1; omega) (by have := hk.2.1; omega) (by have := hk.2.2.1; omega) hkey).weak (fun _ h => h) fun v A' ⟨x0, y0, x1, y1, x2, y2, hv, hA⟩ => ⟨⟨x0, y0, x1, y1, x2, y2⟩, m.lay key val, rfl, hk.lay key val, hv, hA⟩

theorem N_sLayNil (x : MA) (m : MS) {S T : Nat} (hk : m.ok S T) (hS : S ≤ 1000000000) (hT : T ≤ 1000000000) (key : Str) (hkey : key.length ≤ 1000000000000) :
    Ct Tryz.prog 92 [mv x m, str key, str []] (mr x m) (fun _ => True) (fun v A' => ∃ x' m', m.lay key [] = m' ∧ m'.ok S (T + 1) ∧ v = mv x' m' ∧ A' = mr x' m') :=
  (C_sLay x.a0 x.a1 x.a2 x.c0 x.c1 x.c2 m key [] (by have := hk.1; omega) (by have := hk.2.1; omega) (by have := hk.2.2.1; omega) hkey).weak (fun _ h => h) fun v A' ⟨x0, y0, x1, y1, x2, y2, hv, hA⟩ => ⟨⟨x0, y0, x1, y1, x2, y2⟩, m.lay key [], rfl, hk.layNil key, hv, hA⟩

theorem N_sBump (x : MA) (m : MS) {S T : Nat} (hk : m.ok S T) (hS : S ≤ 1000000000) (hT : T ≤ 1000000000) (key : Str) (hkey : key.length ≤ 1000000000000) :
    Ct Tryz.prog 89 [mv x m, str key] (mr x m) (fun _ => True) (fun v A' => ∃ x' m' n, m.bump key = (m', n) ∧ m'.ok (S + 1) (T + 1) ∧ (0 ≤ n ∧ n ≤ 999) ∧ v = .tuple #[mv x' m', .int .i64 n] ∧ A' = mr x' m') :=
  (C_sBump x.a0 x.a1 x.a2 x.c0 x.c1 x.c2 m key (by have := hk.1; omega) (by have := hk.2.1; omega) (by have := hk.2.2.1; omega) (Nat.le_trans (hk.getKey key) (by decide)) hkey).weak (fun _ h => h) fun v A' ⟨x0, y0, x1, y1, x2, y2, hv, hA⟩ => ⟨⟨x0, y0, x1, y1, x2, y2⟩, (m.bump key).1, (m.bump key).2, rfl, hk.bump key, (bump_lo m key), hv, hA⟩

theorem N_copy (x : MA) (m : MS) {S T : Nat} (hk : m.ok S T) (hS : S ≤ 1000000000) (hT : T ≤ 1000000000) :
    Ct Tryz.prog 17 [mv x m] ([]) (fun w => seesM w x m) (fun v A' => ∃ x' m', m = m' ∧ m'.ok S T ∧ v = mv x' m' ∧ A' = mr x' m') :=
  (C_copy x.a0 x.a1 x.a2 x.c0 x.c1 x.c2 m (by have := hk.1; omega) (by have := hk.2.1; omega) (by have := hk.2.2.1; omega)).weak (fun _ h => h) fun v A' ⟨x0, y0, x1, y1, x2, y2, hv, hA⟩ => ⟨⟨x0, y0, x1, y1, x2, y2⟩, m, rfl, hk, hv, hA⟩

end Go.Proofs.YthdgcbdfcclgbaaGreatDoor

set_option linter.unusedSimpArgs false
set_option linter.unusedVariables false
set_option linter.unnecessarySimpa false
namespace Go.Proofs.YthdgcbdfcclgbaaGreatDoor
open Go Go.RowKit

theorem szCells_mem : ∀ (s : List Cell) (l : Int), ¬ szCells s l < 0 → 0 ≤ l → ∀ c ∈ s, (c.1.length : Int) ≤ l ∧ (c.2.length : Int) ≤ l
  | [], l, _, h0, c, hc => by simp at hc
  | d :: s, l, h, h0, c, hc => by
    unfold szCells at h
    split at h
    · omega
    · rename_i hd
      have hle := szCell_le d.1 d.2 l h0
      simp only [List.mem_cons] at hc
      rcases hc with rfl | hc
      · unfold szCell at hd
        split at hd
        · omega
        · split at hd <;> omega
      · have ih := szCells_mem s _ h (by omega) c hc
        omega
theorem szStringS_use' {s : List Str} {l : Int} (h : ¬ szStringS s l < 0) : (s.length : Int) ≤ l := by
  unfold szStringS at h
  split at h <;> omega
theorem szMach_ok {m : MS} (h : ¬ szMach m 1048576 < 0) : m.ok 1048576 1048576 := by
  unfold szMach at h
  split at h
  · omega
  · rename_i h1
    have hs := szCellS_le m.s 1048576 (by omega)
    split at h
    · omega
    · rename_i h2
      have hs1 : m.s.length ≤ 1048576 := by
        unfold szCellS at h1
        split at h1 <;> omega
      unfold szTouch at h2
      split at h2
      · omega
      · rename_i h3
        have hr := szStringS_le m.r (szCellS m.s 1048576) (by omega)
        have hr1 : m.r.length ≤ 1048576 := by
          have := szStringS_use' h3
          omega
        split at h2
        · omega
        · rename_i h4
          have hw1 : m.w.length ≤ 1048576 := by
            have := szStringS_use' h4
            omega
          refine ⟨hs1, hr1, hw1, fun c hc => ?_⟩
          unfold szCellS at h1
          split at h1
          · omega
          · have := szCells_mem m.s _ h1 (by omega) c hc
            omega
@[reducible] def seesMk (w : World) (x : MA) (m : MS) (k : Nat) : Prop := Sees w (.slice x.a0 m.s.length x.c0) 2 m.s.length ((markC m.s k).flatMap encC) ∧ Sees w (.slice x.a1 m.r.length x.c1) 1 m.r.length ((markS m.r (k + 2 * m.s.length)).map str) ∧ Sees w (.slice x.a2 m.w.length x.c2) 1 m.w.length ((markS m.w (k + 2 * m.s.length + m.r.length)).map str)
@[reducible] def mrk (x : MA) (m : MS) (k : Nat) : List Res := [.row (.slice x.a0 m.s.length x.c0) 80 2 m.s.length ((markC m.s k).flatMap encC), .row (.slice x.a1 m.r.length x.c1) 9 1 m.r.length ((markS m.r (k + 2 * m.s.length)).map str), .row (.slice x.a2 m.w.length x.c2) 9 1 m.w.length ((markS m.w (k + 2 * m.s.length + m.r.length)).map str)]
theorem N_szMach (x : MA) (m : MS) (hc : okC m.s) (hr : okS m.r) (hw : okS m.w) : Ct Tryz.prog 4 [mv x m, .int .i64 1048576] [] (fun w => seesM w x m) (fun v A' => v = .int .i64 (szMach m 1048576) ∧ A' = []) :=
  C_szMach x.a0 x.a1 x.a2 x.c0 x.c1 x.c2 m 1048576 (by omega) (by omega) hc hr hw
theorem N_toMach (x : MA) (m : MS) {S T : Nat} (hk : m.ok S T) (hS : S ≤ 1048576) (hT : T ≤ 1048576) : Ct Tryz.prog 7 [mv x m] [] (fun w => seesM w x m) (fun v A' => ∃ x' m', m = m' ∧ m'.ok S T ∧ v = mv x' m' ∧ A' = mr x' m') :=
  (C_toMach x.a0 x.a1 x.a2 x.c0 x.c1 x.c2 m (by have := hk.1; omega) (by have := hk.2.1; omega) (by have := hk.2.2.1; omega)).weak (fun _ h => h) fun v A' ⟨x0, y0, x1, y1, x2, y2, hv, hA⟩ => ⟨⟨x0, y0, x1, y1, x2, y2⟩, m, rfl, hk, hv, hA⟩
theorem N_eqMach (x y : MA) (m : MS) {S T : Nat} (hk : m.ok S T) (hS : S ≤ 100000000) (hT : T ≤ 100000000) : Ct Tryz.prog 10 [mv x m, mv y m] [] (fun w => seesM w x m ∧ seesM w y m) (fun v A' => v = .bool true ∧ A' = []) :=
  (C_eqMach x.a0 x.a1 x.a2 y.a0 y.a1 y.a2 x.c0 x.c1 x.c2 y.c0 y.c1 y.c2 m.s m.r m.w m.s m.r m.w (by have := hk.1; omega) (by have := hk.2.1; omega) (by have := hk.2.2.1; omega)).weak (fun w ⟨h1, h2⟩ => ⟨h1.1, h1.2.1, h1.2.2, h2⟩) fun v A' ⟨hv, hA⟩ => ⟨by rw [hv]; simp, hA⟩
theorem N_markMach (x : MA) (m : MS) (k : Nat) {S T : Nat} (hk : m.ok S T) (hS : S ≤ 10000000) (hT : T ≤ 10000000) (h0 : 0 < k) (h1 : k ≤ 1000000) : Ct Tryz.prog 12 [mv x m, .int .i64 ((k : Nat) : Int)] (mr x m) (fun _ => True) (fun v A' => v = .int .i64 ((k + 2 * m.s.length + m.r.length + m.w.length : Nat) : Int) ∧ A' = mrk x m k) :=
  C_markMach x.a0 x.a1 x.a2 x.c0 x.c1 x.c2 m.s m.r m.w k h0 (by have := hk.1; have := hk.2.1; have := hk.2.2.1; omega)
theorem N_heldMach (x : MA) (m : MS) (k : Nat) {S T : Nat} (hk : m.ok S T) (hS : S ≤ 10000000) (hT : T ≤ 10000000) (h0 : 0 < k) (h1 : k ≤ 1000000) : Ct Tryz.prog 13 [mv x m, .int .i64 ((k : Nat) : Int)] [] (fun w => seesMk w x m k) (fun v A' => v = .int .i64 ((k + 2 * m.s.length + m.r.length + m.w.length : Nat) : Int) ∧ A' = []) :=
  (C_heldMach x.a0 x.a1 x.a2 m.s.length m.r.length m.w.length x.c0 x.c1 x.c2 (markC m.s k) (markS m.r (k + 2 * m.s.length)) (markS m.w (k + 2 * m.s.length + m.r.length)) ((k : Nat) : Int) (markC_len _ _) (markS_len _ _) (markS_len _ _) (by omega)
    (by have := hk.1; have := hk.2.1; have := hk.2.2.1; rw [markC_len, markS_len, markS_len]; omega)).weak (fun _ h => h) fun v A' ⟨hv, hA⟩ => ⟨by rw [hv, heldM_mark], hA⟩


end Go.Proofs.YthdgcbdfcclgbaaGreatDoor

set_option linter.unusedSimpArgs false
set_option linter.unusedVariables false
set_option linter.unnecessarySimpa false
namespace Go.Proofs.YthdgcbdfcclgbaaGreatDoor
open Go Go.RowKit

theorem hasPrefix_eq (s p : Str) : Lib.hasPrefix s p = prefixB s p := by
  unfold Lib.hasPrefix prefixB
  rw [Bool.eq_iff_iff]
  simp only [List.isPrefixOf_iff_prefix, Bool.and_eq_true, decide_eq_true_eq]
  constructor
  · rintro ⟨t, rfl⟩; simp
  · rintro ⟨h1, h2⟩; exact ⟨s.drop p.length, (congrArg (fun q => q ++ s.drop p.length) h2).symm.trans (List.take_append_drop _ _)⟩
def suffixB (s p : Str) : Bool := decide (p.length ≤ s.length) && decide (s.drop (s.length - p.length) = p)
theorem hasSuffix_eq (s p : Str) : Lib.hasSuffix s p = suffixB s p := by
  unfold Lib.hasSuffix suffixB
  rw [Bool.eq_iff_iff]
  simp only [List.isSuffixOf_iff_suffix, Bool.and_eq_true, decide_eq_true_eq]
  constructor
  · rintro ⟨t, rfl⟩; simp
  · rintro ⟨h1, h2⟩; exact ⟨s.take (s.length - p.length), (congrArg (fun q => s.take (s.length - p.length) ++ q) h2).symm.trans (List.take_append_drop _ _)⟩
def cutPre (s p : Str) : Str × Bool := if prefixB s p = true then (s.drop p.length, true) else (s, false)
def cutSuf (s p : Str) : Str × Bool := if suffixB s p = true then (s.take (s.length - p.length), true) else (s, false)
theorem cutPre_lib (s p : Str) : cutPre s p = (Lib.trimPrefix s p, Lib.hasPrefix s p) := by
  unfold cutPre Lib.trimPrefix
  rw [hasPrefix_eq]
  cases prefixB s p <;> rfl
theorem cutSuf_lib (s p : Str) : cutSuf s p = (Lib.trimSuffix s p, Lib.hasSuffix s p) := by
  unfold cutSuf Lib.trimSuffix
  rw [hasSuffix_eq]
  cases suffixB s p <;> rfl
theorem cutPre_len (s p : Str) : (cutPre s p).1.length ≤ s.length := by unfold cutPre; split <;> simp
theorem cutSuf_len (s p : Str) : (cutSuf s p).1.length ≤ s.length := by unfold cutSuf; split <;> simp [List.length_take]

theorem N_hasPrefix (s p : Str) : Ct Tryz.prog 179 [str s, str p] [] (fun _ => True) (fun v A' => ∃ b, prefixB s p = b ∧ v = .bool b ∧ A' = []) := fun w hA _ => by
  refine (Tryz.strings_HasPrefix ⟨s.toArray⟩ ⟨p.toArray⟩ w).mono fun e w' h => ?_
  obtain ⟨rfl, rfl⟩ := h
  exact ⟨_, [], rfl, ⟨_, rfl, by simp only [← hasPrefix_eq], rfl⟩, hA.below (Below.refl _ _)⟩
theorem N_cutPrefix (s p : Str) : Ct Tryz.prog 182 [str s, str p] [] (fun _ => True) (fun v A' => ∃ u b, cutPre s p = (u, b) ∧ u.length ≤ s.length ∧ v = .tuple #[str u, .bool b] ∧ A' = []) := fun w hA _ => by
  refine (Tryz.strings_CutPrefix ⟨s.toArray⟩ ⟨p.toArray⟩ w).mono fun e w' h => ?_
  obtain ⟨rfl, rfl⟩ := h
  exact ⟨_, [], rfl, ⟨_, _, cutPre_lib s p, by have := cutPre_len s p; rw [cutPre_lib] at this; exact this, rfl, rfl⟩, hA.below (Below.refl _ _)⟩
theorem N_cutSuffix (s p : Str) (hs : s.length ≤ 1000000000000) : Ct Tryz.prog 140 [str s, str p] [] (fun _ => True) (fun v A' => ∃ u b, cutSuf s p = (u, b) ∧ u.length ≤ s.length ∧ v = .tuple #[str u, .bool b] ∧ A' = []) := fun w hA _ => by
  refine (Tryz.strings_CutSuffix ⟨s.toArray⟩ ⟨p.toArray⟩ w (by rw [size_mk]; omega)).mono fun e w' h => ?_
  obtain ⟨rfl, rfl⟩ := h
  exact ⟨_, [], rfl, ⟨_, _, cutSuf_lib s p, by have := cutSuf_len s p; rw [cutSuf_lib] at this; exact this, rfl, rfl⟩, hA.below (Below.refl _ _)⟩
end Go.Proofs.YthdgcbdfcclgbaaGreatDoor

set_option linter.unusedSimpArgs false
set_option linter.unusedVariables false
set_option linter.unnecessarySimpa false
namespace Go.Proofs.YthdgcbdfcclgbaaGreatDoor
open Go Go.RowKit
attribute [local irreducible] JL JC JQ JO LO PO JA JX Ct

theorem tmod10 (k : Nat) : (-((k : Nat) : Int)).tmod 10 = -((k % 10 : Nat) : Int) := by
  rw [Int.neg_tmod]; rfl
theorem tdiv10 (k : Nat) : (-((k : Nat) : Int)).tdiv 10 = -((k / 10 : Nat) : Int) := by
  rw [Int.neg_tdiv]; rfl
theorem dec_neg {k : Nat} (h : 0 < k) : dec (-((k : Nat) : Int)) = 45 :: mtAcc k [] := by
  unfold dec Lib.itoa
  rw [if_pos (by omega), show (-((k : Nat) : Int)).natAbs = k by omega, mtAcc_dec k k h (Nat.le_refl _)]

theorem C_sDecM (k : Nat) (h0 : 0 < k) (h1 : k ≤ 9223372036854775808) :
    Ct Tryz.prog 115 [.int .i64 (-((k : Nat) : Int))] [] (fun _ => True) (fun v A' => v = str (dec (-((k : Nat) : Int))) ∧ A' = []) := by
  refine Ct.intro Tryz.func115 rfl Tryz.ntmps115 (lb rfl) fun w0 hpre => ?_
  refine jD <| jF <| jA (jG (v := str []) rfl) <| jE <| jB <| jD <| jD <| jF <| jA (jC (v := iv (-((k : Nat) : Int))) rfl) <| jA (ju rfl rfl) ?_
  refine jE <| jB ?_
  by_cases h_1 : (-((k : Nat) : Int)) = 0
  · exfalso; omega
  refine jQ (cB (dF h_1)) <| jU <| jB <| jD <| jF <| jA (jC (v := iv (-((k : Nat) : Int))) rfl) <| jA (js rfl rfl) <| jA (jG (v := .bool (decide ((-((k : Nat) : Int)) < 0))) rfl) <| jE <| jB ?_
  refine jD <| jF <| jA (jG (v := str []) rfl) <| jE <| jB <| jD <| jm <| kE (fun k_ e_ L_ => ∃ k1 : Nat, ∃ o_ : Str, (k1 ≤ k) ∧ (o_.length = 0 ∨ o_.length + k1 ≤ k / 2 + 1) ∧ (mtAcc k1 o_ = mtAcc k []) ∧ e_ 0 = iv (-((k1 : Nat) : Int)) ∧ e_ 2 = str [] ∧ e_ 3 = .bool (decide ((-((k : Nat) : Int)) < 0)) ∧ e_ 4 = str o_ ∧ L_ = [] ∧ k_ = k1 + 1) _ ⟨k, [], by omega, (by simp), rfl, rfl, rfl, rfl, rfl, rfl, rfl⟩ ?_
  rintro _ e_2 _ ⟨k1, o_, hk, hl, hR, he_3, he_4, he_5, he_6, rfl, rfl⟩
  refine jD <| jD <| jF <| jA (jC (v := iv (-((k1 : Nat) : Int))) he_3) <| jA (kQ rfl rfl) <| jE <| jB ?_
  by_cases h_7 : (-((k1 : Nat) : Int)) = 0
  · refine jQ (cB (cN (dT h_7))) <| kB <| jn <| jn <| kC <| jB <| jD <| jD <| jF <| jA (jC (v := .bool (decide ((-((k : Nat) : Int)) < 0))) he_5) ?_
    refine jE <| jB ?_
    by_cases h_8 : (-((k : Nat) : Int)) < 0
    · refine jR (cB (dT h_8)) <| jD <| jF <| jA (jC (v := str o_) he_6) <| jA (kO rfl rfl (by (try simp only [List.length_append, List.length_cons, List.length_nil, List.length_drop, List.length_take]); omega)) <| jA (jG (v := str ([45] ++ o_)) rfl) <| jE <| jB <| jM <| jX ?_
      refine jV (.inl rfl) rfl (jN (v := str ([45] ++ o_)) rfl) (List.nil_sublist _) ?_
      refine ⟨?_, rfl⟩
      rw [dec_neg (by omega), ← hR, mtAcc_zero (by omega)]
      rfl
    exfalso; omega
  refine jR (cB (cN (dF h_7))) <| jU <| jB <| jm <| jD <| jF <| jA (jC (v := iv (-((k1 : Nat) : Int))) he_3) <| jA (PO.rem (c := -((k1 % 10 : Nat) : Int)) rfl rfl (by omega) (tmod10 k1)) <| jA (jG (v := iv (-((k1 % 10 : Nat) : Int))) rfl) <| jE ?_
  refine jB <| jD <| jD <| jF <| jA (jC (v := iv (-((k1 % 10 : Nat) : Int))) rfl) <| jA (js rfl rfl) <| jE <| jB ?_
  by_cases h_9 : (-((k1 % 10 : Nat) : Int)) < 0
  · refine jR (cB (dT h_9)) <| jF <| jA (jC (v := iv (-((k1 % 10 : Nat) : Int))) rfl) <| jA (PO.neg (c := ((k1 % 10 : Nat) : Int)) rfl (wr (by omega))) <| jA (jG (v := iv ((k1 % 10 : Nat) : Int)) rfl) <| jE <| jB <| jD <| jF <| jA (jC (v := iv ((k1 % 10 : Nat) : Int)) rfl) ?_
    refine jH rfl (jI [] Tryz.call150 rfl (C_figure (k1 % 10) (by omega)) rfl (fun _ _ => trivial)) ?_
    rintro _ _ ⟨_, ⟨rfl, rfl⟩, rfl⟩
    refine jH rfl (kI (ps := [(0, .int .u8 ((48 + (k1 % 10) : Nat) : Int))]) (cur := #[.int .u8 ((48 + (k1 % 10) : Nat) : Int)]) ki kq kw rfl (by kernel_rfl) (by decide) (by decide)) ?_
    rintro _ _ ⟨a_10, rfl, rfl⟩
    refine jT (LO.toStr 0 [UInt8.ofNat (48 + (k1 % 10))] rfl ki kk kY rfl (by rw [List.map_cons, List.map_nil, encB_of _ (by omega)])) <| jA (jC (v := str o_) he_6) <| jA (kO rfl rfl (by (try simp only [List.length_append, List.length_cons, List.length_nil, List.length_drop, List.length_take]); omega)) <| jA (jG (v := str ([UInt8.ofNat (48 + (k1 % 10))] ++ o_)) rfl) <| jE <| jB <| jF <| jA (jC (v := iv (-((k1 : Nat) : Int))) he_3) <| jA (PO.quo (c := -((k1 / 10 : Nat) : Int)) rfl rfl (by omega) ((congrArg _ (tdiv10 k1)).trans (wr (by omega)))) <| jA (jG (v := iv (-((k1 / 10 : Nat) : Int))) rfl) ?_
    refine jE <| jk <| jr [] (A := []) rfl ?_
    refine jt (k1 / 10 + 1) (by omega) ⟨(k1 / 10), [UInt8.ofNat (48 + (k1 % 10))] ++ o_, by omega, (by simp only [List.length_append, List.length_cons, List.length_nil]; omega), (by rw [mtAcc_step (by omega)]; exact hR), rfl, he_4, he_5, rfl, rfl, rfl⟩
  have hz_11 : -((k1 % 10 : Nat) : Int) = ((k1 % 10 : Nat) : Int) := by omega
  have hz_12 : -((k1 % 10 : Nat) : Int) = ((k1 % 10 : Nat) : Int) := by omega
  have hz_13 : -((k1 % 10 : Nat) : Int) = ((k1 % 10 : Nat) : Int) := by omega
  refine jQ (cB (dF h_9)) <| jU <| jB <| jD <| jF <| jA (jC (v := iv ((k1 % 10 : Nat) : Int)) (congrArg (Value.int .i64) hz_12)) ?_
  refine jH rfl (jI [] Tryz.call150 rfl (C_figure (k1 % 10) (by omega)) rfl (fun _ _ => trivial)) ?_
  rintro _ _ ⟨_, ⟨rfl, rfl⟩, rfl⟩
  refine jH rfl (kI (ps := [(0, .int .u8 ((48 + (k1 % 10) : Nat) : Int))]) (cur := #[.int .u8 ((48 + (k1 % 10) : Nat) : Int)]) ki kq kw rfl (by kernel_rfl) (by decide) (by decide)) ?_
  rintro _ _ ⟨a_14, rfl, rfl⟩
  refine jT (LO.toStr 0 [UInt8.ofNat (48 + (k1 % 10))] rfl ki kk kY rfl (by rw [List.map_cons, List.map_nil, encB_of _ (by omega)])) <| jA (jC (v := str o_) he_6) <| jA (kO rfl rfl (by (try simp only [List.length_append, List.length_cons, List.length_nil, List.length_drop, List.length_take]); omega)) <| jA (jG (v := str ([UInt8.ofNat (48 + (k1 % 10))] ++ o_)) rfl) <| jE <| jB <| jF <| jA (jC (v := iv (-((k1 : Nat) : Int))) he_3) <| jA (PO.quo (c := -((k1 / 10 : Nat) : Int)) rfl rfl (by omega) ((congrArg _ (tdiv10 k1)).trans (wr (by omega)))) <| jA (jG (v := iv (-((k1 / 10 : Nat) : Int))) rfl) ?_
  refine jE <| jk <| jr [] (A := []) rfl ?_
  refine jt (k1 / 10 + 1) (by omega) ⟨(k1 / 10), [UInt8.ofNat (48 + (k1 % 10))] ++ o_, by omega, (by simp only [List.length_append, List.length_cons, List.length_nil]; omega), (by rw [mtAcc_step (by omega)]; exact hR), rfl, he_4, he_5, rfl, rfl, rfl⟩

theorem C_sDecP (k : Nat) (h1 : k ≤ 9223372036854775807) :
    Ct Tryz.prog 115 [.int .i64 ((k : Nat) : Int)] [] (fun _ => True) (fun v A' => v = str (dec ((k : Nat) : Int)) ∧ A' = []) := by
  refine Ct.intro Tryz.func115 rfl Tryz.ntmps115 (lb rfl) fun w0 hpre => ?_
  refine jD <| jF <| jA (jG (v := str []) rfl) <| jE <| jB <| jD <| jD <| jF <| jA (jC (v := nv k) rfl) <| jA (ju rfl rfl) ?_
  refine jE <| jB ?_
  by_cases h_1 : ((k : Nat) : Int) = 0
  · refine jR (cB (dT h_1)) <| jD <| jF <| jA (jG (v := str [48]) rfl) <| jE <| jB <| jM <| jX <| jV (.inl rfl) rfl (jN (v := str [48]) rfl) (List.nil_sublist _) ?_
    refine ⟨?_, rfl⟩
    rw [show ((k : Nat) : Int) = 0 by omega, dec_zero]
  refine jQ (cB (dF h_1)) <| jU <| jB <| jD <| jF <| jA (jC (v := nv k) rfl) <| jA (js rfl rfl) <| jA (jG (v := .bool (decide (((k : Nat) : Int) < 0))) rfl) <| jE <| jB ?_
  refine jD <| jF <| jA (jG (v := str []) rfl) <| jE <| jB <| jD <| jm <| kE (fun k_ e_ L_ => ∃ k1 : Nat, ∃ o_ : Str, (k1 ≤ k) ∧ (o_.length + k1 ≤ k) ∧ (mtAcc k1 o_ = mtAcc k []) ∧ e_ 0 = nv k1 ∧ e_ 2 = str [] ∧ e_ 3 = .bool (decide (((k : Nat) : Int) < 0)) ∧ e_ 4 = str o_ ∧ L_ = [] ∧ k_ = k1 + 1) _ ⟨k, [], by omega, (by simp), rfl, rfl, rfl, rfl, rfl, rfl, rfl⟩ ?_
  rintro _ e_2 _ ⟨k1, o_, hk, hl, hR, he_3, he_4, he_5, he_6, rfl, rfl⟩
  refine jD <| jD <| jF <| jA (jC (v := nv k1) he_3) <| jA (kQ rfl rfl) <| jE <| jB ?_
  by_cases h_7 : ((k1 : Nat) : Int) = 0
  · refine jQ (cB (cN (dT h_7))) <| kB <| jn <| jn <| kC <| jB <| jD <| jD <| jF <| jA (jC (v := .bool (decide (((k : Nat) : Int) < 0))) he_5) ?_
    refine jE <| jB ?_
    by_cases h_8 : ((k : Nat) : Int) < 0
    · exfalso; omega
    refine jQ (cB (dF h_8)) <| jU <| jB <| jD <| jF <| jA (jC (v := str o_) he_6) <| jA (jG (v := str o_) rfl) <| jE <| jB <| jM ?_
    refine jV (.inl rfl) rfl (jN (v := str o_) rfl) (List.nil_sublist _) ?_
    refine ⟨?_, rfl⟩
    rw [dec_nat (by omega), ← hR, mtAcc_zero (by omega)]
  refine jR (cB (cN (dF h_7))) <| jU <| jB <| jm <| jD <| jF <| jA (jC (v := nv k1) he_3) <| jA (PO.remN (c := ((k1 % 10 : Nat) : Int)) rfl rfl (by omega) (by omega) (by omega)) <| jA (jG (v := iv ((k1 % 10 : Nat) : Int)) rfl) <| jE ?_
  refine jB <| jD <| jD <| jF <| jA (jC (v := iv ((k1 % 10 : Nat) : Int)) rfl) <| jA (js rfl rfl) <| jE <| jB ?_
  by_cases h_9 : ((k1 % 10 : Nat) : Int) < 0
  · exfalso; omega
  refine jQ (cB (dF h_9)) <| jU <| jB <| jD <| jF <| jA (jC (v := iv ((k1 % 10 : Nat) : Int)) rfl) ?_
  refine jH rfl (jI [] Tryz.call150 rfl (C_figure (k1 % 10) (by omega)) rfl (fun _ _ => trivial)) ?_
  rintro _ _ ⟨_, ⟨rfl, rfl⟩, rfl⟩
  refine jH rfl (kI (ps := [(0, .int .u8 ((48 + (k1 % 10) : Nat) : Int))]) (cur := #[.int .u8 ((48 + (k1 % 10) : Nat) : Int)]) ki kq kw rfl (by kernel_rfl) (by decide) (by decide)) ?_
  rintro _ _ ⟨a_10, rfl, rfl⟩
  refine jT (LO.toStr 0 [UInt8.ofNat (48 + (k1 % 10))] rfl ki kk kY rfl (by rw [List.map_cons, List.map_nil, encB_of _ (by omega)])) <| jA (jC (v := str o_) he_6) <| jA (kO rfl rfl (by (try simp only [List.length_append, List.length_cons, List.length_nil, List.length_drop, List.length_take]); omega)) <| jA (jG (v := str ([UInt8.ofNat (48 + (k1 % 10))] ++ o_)) rfl) <| jE <| jB <| jF <| jA (jC (v := nv k1) he_3) <| jA (PO.quoN (c := ((k1 / 10 : Nat) : Int)) rfl rfl (by omega) (by omega) (by omega) (wr (by omega))) <| jA (jG (v := iv ((k1 / 10 : Nat) : Int)) rfl) ?_
  refine jE <| jk <| jr [] (A := []) rfl ?_
  refine jt (k1 / 10 + 1) (by omega) ⟨(k1 / 10), [UInt8.ofNat (48 + (k1 % 10))] ++ o_, by omega, (by simp only [List.length_append, List.length_cons, List.length_nil]; omega), (by rw [mtAcc_step (by omega)]; exact hR), rfl, he_4, he_5, rfl, rfl, rfl⟩

theorem N_sDec (n : Int) (hn : -9223372036854775808 ≤ n ∧ n ≤ 9223372036854775807) : Ct Tryz.prog 115 [.int .i64 n] [] (fun _ => True) (fun v A' => ∃ r0, dec n = r0 ∧ r0.length ≤ 21 ∧ v = str r0 ∧ A' = []) := by
  have h21 := dec_len21 hn.1 hn.2
  by_cases h : 0 ≤ n
  · have := C_sDecP n.toNat (by omega)
    rw [Int.toNat_of_nonneg h] at this
    exact this.weak (fun _ h => h) fun v A' ⟨h1, h2⟩ => ⟨_, rfl, h21, h1, h2⟩
  · have := C_sDecM (-n).toNat (by omega) (by omega)
    rw [Int.toNat_of_nonneg (by omega), Int.neg_neg] at this
    exact this.weak (fun _ h => h) fun v A' ⟨h1, h2⟩ => ⟨_, rfl, h21, h1, h2⟩

theorem N_dec (n : Int) (hn : -9223372036854775808 ≤ n ∧ n ≤ 9223372036854775807) : Ct Tryz.prog 71 [.int .i64 n] [] (fun _ => True) (fun v A' => ∃ r0, dec n = r0 ∧ r0.length ≤ 21 ∧ v = str r0 ∧ A' = []) :=
  (C_decimal n hn.1 hn.2).weak (fun _ h => h) fun v A' ⟨h1, h2⟩ => ⟨_, rfl, dec_len21 hn.1 hn.2, h1, h2⟩

theorem N_numOf (t : Str) (ht : t.length ≤ 1000000000000) : Ct Tryz.prog 141 [str t] [] (fun _ => True) (fun v A' => ∃ r0, numOf t = r0 ∧ (0 ≤ r0 ∧ r0 ≤ 999) ∧ v = .int .i64 r0 ∧ A' = []) :=
  (C_numOf t (by omega)).weak (fun _ h => h) fun v A' ⟨h1, h2⟩ => ⟨_, rfl, numOf_lo t, h1, h2⟩

theorem N_sNumOf (t : Str) (ht : t.length ≤ 1000000000000) : Ct Tryz.prog 107 [str t] [] (fun _ => True) (fun v A' => ∃ r0, numOf t = r0 ∧ (0 ≤ r0 ∧ r0 ≤ 999) ∧ v = .int .i64 r0 ∧ A' = []) :=
  (C_sNumOf t (by omega)).weak (fun _ h => h) fun v A' ⟨h1, h2⟩ => ⟨_, rfl, numOf_lo t, h1, h2⟩

theorem N_sNumAt (x : MA) (m : MS) {S T : Nat} (hk : m.ok S T) (hS : S ≤ 900000000) (hT : T ≤ 900000000) (key : Str) :
    Ct Tryz.prog 84 [mv x m, str key] (mr x m) (fun _ => True) (fun v A' => ∃ x' m' r0, MS.num m key = (m', r0) ∧ m'.ok (S) (T + 1) ∧ (0 ≤ r0 ∧ r0 ≤ 999) ∧ v = .tuple #[mv x' m', .int .i64 r0] ∧ A' = mr x' m') := by
  refine Ct.intro Tryz.func84 rfl Tryz.ntmps84 (lb rfl) fun w0 hpre => ?_
  refine jD <| jF ?_
  refine jH rfl (jv (cs := (mc x m)) rfl rfl) ?_
  rintro _ _ ⟨b_1, rfl, rfl⟩
  refine jH rfl (jh (z := zM) (cs := zC) kd rfl) ?_
  rintro _ _ ⟨b_2, rfl, rfl⟩
  refine jA (jG (v := iv 0) rfl) <| jE <| jB <| jD <| jF <| jT (jP 1 x m rfl rfl) <| jA (jC (v := str key) rfl) ?_
  refine jH rfl (jI [2, 2, 2] Tryz.call102 rfl (N_sLook x m hk (by omega) (by omega) key) rfl (fun _ _ => trivial)) ?_
  rintro _ _ ⟨_, ⟨x_5, m_6, u_7, e_3, k_4, f_8, rfl, rfl⟩, rfl⟩
  refine jA (jC (v := .tuple #[mv x_5 m_6, str u_7]) rfl) <| jA (jS (v := mv x_5 m_6) rfl rfl) <| jA (jS (v := str u_7) rfl rfl) ?_
  refine jH rfl (jW 4 x_5 m_6 rfl rfl rfl rfl) ?_
  rintro _ _ rfl
  refine jA (jG (v := str u_7) rfl) <| jE <| jB <| jD <| jq [mb b_1 x_5 m_6] 3 mixed (by simp) <| jl 0 rfl (jP 0 x_5 m_6 rfl rfl) <| jK 1 rfl (jC (v := str u_7) rfl) <| jL (i := 2) ?_
  refine jO rfl rfl (jI [] Tryz.call107 rfl (N_sNumOf u_7 (by omega)) rfl (fun _ _ => trivial)) ?_
  rintro _ _ ⟨_, ⟨n_15, e_13, f_16, rfl, rfl⟩, rfl⟩
  refine ⟨(by simp), ?_⟩
  refine jL (i := 3) ?_
  refine jo rfl (jW 3 x_5 m_6 rfl rfl rfl rfl) ?_
  rintro _ _ rfl
  refine jK 4 rfl (jG (v := iv n_15) rfl) <| kG (by kernel_rfl) <| jB <| jM <| jj (.inl rfl) rfl (je (jP 3 x_5 m_6 rfl rfl) ⟨_, rfl⟩) (jN (v := iv n_15) rfl) (tS 3 _) ?_
  exact ⟨x_5, m_6, n_15, (by simp only [MS.num, e_3, e_13, SB]; (repeat (first | rw [if_pos (by omega)] | rw [if_neg (by omega)])); all_goals (first | rfl | simp only [SB, e_3, e_13])), (k_4.mono (by omega) (by omega)), (by first | omega | (simp only [LE]; omega)), rfl, rfl⟩

theorem N_sSetNum (x : MA) (m : MS) {S T : Nat} (hk : m.ok S T) (hS : S ≤ 900000000) (hT : T ≤ 900000000) (key : Str) (n : Int) (hkey : key.length ≤ 1000000000000) (hn : -9223372036854775808 ≤ n ∧ n ≤ 9223372036854775807) :
    Ct Tryz.prog 90 [mv x m, str key, .int .i64 n] (mr x m) (fun _ => True) (fun v A' => ∃ x' m', MS.setNum m key n = m' ∧ m'.ok (S + 1) (T + 1) ∧ v = mv x' m' ∧ A' = mr x' m') := by
  refine Ct.intro Tryz.func90 rfl Tryz.ntmps90 (lb rfl) fun w0 hpre => ?_
  refine jD <| jF ?_
  refine jH rfl (jv (cs := (mc x m)) rfl rfl) ?_
  rintro _ _ ⟨b_1, rfl, rfl⟩
  refine jH rfl (jh (z := zM) (cs := zC) kd rfl) ?_
  rintro _ _ ⟨b_2, rfl, rfl⟩
  refine jE <| jB <| jD <| jD <| jF <| jA (jC (v := iv n) rfl) ?_
  refine jH rfl (jI [] Tryz.call86 rfl (C_l01In n 1 999) rfl (fun _ _ => trivial)) ?_
  rintro _ _ ⟨_, ⟨rfl, rfl⟩, rfl⟩
  refine jA (kA rfl) <| jE <| jB ?_
  rcases Bool.eq_false_or_eq_true (decide (1 ≤ n) && decide (n ≤ 999)) with h_3 | h_3
  · have h_3d := h_3
    simp only [Bool.and_eq_true, Bool.and_eq_false_iff, decide_eq_true_eq, decide_eq_false_iff_not] at h_3d
    refine jQ (cB (cN h_3)) <| jU <| jB <| jD <| jq [mb b_1 x m] 4 mixed (by simp) <| jl 0 rfl (jP 0 x m rfl rfl) <| jK 1 rfl (jC (v := str key) rfl) <| jK 2 rfl (jC (v := iv n) rfl) <| jL (i := 3) ?_
    refine jO rfl rfl (jI [] Tryz.call115 rfl (N_sDec n (by omega)) rfl (fun _ _ => trivial)) ?_
    rintro _ _ ⟨_, ⟨u_10, e_8, f_11, rfl, rfl⟩, rfl⟩
    refine ⟨(by simp), ?_⟩
    refine jL (i := 4) ?_
    refine jo rfl (jI [2, 2, 2] Tryz.call92 rfl (N_sLay x m hk (by omega) (by omega) key u_10 (by omega)) rfl (fun _ _ => trivial)) ?_
    rintro _ _ ⟨_, ⟨x_18, m_19, e_16, k_17, rfl, rfl⟩, rfl⟩
    refine jL (i := 5) ?_
    refine jp rfl (jW 3 x_18 m_19 rfl rfl rfl rfl) ?_
    rintro _ _ rfl
    refine jB <| jM <| jV (.inl rfl) rfl (je (jP 3 x_18 m_19 rfl rfl) ⟨_, rfl⟩) (tS 3 _) ?_
    exact ⟨x_18, m_19, (by simp only [MS.setNum, h_3, e_8, e_16, SB]; (repeat (first | rw [if_pos (by omega)] | rw [if_neg (by omega)])); all_goals (first | rfl | simp only [SB, h_3, e_8, e_16])), (k_17.mono (by omega) (by omega)), rfl, rfl⟩
  have h_3d := h_3
  simp only [Bool.and_eq_true, Bool.and_eq_false_iff, decide_eq_true_eq, decide_eq_false_iff_not] at h_3d
  refine jR (cB (cN h_3)) <| jD <| jF <| jT (jP 1 x m rfl rfl) <| jA (jC (v := str key) rfl) ?_
  refine jH rfl (jI [2, 2, 2] Tryz.call92 rfl (N_sLayNil x m hk (by omega) (by omega) key (by omega)) rfl (fun _ _ => trivial)) ?_
  rintro _ _ ⟨_, ⟨x_22, m_23, e_20, k_21, rfl, rfl⟩, rfl⟩
  refine jH rfl (jW 3 x_22 m_23 rfl rfl rfl rfl) ?_
  rintro _ _ rfl
  refine jE <| jB <| jM <| jX <| jV (.inl rfl) rfl (je (jP 3 x_22 m_23 rfl rfl) ⟨_, rfl⟩) (tS 3 _) ?_
  exact ⟨x_22, m_23, (by simp only [MS.setNum, h_3, e_20, SB]; (repeat (first | rw [if_pos (by omega)] | rw [if_neg (by omega)])); all_goals (first | rfl | simp only [SB, h_3, e_20])), (k_21.mono (by omega) (by omega)), rfl, rfl⟩

theorem N_keyNum {hb tb : Nat} (h : Str) (n : Int) (t : Str) (hh : h.length ≤ hb) (hn : -9223372036854775808 ≤ n ∧ n ≤ 9223372036854775807) (ht : t.length ≤ tb) (hq : hb + tb ≤ 1000000) :
    Ct Tryz.prog 129 [str h, .int .i64 n, str t] ([]) (fun _ => True) (fun v A' => ∃ r0, keyNum h n t = r0 ∧ r0.length ≤ hb + 21 + tb ∧ v = str r0 ∧ A' = []) := by
  refine Ct.intro Tryz.func129 rfl Tryz.ntmps129 (lb rfl) fun w0 hpre => ?_
  refine jD <| jF <| jA (jG (v := str []) rfl) <| jE <| jB <| jD <| jF <| jA (jC (v := str h) rfl) <| jA (jC (v := iv n) rfl) ?_
  refine jH rfl (jI [] Tryz.call71 rfl (N_dec n (by omega)) rfl (fun _ _ => trivial)) ?_
  rintro _ _ ⟨_, ⟨u_3, e_1, f_4, rfl, rfl⟩, rfl⟩
  refine jA (kO rfl rfl (by (try simp only [List.length_append, List.length_cons, List.length_nil, List.length_drop, List.length_take]); omega)) <| jA (jC (v := str t) rfl) <| jA (kO rfl rfl (by (try simp only [List.length_append, List.length_cons, List.length_nil, List.length_drop, List.length_take]); omega)) <| jA (jG (v := str ((h ++ u_3) ++ t)) rfl) <| jE <| jB <| jM <| jV (.inl rfl) rfl (jN (v := str ((h ++ u_3) ++ t)) rfl) (List.nil_sublist _) ?_
  exact ⟨((h ++ u_3) ++ t), (by simp only [keyNum, e_1, SB]; (repeat (first | rw [if_pos (by omega)] | rw [if_neg (by omega)])); all_goals (first | rfl | simp only [SB, e_1])), (by first | omega | (simp only [LE]; omega)), rfl, rfl⟩

theorem N_sKeyNum {hb tb : Nat} (h : Str) (n : Int) (t : Str) (hh : h.length ≤ hb) (hn : -9223372036854775808 ≤ n ∧ n ≤ 9223372036854775807) (ht : t.length ≤ tb) (hq : hb + tb ≤ 1000000) :
    Ct Tryz.prog 91 [str h, .int .i64 n, str t] ([]) (fun _ => True) (fun v A' => ∃ r0, keyNum h n t = r0 ∧ r0.length ≤ hb + 21 + tb ∧ v = str r0 ∧ A' = []) := by
  refine Ct.intro Tryz.func91 rfl Tryz.ntmps91 (lb rfl) fun w0 hpre => ?_
  refine jD <| jF <| jA (jG (v := str []) rfl) <| jE <| jB <| jD <| jF <| jA (jC (v := str h) rfl) <| jA (jC (v := iv n) rfl) ?_
  refine jH rfl (jI [] Tryz.call115 rfl (N_sDec n (by omega)) rfl (fun _ _ => trivial)) ?_
  rintro _ _ ⟨_, ⟨u_3, e_1, f_4, rfl, rfl⟩, rfl⟩
  refine jA (kO rfl rfl (by (try simp only [List.length_append, List.length_cons, List.length_nil, List.length_drop, List.length_take]); omega)) <| jA (jC (v := str t) rfl) <| jA (kO rfl rfl (by (try simp only [List.length_append, List.length_cons, List.length_nil, List.length_drop, List.length_take]); omega)) <| jA (jG (v := str ((h ++ u_3) ++ t)) rfl) <| jE <| jB <| jM <| jV (.inl rfl) rfl (jN (v := str ((h ++ u_3) ++ t)) rfl) (List.nil_sublist _) ?_
  exact ⟨((h ++ u_3) ++ t), (by simp only [keyNum, e_1, SB]; (repeat (first | rw [if_pos (by omega)] | rw [if_neg (by omega)])); all_goals (first | rfl | simp only [SB, e_1])), (by first | omega | (simp only [LE]; omega)), rfl, rfl⟩

theorem N_pipeKey {tb : Nat} (id : Int) (t : Str) (hid : -9223372036854775808 ≤ id ∧ id ≤ 9223372036854775807) (ht : t.length ≤ tb) (hq : tb ≤ 900000) :
    Ct Tryz.prog 134 [.int .i64 id, str t] ([]) (fun _ => True) (fun v A' => ∃ r0, keyNum ([112, 47] : Str) id t = r0 ∧ r0.length ≤ 2 + 21 + tb ∧ v = str r0 ∧ A' = []) := by
  refine Ct.intro Tryz.func134 rfl Tryz.ntmps134 (lb rfl) fun w0 hpre => ?_
  refine jD <| jF <| jA (jG (v := str []) rfl) <| jE <| jB <| jD <| jF <| jA (jC (v := iv id) rfl) <| jA (jC (v := str t) rfl) ?_
  refine jH rfl (jI [] Tryz.call129 rfl (N_keyNum [112, 47] id t (show List.length ([112, 47] : Str) ≤ 2 by decide) (by omega) (Nat.le_refl _) (by omega)) rfl (fun _ _ => trivial)) ?_
  rintro _ _ ⟨_, ⟨u_3, e_1, f_4, rfl, rfl⟩, rfl⟩
  refine jA (jG (v := str u_3) rfl) <| jE <| jB <| jM <| jV (.inl rfl) rfl (jN (v := str u_3) rfl) (List.nil_sublist _) ?_
  exact ⟨u_3, (by simp only [if_true, e_1, SB]; (repeat (first | rw [if_pos (by omega)] | rw [if_neg (by omega)])); all_goals (first | rfl | simp only [SB, e_1])), (by first | omega | (simp only [LE]; omega)), rfl, rfl⟩

theorem N_procKey {tb : Nat} (id : Int) (t : Str) (hid : -9223372036854775808 ≤ id ∧ id ≤ 9223372036854775807) (ht : t.length ≤ tb) (hq : tb ≤ 900000) :
    Ct Tryz.prog 119 [.int .i64 id, str t] ([]) (fun _ => True) (fun v A' => ∃ r0, keyNum ([114, 47] : Str) id t = r0 ∧ r0.length ≤ 2 + 21 + tb ∧ v = str r0 ∧ A' = []) := by
  refine Ct.intro Tryz.func119 rfl Tryz.ntmps119 (lb rfl) fun w0 hpre => ?_
  refine jD <| jF <| jA (jG (v := str []) rfl) <| jE <| jB <| jD <| jF <| jA (jC (v := iv id) rfl) <| jA (jC (v := str t) rfl) ?_
  refine jH rfl (jI [] Tryz.call129 rfl (N_keyNum [114, 47] id t (show List.length ([114, 47] : Str) ≤ 2 by decide) (by omega) (Nat.le_refl _) (by omega)) rfl (fun _ _ => trivial)) ?_
  rintro _ _ ⟨_, ⟨u_3, e_1, f_4, rfl, rfl⟩, rfl⟩
  refine jA (jG (v := str u_3) rfl) <| jE <| jB <| jM <| jV (.inl rfl) rfl (jN (v := str u_3) rfl) (List.nil_sublist _) ?_
  exact ⟨u_3, (by simp only [if_true, e_1, SB]; (repeat (first | rw [if_pos (by omega)] | rw [if_neg (by omega)])); all_goals (first | rfl | simp only [SB, e_1])), (by first | omega | (simp only [LE]; omega)), rfl, rfl⟩

theorem N_signalKey {tb : Nat} (id : Int) (t : Str) (hid : -9223372036854775808 ≤ id ∧ id ≤ 9223372036854775807) (ht : t.length ≤ tb) (hq : tb ≤ 900000) :
    Ct Tryz.prog 143 [.int .i64 id, str t] ([]) (fun _ => True) (fun v A' => ∃ r0, keyNum ([103, 47] : Str) id t = r0 ∧ r0.length ≤ 2 + 21 + tb ∧ v = str r0 ∧ A' = []) := by
  refine Ct.intro Tryz.func143 rfl Tryz.ntmps143 (lb rfl) fun w0 hpre => ?_
  refine jD <| jF <| jA (jG (v := str []) rfl) <| jE <| jB <| jD <| jF <| jA (jC (v := iv id) rfl) <| jA (jC (v := str t) rfl) ?_
  refine jH rfl (jI [] Tryz.call129 rfl (N_keyNum [103, 47] id t (show List.length ([103, 47] : Str) ≤ 2 by decide) (by omega) (Nat.le_refl _) (by omega)) rfl (fun _ _ => trivial)) ?_
  rintro _ _ ⟨_, ⟨u_3, e_1, f_4, rfl, rfl⟩, rfl⟩
  refine jA (jG (v := str u_3) rfl) <| jE <| jB <| jM <| jV (.inl rfl) rfl (jN (v := str u_3) rfl) (List.nil_sublist _) ?_
  exact ⟨u_3, (by simp only [if_true, e_1, SB]; (repeat (first | rw [if_pos (by omega)] | rw [if_neg (by omega)])); all_goals (first | rfl | simp only [SB, e_1])), (by first | omega | (simp only [LE]; omega)), rfl, rfl⟩

theorem N_l08Key {tb : Nat} (id : Int) (t : Str) (hid : -9223372036854775808 ≤ id ∧ id ≤ 9223372036854775807) (ht : t.length ≤ tb) (hq : tb ≤ 900000) :
    Ct Tryz.prog 98 [.int .i64 id, str t] ([]) (fun _ => True) (fun v A' => ∃ r0, keyNum ([112, 47] : Str) id t = r0 ∧ r0.length ≤ 2 + 21 + tb ∧ v = str r0 ∧ A' = []) := by
  refine Ct.intro Tryz.func98 rfl Tryz.ntmps98 (lb rfl) fun w0 hpre => ?_
  refine jD <| jF <| jA (jG (v := str []) rfl) <| jE <| jB <| jD <| jF <| jA (jC (v := iv id) rfl) <| jA (jC (v := str t) rfl) ?_
  refine jH rfl (jI [] Tryz.call91 rfl (N_sKeyNum [112, 47] id t (show List.length ([112, 47] : Str) ≤ 2 by decide) (by omega) (Nat.le_refl _) (by omega)) rfl (fun _ _ => trivial)) ?_
  rintro _ _ ⟨_, ⟨u_3, e_1, f_4, rfl, rfl⟩, rfl⟩
  refine jA (jG (v := str u_3) rfl) <| jE <| jB <| jM <| jV (.inl rfl) rfl (jN (v := str u_3) rfl) (List.nil_sublist _) ?_
  exact ⟨u_3, (by simp only [if_true, e_1, SB]; (repeat (first | rw [if_pos (by omega)] | rw [if_neg (by omega)])); all_goals (first | rfl | simp only [SB, e_1])), (by first | omega | (simp only [LE]; omega)), rfl, rfl⟩

theorem N_l09Key {tb : Nat} (id : Int) (t : Str) (hid : -9223372036854775808 ≤ id ∧ id ≤ 9223372036854775807) (ht : t.length ≤ tb) (hq : tb ≤ 900000) :
    Ct Tryz.prog 85 [.int .i64 id, str t] ([]) (fun _ => True) (fun v A' => ∃ r0, keyNum ([114, 47] : Str) id t = r0 ∧ r0.length ≤ 2 + 21 + tb ∧ v = str r0 ∧ A' = []) := by
  refine Ct.intro Tryz.func85 rfl Tryz.ntmps85 (lb rfl) fun w0 hpre => ?_
  refine jD <| jF <| jA (jG (v := str []) rfl) <| jE <| jB <| jD <| jF <| jA (jC (v := iv id) rfl) <| jA (jC (v := str t) rfl) ?_
  refine jH rfl (jI [] Tryz.call91 rfl (N_sKeyNum [114, 47] id t (show List.length ([114, 47] : Str) ≤ 2 by decide) (by omega) (Nat.le_refl _) (by omega)) rfl (fun _ _ => trivial)) ?_
  rintro _ _ ⟨_, ⟨u_3, e_1, f_4, rfl, rfl⟩, rfl⟩
  refine jA (jG (v := str u_3) rfl) <| jE <| jB <| jM <| jV (.inl rfl) rfl (jN (v := str u_3) rfl) (List.nil_sublist _) ?_
  exact ⟨u_3, (by simp only [if_true, e_1, SB]; (repeat (first | rw [if_pos (by omega)] | rw [if_neg (by omega)])); all_goals (first | rfl | simp only [SB, e_1])), (by first | omega | (simp only [LE]; omega)), rfl, rfl⟩

theorem N_l10Key {tb : Nat} (id : Int) (t : Str) (hid : -9223372036854775808 ≤ id ∧ id ≤ 9223372036854775807) (ht : t.length ≤ tb) (hq : tb ≤ 900000) :
    Ct Tryz.prog 104 [.int .i64 id, str t] ([]) (fun _ => True) (fun v A' => ∃ r0, keyNum ([103, 47] : Str) id t = r0 ∧ r0.length ≤ 2 + 21 + tb ∧ v = str r0 ∧ A' = []) := by
  refine Ct.intro Tryz.func104 rfl Tryz.ntmps104 (lb rfl) fun w0 hpre => ?_
  refine jD <| jF <| jA (jG (v := str []) rfl) <| jE <| jB <| jD <| jF <| jA (jC (v := iv id) rfl) <| jA (jC (v := str t) rfl) ?_
  refine jH rfl (jI [] Tryz.call91 rfl (N_sKeyNum [103, 47] id t (show List.length ([103, 47] : Str) ≤ 2 by decide) (by omega) (Nat.le_refl _) (by omega)) rfl (fun _ _ => trivial)) ?_
  rintro _ _ ⟨_, ⟨u_3, e_1, f_4, rfl, rfl⟩, rfl⟩
  refine jA (jG (v := str u_3) rfl) <| jE <| jB <| jM <| jV (.inl rfl) rfl (jN (v := str u_3) rfl) (List.nil_sublist _) ?_
  exact ⟨u_3, (by simp only [if_true, e_1, SB]; (repeat (first | rw [if_pos (by omega)] | rw [if_neg (by omega)])); all_goals (first | rfl | simp only [SB, e_1])), (by first | omega | (simp only [LE]; omega)), rfl, rfl⟩

theorem N_linksKey (id : Int) (hid : -9223372036854775808 ≤ id ∧ id ≤ 9223372036854775807) :
    Ct Tryz.prog 126 [.int .i64 id] ([]) (fun _ => True) (fun v A' => ∃ r0, (fun i => keyNum ([105, 47] : Str) i ([47, 108] : Str)) id = r0 ∧ r0.length ≤ 30 ∧ v = str r0 ∧ A' = []) := by
  refine Ct.intro Tryz.func126 rfl Tryz.ntmps126 (lb rfl) fun w0 hpre => ?_
  refine jD <| jF <| jA (jG (v := str []) rfl) <| jE <| jB <| jD <| jF <| jA (jC (v := iv id) rfl) ?_
  refine jH rfl (jI [] Tryz.call129 rfl (N_keyNum [105, 47] id [47, 108] (show List.length ([105, 47] : Str) ≤ 2 by decide) (by omega) (show List.length ([47, 108] : Str) ≤ 2 by decide) (by omega)) rfl (fun _ _ => trivial)) ?_
  rintro _ _ ⟨_, ⟨u_3, e_1, f_4, rfl, rfl⟩, rfl⟩
  refine jA (jG (v := str u_3) rfl) <| jE <| jB <| jM <| jV (.inl rfl) rfl (jN (v := str u_3) rfl) (List.nil_sublist _) ?_
  exact ⟨u_3, (by simp only [if_true, e_1, SB]; (repeat (first | rw [if_pos (by omega)] | rw [if_neg (by omega)])); all_goals (first | rfl | simp only [SB, e_1])), (by first | omega | (simp only [LE]; omega)), rfl, rfl⟩

theorem N_sizeKey (id : Int) (hid : -9223372036854775808 ≤ id ∧ id ≤ 9223372036854775807) :
    Ct Tryz.prog 159 [.int .i64 id] ([]) (fun _ => True) (fun v A' => ∃ r0, (fun i => keyNum ([105, 47] : Str) i ([47, 115] : Str)) id = r0 ∧ r0.length ≤ 30 ∧ v = str r0 ∧ A' = []) := by
  refine Ct.intro Tryz.func159 rfl Tryz.ntmps159 (lb rfl) fun w0 hpre => ?_
  refine jD <| jF <| jA (jG (v := str []) rfl) <| jE <| jB <| jD <| jF <| jA (jC (v := iv id) rfl) ?_
  refine jH rfl (jI [] Tryz.call129 rfl (N_keyNum [105, 47] id [47, 115] (show List.length ([105, 47] : Str) ≤ 2 by decide) (by omega) (show List.length ([47, 115] : Str) ≤ 2 by decide) (by omega)) rfl (fun _ _ => trivial)) ?_
  rintro _ _ ⟨_, ⟨u_3, e_1, f_4, rfl, rfl⟩, rfl⟩
  refine jA (jG (v := str u_3) rfl) <| jE <| jB <| jM <| jV (.inl rfl) rfl (jN (v := str u_3) rfl) (List.nil_sublist _) ?_
  exact ⟨u_3, (by simp only [if_true, e_1, SB]; (repeat (first | rw [if_pos (by omega)] | rw [if_neg (by omega)])); all_goals (first | rfl | simp only [SB, e_1])), (by first | omega | (simp only [LE]; omega)), rfl, rfl⟩

theorem N_pagesKey (id : Int) (hid : -9223372036854775808 ≤ id ∧ id ≤ 9223372036854775807) :
    Ct Tryz.prog 138 [.int .i64 id] ([]) (fun _ => True) (fun v A' => ∃ r0, (fun i => keyNum ([109, 47] : Str) i ([47] : Str)) id = r0 ∧ r0.length ≤ 30 ∧ v = str r0 ∧ A' = []) := by
  refine Ct.intro Tryz.func138 rfl Tryz.ntmps138 (lb rfl) fun w0 hpre => ?_
  refine jD <| jF <| jA (jG (v := str []) rfl) <| jE <| jB <| jD <| jF <| jA (jC (v := iv id) rfl) ?_
  refine jH rfl (jI [] Tryz.call129 rfl (N_keyNum [109, 47] id [47] (show List.length ([109, 47] : Str) ≤ 2 by decide) (by omega) (show List.length ([47] : Str) ≤ 1 by decide) (by omega)) rfl (fun _ _ => trivial)) ?_
  rintro _ _ ⟨_, ⟨u_3, e_1, f_4, rfl, rfl⟩, rfl⟩
  refine jA (jG (v := str u_3) rfl) <| jE <| jB <| jM <| jV (.inl rfl) rfl (jN (v := str u_3) rfl) (List.nil_sublist _) ?_
  exact ⟨u_3, (by simp only [if_true, e_1, SB]; (repeat (first | rw [if_pos (by omega)] | rw [if_neg (by omega)])); all_goals (first | rfl | simp only [SB, e_1])), (by first | omega | (simp only [LE]; omega)), rfl, rfl⟩

theorem N_l11Head (id : Int) (hid : -9223372036854775808 ≤ id ∧ id ≤ 9223372036854775807) :
    Ct Tryz.prog 108 [.int .i64 id] ([]) (fun _ => True) (fun v A' => ∃ r0, (fun i => keyNum ([109, 47] : Str) i ([47] : Str)) id = r0 ∧ r0.length ≤ 30 ∧ v = str r0 ∧ A' = []) := by
  refine Ct.intro Tryz.func108 rfl Tryz.ntmps108 (lb rfl) fun w0 hpre => ?_
  refine jD <| jF <| jA (jG (v := str []) rfl) <| jE <| jB <| jD <| jF <| jA (jC (v := iv id) rfl) ?_
  refine jH rfl (jI [] Tryz.call91 rfl (N_sKeyNum [109, 47] id [47] (show List.length ([109, 47] : Str) ≤ 2 by decide) (by omega) (show List.length ([47] : Str) ≤ 1 by decide) (by omega)) rfl (fun _ _ => trivial)) ?_
  rintro _ _ ⟨_, ⟨u_3, e_1, f_4, rfl, rfl⟩, rfl⟩
  refine jA (jG (v := str u_3) rfl) <| jE <| jB <| jM <| jV (.inl rfl) rfl (jN (v := str u_3) rfl) (List.nil_sublist _) ?_
  exact ⟨u_3, (by simp only [if_true, e_1, SB]; (repeat (first | rw [if_pos (by omega)] | rw [if_neg (by omega)])); all_goals (first | rfl | simp only [SB, e_1])), (by first | omega | (simp only [LE]; omega)), rfl, rfl⟩

theorem N_blockKey (id : Int) (k : Int) (hid : -9223372036854775808 ≤ id ∧ id ≤ 9223372036854775807) (hk : -9223372036854775808 ≤ k ∧ k ≤ 9223372036854775807) :
    Ct Tryz.prog 161 [.int .i64 id, .int .i64 k] ([]) (fun _ => True) (fun v A' => ∃ r0, (fun i k => keyNum (keyNum ([105, 47] : Str) i ([47, 98, 47] : Str)) k []) id k = r0 ∧ r0.length ≤ 60 ∧ v = str r0 ∧ A' = []) := by
  refine Ct.intro Tryz.func161 rfl Tryz.ntmps161 (lb rfl) fun w0 hpre => ?_
  refine jD <| jF <| jA (jG (v := str []) rfl) <| jE <| jB <| jD <| jF <| jA (jC (v := iv id) rfl) ?_
  refine jH rfl (jI [] Tryz.call129 rfl (N_keyNum [105, 47] id [47, 98, 47] (show List.length ([105, 47] : Str) ≤ 2 by decide) (by omega) (show List.length ([47, 98, 47] : Str) ≤ 3 by decide) (by omega)) rfl (fun _ _ => trivial)) ?_
  rintro _ _ ⟨_, ⟨u_3, e_1, f_4, rfl, rfl⟩, rfl⟩
  refine jA (jC (v := iv k) rfl) ?_
  refine jH rfl (jI [] Tryz.call129 rfl (N_keyNum u_3 k [] (Nat.le_refl _) (by omega) (show List.length ([] : Str) ≤ 0 by decide) (by omega)) rfl (fun _ _ => trivial)) ?_
  rintro _ _ ⟨_, ⟨u_7, e_5, f_8, rfl, rfl⟩, rfl⟩
  refine jA (jG (v := str u_7) rfl) <| jE <| jB <| jM <| jV (.inl rfl) rfl (jN (v := str u_7) rfl) (List.nil_sublist _) ?_
  exact ⟨u_7, (by simp only [if_true, e_1, e_5, SB]; (repeat (first | rw [if_pos (by omega)] | rw [if_neg (by omega)])); all_goals (first | rfl | simp only [SB, e_1, e_5])), (by first | omega | (simp only [LE]; omega)), rfl, rfl⟩

theorem N_l07Block (id : Int) (k : Int) (hid : -9223372036854775808 ≤ id ∧ id ≤ 9223372036854775807) (hk : -9223372036854775808 ≤ k ∧ k ≤ 9223372036854775807) :
    Ct Tryz.prog 149 [.int .i64 id, .int .i64 k] ([]) (fun _ => True) (fun v A' => ∃ r0, (fun i k => keyNum (keyNum ([105, 47] : Str) i ([47, 98, 47] : Str)) k []) id k = r0 ∧ r0.length ≤ 60 ∧ v = str r0 ∧ A' = []) := by
  refine Ct.intro Tryz.func149 rfl Tryz.ntmps149 (lb rfl) fun w0 hpre => ?_
  refine jD <| jF <| jA (jG (v := str []) rfl) <| jE <| jB <| jD <| jF <| jA (jC (v := iv id) rfl) ?_
  refine jH rfl (jI [] Tryz.call91 rfl (N_sKeyNum [105, 47] id [47, 98, 47] (show List.length ([105, 47] : Str) ≤ 2 by decide) (by omega) (show List.length ([47, 98, 47] : Str) ≤ 3 by decide) (by omega)) rfl (fun _ _ => trivial)) ?_
  rintro _ _ ⟨_, ⟨u_3, e_1, f_4, rfl, rfl⟩, rfl⟩
  refine jA (jC (v := iv k) rfl) ?_
  refine jH rfl (jI [] Tryz.call91 rfl (N_sKeyNum u_3 k [] (Nat.le_refl _) (by omega) (show List.length ([] : Str) ≤ 0 by decide) (by omega)) rfl (fun _ _ => trivial)) ?_
  rintro _ _ ⟨_, ⟨u_7, e_5, f_8, rfl, rfl⟩, rfl⟩
  refine jA (jG (v := str u_7) rfl) <| jE <| jB <| jM <| jV (.inl rfl) rfl (jN (v := str u_7) rfl) (List.nil_sublist _) ?_
  exact ⟨u_7, (by simp only [if_true, e_1, e_5, SB]; (repeat (first | rw [if_pos (by omega)] | rw [if_neg (by omega)])); all_goals (first | rfl | simp only [SB, e_1, e_5])), (by first | omega | (simp only [LE]; omega)), rfl, rfl⟩

theorem N_l08Message (id : Int) (k : Int) (hid : -9223372036854775808 ≤ id ∧ id ≤ 9223372036854775807) (hk : -9223372036854775808 ≤ k ∧ k ≤ 9223372036854775807) :
    Ct Tryz.prog 101 [.int .i64 id, .int .i64 k] ([]) (fun _ => True) (fun v A' => ∃ r0, (fun i k => keyNum (keyNum ([112, 47] : Str) i ([47, 113, 47] : Str)) k []) id k = r0 ∧ r0.length ≤ 60 ∧ v = str r0 ∧ A' = []) := by
  refine Ct.intro Tryz.func101 rfl Tryz.ntmps101 (lb rfl) fun w0 hpre => ?_
  refine jD <| jF <| jA (jG (v := str []) rfl) <| jE <| jB <| jD <| jF <| jA (jC (v := iv id) rfl) ?_
  refine jH rfl (jI [] Tryz.call98 rfl (N_l08Key id [47, 113, 47] (by omega) (show List.length ([47, 113, 47] : Str) ≤ 3 by decide) (by omega)) rfl (fun _ _ => trivial)) ?_
  rintro _ _ ⟨_, ⟨u_3, e_1, f_4, rfl, rfl⟩, rfl⟩
  refine jA (jC (v := iv k) rfl) ?_
  refine jH rfl (jI [] Tryz.call91 rfl (N_sKeyNum u_3 k [] (Nat.le_refl _) (by omega) (show List.length ([] : Str) ≤ 0 by decide) (by omega)) rfl (fun _ _ => trivial)) ?_
  rintro _ _ ⟨_, ⟨u_7, e_5, f_8, rfl, rfl⟩, rfl⟩
  refine jA (jG (v := str u_7) rfl) <| jE <| jB <| jM <| jV (.inl rfl) rfl (jN (v := str u_7) rfl) (List.nil_sublist _) ?_
  exact ⟨u_7, (by simp only [if_true, e_1, e_5, SB]; (repeat (first | rw [if_pos (by omega)] | rw [if_neg (by omega)])); all_goals (first | rfl | simp only [SB, e_1, e_5])), (by first | omega | (simp only [LE]; omega)), rfl, rfl⟩

theorem N_l10Signal (id : Int) (k : Int) (hid : -9223372036854775808 ≤ id ∧ id ≤ 9223372036854775807) (hk : -9223372036854775808 ≤ k ∧ k ≤ 9223372036854775807) :
    Ct Tryz.prog 105 [.int .i64 id, .int .i64 k] ([]) (fun _ => True) (fun v A' => ∃ r0, (fun i k => keyNum (keyNum ([103, 47] : Str) i ([47, 113, 47] : Str)) k []) id k = r0 ∧ r0.length ≤ 60 ∧ v = str r0 ∧ A' = []) := by
  refine Ct.intro Tryz.func105 rfl Tryz.ntmps105 (lb rfl) fun w0 hpre => ?_
  refine jD <| jF <| jA (jG (v := str []) rfl) <| jE <| jB <| jD <| jF <| jA (jC (v := iv id) rfl) ?_
  refine jH rfl (jI [] Tryz.call104 rfl (N_l10Key id [47, 113, 47] (by omega) (show List.length ([47, 113, 47] : Str) ≤ 3 by decide) (by omega)) rfl (fun _ _ => trivial)) ?_
  rintro _ _ ⟨_, ⟨u_3, e_1, f_4, rfl, rfl⟩, rfl⟩
  refine jA (jC (v := iv k) rfl) ?_
  refine jH rfl (jI [] Tryz.call91 rfl (N_sKeyNum u_3 k [] (Nat.le_refl _) (by omega) (show List.length ([] : Str) ≤ 0 by decide) (by omega)) rfl (fun _ _ => trivial)) ?_
  rintro _ _ ⟨_, ⟨u_7, e_5, f_8, rfl, rfl⟩, rfl⟩
  refine jA (jG (v := str u_7) rfl) <| jE <| jB <| jM <| jV (.inl rfl) rfl (jN (v := str u_7) rfl) (List.nil_sublist _) ?_
  exact ⟨u_7, (by simp only [if_true, e_1, e_5, SB]; (repeat (first | rw [if_pos (by omega)] | rw [if_neg (by omega)])); all_goals (first | rfl | simp only [SB, e_1, e_5])), (by first | omega | (simp only [LE]; omega)), rfl, rfl⟩

theorem N_nameKey (s : Str) (hs : s.length ≤ 1000000000000) :
    Ct Tryz.prog 125 [str s] ([]) (fun _ => True) (fun v A' => ∃ r0, (fun t => ([110, 47] : Str) ++ t) s = r0 ∧ r0.length ≤ s.length + 2 ∧ v = str r0 ∧ A' = []) := by
  refine Ct.intro Tryz.func125 rfl Tryz.ntmps125 (lb rfl) fun w0 hpre => ?_
  refine jD <| jF <| jA (jG (v := str []) rfl) <| jE <| jB <| jD <| jF <| jA (jC (v := str s) rfl) <| jA (kO rfl rfl (by (try simp only [List.length_append, List.length_cons, List.length_nil, List.length_drop, List.length_take]); omega)) <| jA (jG (v := str ([110, 47] ++ s)) rfl) ?_
  refine jE <| jB <| jM <| jV (.inl rfl) rfl (jN (v := str ([110, 47] ++ s)) rfl) (List.nil_sublist _) ?_
  exact ⟨([110, 47] ++ s), (by simp only [if_true, SB]; (repeat (first | rw [if_pos (by omega)] | rw [if_neg (by omega)])); all_goals (first | rfl | simp only [SB])), (by first | omega | (simp only [LE]; omega)), rfl, rfl⟩

theorem N_nameOk (key : Str) (hkey : key.length ≤ 1000000000000) :
    Ct Tryz.prog 121 [str key] ([]) (fun _ => True) (fun v A' => ∃ r0, nameOk key = r0 ∧ v = .bool r0 ∧ A' = []) := by
  refine Ct.intro Tryz.func121 rfl Tryz.ntmps121 (lb rfl) fun w0 hpre => ?_
  refine jD <| jF <| jA (jG (v := .bool false) rfl) <| jE <| jB <| jD <| jD <| jF <| jA (jC (v := str key) rfl) <| jA (kJ kY rfl) ?_
  refine jA (jC (v := iv 0) rfl) <| jE <| jB <| jm <| kE (fun k_ e_ L_ => ∃ j : Nat, (j ≤ key.length) ∧ (∀ i, i < j → i < key.length → nameByte (key.getD i 0) = true) ∧ e_ 0 = str key ∧ e_ 6 = iv (key.length : Int) ∧ e_ 7 = nv j ∧ L_ = [] ∧ k_ = key.length - j) _ ⟨0, by omega, (fun i hi => absurd hi (Nat.not_lt_zero i)), rfl, rfl, rfl, rfl, rfl⟩ ?_
  rintro _ e_1 _ ⟨j, hj, hN, he_2, he_3, he_4, rfl, rfl⟩
  refine jD <| jF <| jA (js he_4 he_3) <| jE <| jB <| jD ?_
  by_cases h_5 : ((j : Nat) : Int) < (key.length : Int)
  · refine jR (cB (dT h_5)) <| jU <| jB <| jD <| jm <| jD <| jF <| jA (jC (v := nv j) he_4) <| jA (jG (v := nv j) rfl) <| jE ?_
    refine jB <| jD <| jF <| jA (jC (v := str key) he_2) <| jA (jC (v := nv j) rfl) <| jA (PO.indexS (i := j) (c := key.getD j 0) kY rfl rfl (getD_some (by omega))) ?_
    have hu_6 := UInt8.toNat_lt (key.getD j 0)
    refine jA (jG (v := .int .u8 ((key.getD j 0).toNat : Int)) rfl) <| jE <| jB <| jD <| jF <| jA (jC (v := .int .u8 ((key.getD j 0).toNat : Int)) rfl) <| jA (kT rfl rfl) <| jA (jC (v := .bool (decide (97 ≤ ((key.getD j 0).toNat : Int)))) rfl) ?_
    by_cases h_7 : 97 ≤ ((key.getD j 0).toNat : Int)
    · refine jb rfl rfl rfl (cB (dT h_7)) (ja (jd (jC (v := .int .u8 ((key.getD j 0).toNat : Int)) rfl))) ?_
      rintro _ _ ⟨rfl, rfl⟩
      refine jb rfl rfl rfl (cB (dT h_7)) (ja (jd (PO.leq rfl rfl))) ?_
      rintro _ _ ⟨rfl, rfl⟩
      refine jA (jx (v := .bool (decide (((key.getD j 0).toNat : Int) ≤ 122))) (cB (dT h_7)) rfl) <| jA (kA rfl) <| jA (jC (v := .bool (!(decide (((key.getD j 0).toNat : Int) ≤ 122)))) rfl) ?_
      by_cases h_8 : ((key.getD j 0).toNat : Int) ≤ 122
      · refine jY (b := false) rfl rfl rfl (cB (cN (dT h_8))) <| jY (b := false) rfl rfl rfl (cB (cN (dT h_8))) <| jY (b := false) rfl rfl rfl (cB (cN (dT h_8))) <| JL.guardOffU rfl rfl rfl rfl <| JL.guardOffU rfl rfl rfl rfl <| jY (b := false) rfl rfl rfl (cB (cN (dT h_8))) <| jY (b := false) rfl rfl rfl (cB (cN (dT h_8))) <| jA (jw (v := .bool false) (cB (cN (dT h_8))) rfl) <| jA (jC (v := .bool false) rfl) <| jY (b := false) rfl rfl rfl (cB rfl) ?_
        refine jY (b := false) rfl rfl rfl (cB rfl) <| jA (jw (v := .bool false) (cB rfl) rfl) <| jA (jC (v := .bool false) rfl) <| jY (b := false) rfl rfl rfl (cB rfl) <| jY (b := false) rfl rfl rfl (cB rfl) <| jA (jw (v := .bool false) (cB rfl) rfl) <| jE <| jB <| jQ (cB rfl) <| jU ?_
        refine jk <| jB <| jF <| jA (jg (c := ((j + 1 : Nat) : Int)) he_4 rfl (wr (by omega))) <| jA (jC (v := iv ((j + 1 : Nat) : Int)) rfl) <| jE ?_
        refine jt (key.length - (j + 1)) (by omega) ⟨j + 1, by omega, (fun i hi hl => if h : i = j then h ▸ (by simp only [nameByte, Bool.and_eq_true, Bool.and_eq_false_iff, Bool.or_eq_true, Bool.or_eq_false_iff, decide_eq_true_eq, decide_eq_false_iff_not, Bool.not_eq_true', Bool.not_eq_false']; omega : nameByte (key.getD j 0) = true) else hN i (by omega) hl), he_2, he_3, rfl, rfl, rfl⟩
      refine jb rfl rfl rfl (cB (cN (dF h_8))) (ja (jd (jC (v := .int .u8 ((key.getD j 0).toNat : Int)) rfl))) ?_
      rintro _ _ ⟨rfl, rfl⟩
      refine jb rfl rfl rfl (cB (cN (dF h_8))) (ja (jd (kT rfl rfl))) ?_
      rintro _ _ ⟨rfl, rfl⟩
      refine jb rfl rfl rfl (cB (cN (dF h_8))) (ja (jd (jC (v := .bool (decide (48 ≤ ((key.getD j 0).toNat : Int)))) rfl))) ?_
      rintro _ _ ⟨rfl, rfl⟩
      by_cases h_9 : 48 ≤ ((key.getD j 0).toNat : Int)
      · refine jb rfl rfl rfl (cB (dT h_9)) (ja (jd (jC (v := .int .u8 ((key.getD j 0).toNat : Int)) rfl))) ?_
        rintro _ _ ⟨rfl, rfl⟩
        refine jb rfl rfl rfl (cB (dT h_9)) (ja (jd (PO.leq rfl rfl))) ?_
        rintro _ _ ⟨rfl, rfl⟩
        refine jb rfl rfl rfl (cB (cN (dF h_8))) (ja (jd (jx (v := .bool (decide (((key.getD j 0).toNat : Int) ≤ 57))) (cB (dT h_9)) rfl))) ?_
        rintro _ _ ⟨rfl, rfl⟩
        refine jb rfl rfl rfl (cB (cN (dF h_8))) (ja (jd (kA rfl))) ?_
        rintro _ _ ⟨rfl, rfl⟩
        refine jA (jx (v := .bool (!(decide (((key.getD j 0).toNat : Int) ≤ 57)))) (cB (cN (dF h_8))) rfl) <| jA (jC (v := .bool (!(decide (((key.getD j 0).toNat : Int) ≤ 57)))) rfl) ?_
        by_cases h_10 : ((key.getD j 0).toNat : Int) ≤ 57
        · refine jY (b := false) rfl rfl rfl (cB (cN (dT h_10))) <| jY (b := false) rfl rfl rfl (cB (cN (dT h_10))) <| jA (jw (v := .bool false) (cB (cN (dT h_10))) rfl) <| jA (jC (v := .bool false) rfl) <| jY (b := false) rfl rfl rfl (cB rfl) <| jY (b := false) rfl rfl rfl (cB rfl) <| jA (jw (v := .bool false) (cB rfl) rfl) <| jE <| jB <| jQ (cB rfl) ?_
          refine jU <| jk <| jB <| jF <| jA (jg (c := ((j + 1 : Nat) : Int)) he_4 rfl (wr (by omega))) <| jA (jC (v := iv ((j + 1 : Nat) : Int)) rfl) <| jE ?_
          refine jt (key.length - (j + 1)) (by omega) ⟨j + 1, by omega, (fun i hi hl => if h : i = j then h ▸ (by simp only [nameByte, Bool.and_eq_true, Bool.and_eq_false_iff, Bool.or_eq_true, Bool.or_eq_false_iff, decide_eq_true_eq, decide_eq_false_iff_not, Bool.not_eq_true', Bool.not_eq_false']; omega : nameByte (key.getD j 0) = true) else hN i (by omega) hl), he_2, he_3, rfl, rfl, rfl⟩
        refine jb rfl rfl rfl (cB (cN (dF h_10))) (ja (jd (jC (v := .int .u8 ((key.getD j 0).toNat : Int)) rfl))) ?_
        rintro _ _ ⟨rfl, rfl⟩
        refine jb rfl rfl rfl (cB (cN (dF h_10))) (ja (jd (kQ rfl rfl))) ?_
        rintro _ _ ⟨rfl, rfl⟩
        refine jA (jx (v := .bool (!(decide (((key.getD j 0).toNat : Int) = 46)))) (cB (cN (dF h_10))) rfl) <| jA (jC (v := .bool (!(decide (((key.getD j 0).toNat : Int) = 46)))) rfl) ?_
        by_cases h_11 : ((key.getD j 0).toNat : Int) = 46
        · refine jY (b := false) rfl rfl rfl (cB (cN (dT h_11))) <| jY (b := false) rfl rfl rfl (cB (cN (dT h_11))) <| jA (jw (v := .bool false) (cB (cN (dT h_11))) rfl) <| jE <| jB <| jQ (cB rfl) <| jU <| jk <| jB <| jF ?_
          refine jA (jg (c := ((j + 1 : Nat) : Int)) he_4 rfl (wr (by omega))) <| jA (jC (v := iv ((j + 1 : Nat) : Int)) rfl) <| jE ?_
          refine jt (key.length - (j + 1)) (by omega) ⟨j + 1, by omega, (fun i hi hl => if h : i = j then h ▸ (by simp only [nameByte, Bool.and_eq_true, Bool.and_eq_false_iff, Bool.or_eq_true, Bool.or_eq_false_iff, decide_eq_true_eq, decide_eq_false_iff_not, Bool.not_eq_true', Bool.not_eq_false']; omega : nameByte (key.getD j 0) = true) else hN i (by omega) hl), he_2, he_3, rfl, rfl, rfl⟩
        refine jb rfl rfl rfl (cB (cN (dF h_11))) (ja (jd (jC (v := .int .u8 ((key.getD j 0).toNat : Int)) rfl))) ?_
        rintro _ _ ⟨rfl, rfl⟩
        refine jb rfl rfl rfl (cB (cN (dF h_11))) (ja (jd (kQ rfl rfl))) ?_
        rintro _ _ ⟨rfl, rfl⟩
        refine jA (jx (v := .bool (!(decide (((key.getD j 0).toNat : Int) = 45)))) (cB (cN (dF h_11))) rfl) <| jE <| jB ?_
        by_cases h_12 : ((key.getD j 0).toNat : Int) = 45
        · refine jQ (cB (cN (dT h_12))) <| jU <| jk <| jB <| jF <| jA (jg (c := ((j + 1 : Nat) : Int)) he_4 rfl (wr (by omega))) <| jA (jC (v := iv ((j + 1 : Nat) : Int)) rfl) <| jE ?_
          refine jt (key.length - (j + 1)) (by omega) ⟨j + 1, by omega, (fun i hi hl => if h : i = j then h ▸ (by simp only [nameByte, Bool.and_eq_true, Bool.and_eq_false_iff, Bool.or_eq_true, Bool.or_eq_false_iff, decide_eq_true_eq, decide_eq_false_iff_not, Bool.not_eq_true', Bool.not_eq_false']; omega : nameByte (key.getD j 0) = true) else hN i (by omega) hl), he_2, he_3, rfl, rfl, rfl⟩
        refine jR (cB (cN (dF h_12))) <| jD <| jF <| jA (jG (v := .bool false) rfl) <| jE <| jB <| jM <| jz <| jX <| jX ?_
        refine jz <| jX <| jV (.inl rfl) rfl (jN (v := .bool false) rfl) (List.nil_sublist _) ?_
        refine ⟨_, ?_, rfl, rfl⟩
        rw [nameOk_bad (j := j) (by omega) (by simp only [nameByte, Bool.and_eq_true, Bool.and_eq_false_iff, Bool.or_eq_true, Bool.or_eq_false_iff, decide_eq_true_eq, decide_eq_false_iff_not, Bool.not_eq_true', Bool.not_eq_false']; omega)]
      refine jY (b := false) rfl rfl rfl (cB (dF h_9)) <| jY (b := false) rfl rfl rfl (cB (dF h_9)) <| jb rfl rfl rfl (cB (cN (dF h_8))) (ja (jd (jw (v := .bool false) (cB (dF h_9)) rfl))) ?_
      rintro _ _ ⟨rfl, rfl⟩
      refine jb rfl rfl rfl (cB (cN (dF h_8))) (ja (jd (kA rfl))) ?_
      rintro _ _ ⟨rfl, rfl⟩
      refine jA (jx (v := .bool true) (cB (cN (dF h_8))) rfl) <| jA (jC (v := .bool true) rfl) <| jb rfl rfl rfl (cB rfl) (ja (jd (jC (v := .int .u8 ((key.getD j 0).toNat : Int)) rfl))) ?_
      rintro _ _ ⟨rfl, rfl⟩
      refine jb rfl rfl rfl (cB rfl) (ja (jd (kQ rfl rfl))) ?_
      rintro _ _ ⟨rfl, rfl⟩
      refine jA (jx (v := .bool (!(decide (((key.getD j 0).toNat : Int) = 46)))) (cB rfl) rfl) <| jA (jC (v := .bool (!(decide (((key.getD j 0).toNat : Int) = 46)))) rfl) ?_
      by_cases h_13 : ((key.getD j 0).toNat : Int) = 46
      · refine jY (b := false) rfl rfl rfl (cB (cN (dT h_13))) <| jY (b := false) rfl rfl rfl (cB (cN (dT h_13))) <| jA (jw (v := .bool false) (cB (cN (dT h_13))) rfl) <| jE <| jB <| jQ (cB rfl) <| jU <| jk <| jB <| jF ?_
        refine jA (jg (c := ((j + 1 : Nat) : Int)) he_4 rfl (wr (by omega))) <| jA (jC (v := iv ((j + 1 : Nat) : Int)) rfl) <| jE ?_
        refine jt (key.length - (j + 1)) (by omega) ⟨j + 1, by omega, (fun i hi hl => if h : i = j then h ▸ (by simp only [nameByte, Bool.and_eq_true, Bool.and_eq_false_iff, Bool.or_eq_true, Bool.or_eq_false_iff, decide_eq_true_eq, decide_eq_false_iff_not, Bool.not_eq_true', Bool.not_eq_false']; omega : nameByte (key.getD j 0) = true) else hN i (by omega) hl), he_2, he_3, rfl, rfl, rfl⟩
      refine jb rfl rfl rfl (cB (cN (dF h_13))) (ja (jd (jC (v := .int .u8 ((key.getD j 0).toNat : Int)) rfl))) ?_
      rintro _ _ ⟨rfl, rfl⟩
      refine jb rfl rfl rfl (cB (cN (dF h_13))) (ja (jd (kQ rfl rfl))) ?_
      rintro _ _ ⟨rfl, rfl⟩
      refine jA (jx (v := .bool (!(decide (((key.getD j 0).toNat : Int) = 45)))) (cB (cN (dF h_13))) rfl) <| jE <| jB ?_
      by_cases h_14 : ((key.getD j 0).toNat : Int) = 45
      · refine jQ (cB (cN (dT h_14))) <| jU <| jk <| jB <| jF <| jA (jg (c := ((j + 1 : Nat) : Int)) he_4 rfl (wr (by omega))) <| jA (jC (v := iv ((j + 1 : Nat) : Int)) rfl) <| jE ?_
        refine jt (key.length - (j + 1)) (by omega) ⟨j + 1, by omega, (fun i hi hl => if h : i = j then h ▸ (by simp only [nameByte, Bool.and_eq_true, Bool.and_eq_false_iff, Bool.or_eq_true, Bool.or_eq_false_iff, decide_eq_true_eq, decide_eq_false_iff_not, Bool.not_eq_true', Bool.not_eq_false']; omega : nameByte (key.getD j 0) = true) else hN i (by omega) hl), he_2, he_3, rfl, rfl, rfl⟩
      refine jR (cB (cN (dF h_14))) <| jD <| jF <| jA (jG (v := .bool false) rfl) <| jE <| jB <| jM <| jz <| jX <| jX ?_
      refine jz <| jX <| jV (.inl rfl) rfl (jN (v := .bool false) rfl) (List.nil_sublist _) ?_
      refine ⟨_, ?_, rfl, rfl⟩
      rw [nameOk_bad (j := j) (by omega) (by simp only [nameByte, Bool.and_eq_true, Bool.and_eq_false_iff, Bool.or_eq_true, Bool.or_eq_false_iff, decide_eq_true_eq, decide_eq_false_iff_not, Bool.not_eq_true', Bool.not_eq_false']; omega)]
    refine jY (b := false) rfl rfl rfl (cB (dF h_7)) <| jY (b := false) rfl rfl rfl (cB (dF h_7)) <| jA (jw (v := .bool false) (cB (dF h_7)) rfl) <| jA (kA rfl) <| jA (jC (v := .bool true) rfl) <| jb rfl rfl rfl (cB rfl) (ja (jd (jC (v := .int .u8 ((key.getD j 0).toNat : Int)) rfl))) ?_
    rintro _ _ ⟨rfl, rfl⟩
    refine jb rfl rfl rfl (cB rfl) (ja (jd (kT rfl rfl))) ?_
    rintro _ _ ⟨rfl, rfl⟩
    refine jb rfl rfl rfl (cB rfl) (ja (jd (jC (v := .bool (decide (48 ≤ ((key.getD j 0).toNat : Int)))) rfl))) ?_
    rintro _ _ ⟨rfl, rfl⟩
    by_cases h_15 : 48 ≤ ((key.getD j 0).toNat : Int)
    · refine jb rfl rfl rfl (cB (dT h_15)) (ja (jd (jC (v := .int .u8 ((key.getD j 0).toNat : Int)) rfl))) ?_
      rintro _ _ ⟨rfl, rfl⟩
      refine jb rfl rfl rfl (cB (dT h_15)) (ja (jd (PO.leq rfl rfl))) ?_
      rintro _ _ ⟨rfl, rfl⟩
      refine jb rfl rfl rfl (cB rfl) (ja (jd (jx (v := .bool (decide (((key.getD j 0).toNat : Int) ≤ 57))) (cB (dT h_15)) rfl))) ?_
      rintro _ _ ⟨rfl, rfl⟩
      refine jb rfl rfl rfl (cB rfl) (ja (jd (kA rfl))) ?_
      rintro _ _ ⟨rfl, rfl⟩
      refine jA (jx (v := .bool (!(decide (((key.getD j 0).toNat : Int) ≤ 57)))) (cB rfl) rfl) <| jA (jC (v := .bool (!(decide (((key.getD j 0).toNat : Int) ≤ 57)))) rfl) ?_
      by_cases h_16 : ((key.getD j 0).toNat : Int) ≤ 57
      · refine jY (b := false) rfl rfl rfl (cB (cN (dT h_16))) <| jY (b := false) rfl rfl rfl (cB (cN (dT h_16))) <| jA (jw (v := .bool false) (cB (cN (dT h_16))) rfl) <| jA (jC (v := .bool false) rfl) <| jY (b := false) rfl rfl rfl (cB rfl) <| jY (b := false) rfl rfl rfl (cB rfl) <| jA (jw (v := .bool false) (cB rfl) rfl) <| jE <| jB <| jQ (cB rfl) ?_
        refine jU <| jk <| jB <| jF <| jA (jg (c := ((j + 1 : Nat) : Int)) he_4 rfl (wr (by omega))) <| jA (jC (v := iv ((j + 1 : Nat) : Int)) rfl) <| jE ?_
        refine jt (key.length - (j + 1)) (by omega) ⟨j + 1, by omega, (fun i hi hl => if h : i = j then h ▸ (by simp only [nameByte, Bool.and_eq_true, Bool.and_eq_false_iff, Bool.or_eq_true, Bool.or_eq_false_iff, decide_eq_true_eq, decide_eq_false_iff_not, Bool.not_eq_true', Bool.not_eq_false']; omega : nameByte (key.getD j 0) = true) else hN i (by omega) hl), he_2, he_3, rfl, rfl, rfl⟩
      refine jb rfl rfl rfl (cB (cN (dF h_16))) (ja (jd (jC (v := .int .u8 ((key.getD j 0).toNat : Int)) rfl))) ?_
      rintro _ _ ⟨rfl, rfl⟩
      refine jb rfl rfl rfl (cB (cN (dF h_16))) (ja (jd (kQ rfl rfl))) ?_
      rintro _ _ ⟨rfl, rfl⟩
      refine jA (jx (v := .bool (!(decide (((key.getD j 0).toNat : Int) = 46)))) (cB (cN (dF h_16))) rfl) <| jA (jC (v := .bool (!(decide (((key.getD j 0).toNat : Int) = 46)))) rfl) ?_
      by_cases h_17 : ((key.getD j 0).toNat : Int) = 46
      · refine jY (b := false) rfl rfl rfl (cB (cN (dT h_17))) <| jY (b := false) rfl rfl rfl (cB (cN (dT h_17))) <| jA (jw (v := .bool false) (cB (cN (dT h_17))) rfl) <| jE <| jB <| jQ (cB rfl) <| jU <| jk <| jB <| jF ?_
        refine jA (jg (c := ((j + 1 : Nat) : Int)) he_4 rfl (wr (by omega))) <| jA (jC (v := iv ((j + 1 : Nat) : Int)) rfl) <| jE ?_
        refine jt (key.length - (j + 1)) (by omega) ⟨j + 1, by omega, (fun i hi hl => if h : i = j then h ▸ (by simp only [nameByte, Bool.and_eq_true, Bool.and_eq_false_iff, Bool.or_eq_true, Bool.or_eq_false_iff, decide_eq_true_eq, decide_eq_false_iff_not, Bool.not_eq_true', Bool.not_eq_false']; omega : nameByte (key.getD j 0) = true) else hN i (by omega) hl), he_2, he_3, rfl, rfl, rfl⟩
      refine jb rfl rfl rfl (cB (cN (dF h_17))) (ja (jd (jC (v := .int .u8 ((key.getD j 0).toNat : Int)) rfl))) ?_
      rintro _ _ ⟨rfl, rfl⟩
      refine jb rfl rfl rfl (cB (cN (dF h_17))) (ja (jd (kQ rfl rfl))) ?_
      rintro _ _ ⟨rfl, rfl⟩
      refine jA (jx (v := .bool (!(decide (((key.getD j 0).toNat : Int) = 45)))) (cB (cN (dF h_17))) rfl) <| jE <| jB ?_
      by_cases h_18 : ((key.getD j 0).toNat : Int) = 45
      · refine jQ (cB (cN (dT h_18))) <| jU <| jk <| jB <| jF <| jA (jg (c := ((j + 1 : Nat) : Int)) he_4 rfl (wr (by omega))) <| jA (jC (v := iv ((j + 1 : Nat) : Int)) rfl) <| jE ?_
        refine jt (key.length - (j + 1)) (by omega) ⟨j + 1, by omega, (fun i hi hl => if h : i = j then h ▸ (by simp only [nameByte, Bool.and_eq_true, Bool.and_eq_false_iff, Bool.or_eq_true, Bool.or_eq_false_iff, decide_eq_true_eq, decide_eq_false_iff_not, Bool.not_eq_true', Bool.not_eq_false']; omega : nameByte (key.getD j 0) = true) else hN i (by omega) hl), he_2, he_3, rfl, rfl, rfl⟩
      refine jR (cB (cN (dF h_18))) <| jD <| jF <| jA (jG (v := .bool false) rfl) <| jE <| jB <| jM <| jz <| jX <| jX ?_
      refine jz <| jX <| jV (.inl rfl) rfl (jN (v := .bool false) rfl) (List.nil_sublist _) ?_
      refine ⟨_, ?_, rfl, rfl⟩
      rw [nameOk_bad (j := j) (by omega) (by simp only [nameByte, Bool.and_eq_true, Bool.and_eq_false_iff, Bool.or_eq_true, Bool.or_eq_false_iff, decide_eq_true_eq, decide_eq_false_iff_not, Bool.not_eq_true', Bool.not_eq_false']; omega)]
    refine jY (b := false) rfl rfl rfl (cB (dF h_15)) <| jY (b := false) rfl rfl rfl (cB (dF h_15)) <| jb rfl rfl rfl (cB rfl) (ja (jd (jw (v := .bool false) (cB (dF h_15)) rfl))) ?_
    rintro _ _ ⟨rfl, rfl⟩
    refine jb rfl rfl rfl (cB rfl) (ja (jd (kA rfl))) ?_
    rintro _ _ ⟨rfl, rfl⟩
    refine jA (jx (v := .bool true) (cB rfl) rfl) <| jA (jC (v := .bool true) rfl) <| jb rfl rfl rfl (cB rfl) (ja (jd (jC (v := .int .u8 ((key.getD j 0).toNat : Int)) rfl))) ?_
    rintro _ _ ⟨rfl, rfl⟩
    refine jb rfl rfl rfl (cB rfl) (ja (jd (kQ rfl rfl))) ?_
    rintro _ _ ⟨rfl, rfl⟩
    refine jA (jx (v := .bool (!(decide (((key.getD j 0).toNat : Int) = 46)))) (cB rfl) rfl) <| jA (jC (v := .bool (!(decide (((key.getD j 0).toNat : Int) = 46)))) rfl) ?_
    by_cases h_19 : ((key.getD j 0).toNat : Int) = 46
    · refine jY (b := false) rfl rfl rfl (cB (cN (dT h_19))) <| jY (b := false) rfl rfl rfl (cB (cN (dT h_19))) <| jA (jw (v := .bool false) (cB (cN (dT h_19))) rfl) <| jE <| jB <| jQ (cB rfl) <| jU <| jk <| jB <| jF ?_
      refine jA (jg (c := ((j + 1 : Nat) : Int)) he_4 rfl (wr (by omega))) <| jA (jC (v := iv ((j + 1 : Nat) : Int)) rfl) <| jE ?_
      refine jt (key.length - (j + 1)) (by omega) ⟨j + 1, by omega, (fun i hi hl => if h : i = j then h ▸ (by simp only [nameByte, Bool.and_eq_true, Bool.and_eq_false_iff, Bool.or_eq_true, Bool.or_eq_false_iff, decide_eq_true_eq, decide_eq_false_iff_not, Bool.not_eq_true', Bool.not_eq_false']; omega : nameByte (key.getD j 0) = true) else hN i (by omega) hl), he_2, he_3, rfl, rfl, rfl⟩
    refine jb rfl rfl rfl (cB (cN (dF h_19))) (ja (jd (jC (v := .int .u8 ((key.getD j 0).toNat : Int)) rfl))) ?_
    rintro _ _ ⟨rfl, rfl⟩
    refine jb rfl rfl rfl (cB (cN (dF h_19))) (ja (jd (kQ rfl rfl))) ?_
    rintro _ _ ⟨rfl, rfl⟩
    refine jA (jx (v := .bool (!(decide (((key.getD j 0).toNat : Int) = 45)))) (cB (cN (dF h_19))) rfl) <| jE <| jB ?_
    by_cases h_20 : ((key.getD j 0).toNat : Int) = 45
    · refine jQ (cB (cN (dT h_20))) <| jU <| jk <| jB <| jF <| jA (jg (c := ((j + 1 : Nat) : Int)) he_4 rfl (wr (by omega))) <| jA (jC (v := iv ((j + 1 : Nat) : Int)) rfl) <| jE ?_
      refine jt (key.length - (j + 1)) (by omega) ⟨j + 1, by omega, (fun i hi hl => if h : i = j then h ▸ (by simp only [nameByte, Bool.and_eq_true, Bool.and_eq_false_iff, Bool.or_eq_true, Bool.or_eq_false_iff, decide_eq_true_eq, decide_eq_false_iff_not, Bool.not_eq_true', Bool.not_eq_false']; omega : nameByte (key.getD j 0) = true) else hN i (by omega) hl), he_2, he_3, rfl, rfl, rfl⟩
    refine jR (cB (cN (dF h_20))) <| jD <| jF <| jA (jG (v := .bool false) rfl) <| jE <| jB <| jM <| jz <| jX <| jX ?_
    refine jz <| jX <| jV (.inl rfl) rfl (jN (v := .bool false) rfl) (List.nil_sublist _) ?_
    refine ⟨_, ?_, rfl, rfl⟩
    rw [nameOk_bad (j := j) (by omega) (by simp only [nameByte, Bool.and_eq_true, Bool.and_eq_false_iff, Bool.or_eq_true, Bool.or_eq_false_iff, decide_eq_true_eq, decide_eq_false_iff_not, Bool.not_eq_true', Bool.not_eq_false']; omega)]
  refine jQ (cB (dF h_5)) <| kB <| jn <| jn <| kC <| jB <| jD <| jF <| jA (jC (v := str key) he_2) <| jA (kJ kY rfl) ?_
  refine jH rfl (jI [] Tryz.call120 rfl (C_within (key.length : Int) 1 12) rfl (fun _ _ => trivial)) ?_
  rintro _ _ ⟨_, ⟨rfl, rfl⟩, rfl⟩
  refine jA (jG (v := .bool (decide (1 ≤ (key.length : Int)) && decide ((key.length : Int) ≤ 12))) rfl) <| jE <| jB <| jM <| jV (.inl rfl) rfl (jN (v := .bool (decide (1 ≤ (key.length : Int)) && decide ((key.length : Int) ≤ 12))) rfl) (List.nil_sublist _) ?_
  refine ⟨_, ?_, rfl, rfl⟩
  rw [nameOk_good (j := j) (by omega) hN]
  congr 1 <;> exact decide_eq_decide.2 (by omega)

theorem N_sNameOk (key : Str) (hkey : key.length ≤ 1000000000000) :
    Ct Tryz.prog 87 [str key] ([]) (fun _ => True) (fun v A' => ∃ r0, nameOk key = r0 ∧ v = .bool r0 ∧ A' = []) := by
  refine Ct.intro Tryz.func87 rfl Tryz.ntmps87 (lb rfl) fun w0 hpre => ?_
  refine jD <| jF <| jA (jG (v := .bool false) rfl) <| jE <| jB <| jD <| jD <| jF <| jA (jG (v := iv 0) rfl) <| jE ?_
  refine jB <| jm <| kE (fun k_ e_ L_ => ∃ j : Nat, (j ≤ key.length) ∧ (∀ i, i < j → i < key.length → nameByte (key.getD i 0) = true) ∧ e_ 0 = str key ∧ e_ 3 = nv j ∧ L_ = [] ∧ k_ = key.length - j) _ ⟨0, by omega, (fun i hi => absurd hi (Nat.not_lt_zero i)), rfl, rfl, rfl, rfl⟩ ?_
  rintro _ e_1 _ ⟨j, hj, hN, he_2, he_3, rfl, rfl⟩
  refine jD <| jD <| jF <| jA (jC (v := nv j) he_3) <| jA (jC (v := str key) he_2) <| jA (kJ kY rfl) <| jA (js rfl rfl) <| jE <| jB ?_
  by_cases h_4 : ((j : Nat) : Int) < (key.length : Int)
  · refine jR (cB (dT h_4)) <| jU <| jB <| jD <| jm <| jD <| jF <| jA (jC (v := str key) he_2) <| jA (jC (v := nv j) he_3) <| jA (PO.indexS (i := j) (c := key.getD j 0) kY rfl rfl (getD_some (by omega))) ?_
    have hu_5 := UInt8.toNat_lt (key.getD j 0)
    refine jA (jG (v := .int .u8 ((key.getD j 0).toNat : Int)) rfl) <| jE <| jB <| jD <| jF <| jA (jC (v := .int .u8 ((key.getD j 0).toNat : Int)) rfl) <| jA (PO.convI (c := ((key.getD j 0).toNat : Int)) kk kr rfl (wr (by omega))) ?_
    refine jH rfl (jI [] Tryz.call86 rfl (C_l01In ((key.getD j 0).toNat : Int) 97 122) rfl (fun _ _ => trivial)) ?_
    rintro _ _ ⟨_, ⟨rfl, rfl⟩, rfl⟩
    refine jA (kA rfl) <| jA (jC (v := .bool (!(decide (97 ≤ ((key.getD j 0).toNat : Int)) && decide (((key.getD j 0).toNat : Int) ≤ 122)))) rfl) ?_
    rcases Bool.eq_false_or_eq_true (decide (97 ≤ ((key.getD j 0).toNat : Int)) && decide (((key.getD j 0).toNat : Int) ≤ 122)) with h_6 | h_6
    · have h_6d := h_6
      simp only [Bool.and_eq_true, Bool.and_eq_false_iff, decide_eq_true_eq, decide_eq_false_iff_not] at h_6d
      refine jY (b := false) rfl rfl rfl (cB (cN h_6)) <| jY (b := false) rfl rfl rfl (cB (cN h_6)) <| jY (b := false) rfl rfl rfl (cB (cN h_6)) <| jY (b := false) rfl rfl rfl (cB (cN h_6)) <| jA (jw (v := .bool false) (cB (cN h_6)) rfl) <| jA (jC (v := .bool false) rfl) <| jY (b := false) rfl rfl rfl (cB rfl) <| jY (b := false) rfl rfl rfl (cB rfl) <| jA (jw (v := .bool false) (cB rfl) rfl) <| jA (jC (v := .bool false) rfl) ?_
      refine jY (b := false) rfl rfl rfl (cB rfl) <| jY (b := false) rfl rfl rfl (cB rfl) <| jA (jw (v := .bool false) (cB rfl) rfl) <| jE <| jB <| jQ (cB rfl) <| jU <| jk <| jB <| jF ?_
      refine jA (jC (v := nv j) he_3) <| jA (jg (c := ((j + 1 : Nat) : Int)) rfl rfl (wr (by omega))) <| jA (jG (v := iv ((j + 1 : Nat) : Int)) rfl) <| jE ?_
      refine jt (key.length - (j + 1)) (by omega) ⟨j + 1, by omega, (fun i hi hl => if h : i = j then h ▸ (by simp only [nameByte, Bool.and_eq_true, Bool.and_eq_false_iff, Bool.or_eq_true, Bool.or_eq_false_iff, decide_eq_true_eq, decide_eq_false_iff_not, Bool.not_eq_true', Bool.not_eq_false']; omega : nameByte (key.getD j 0) = true) else hN i (by omega) hl), he_2, rfl, rfl, rfl⟩
    have h_6d := h_6
    simp only [Bool.and_eq_true, Bool.and_eq_false_iff, decide_eq_true_eq, decide_eq_false_iff_not] at h_6d
    refine jb rfl rfl rfl (cB (cN h_6)) (ja (jd (jC (v := .int .u8 ((key.getD j 0).toNat : Int)) rfl))) ?_
    rintro _ _ ⟨rfl, rfl⟩
    refine jb rfl rfl rfl (cB (cN h_6)) (ja (jd (PO.convI (c := ((key.getD j 0).toNat : Int)) kk kr rfl (wr (by omega))))) ?_
    rintro _ _ ⟨rfl, rfl⟩
    refine jb rfl rfl rfl (cB (cN h_6)) (jI [] Tryz.call86 rfl (C_l01In ((key.getD j 0).toNat : Int) 48 57) rfl (fun _ _ => trivial)) ?_
    rintro _ _ ⟨_, ⟨rfl, rfl⟩, rfl⟩
    refine jb rfl rfl rfl (cB (cN h_6)) (ja (jd (kA rfl))) ?_
    rintro _ _ ⟨rfl, rfl⟩
    refine jA (jx (v := .bool (!(decide (48 ≤ ((key.getD j 0).toNat : Int)) && decide (((key.getD j 0).toNat : Int) ≤ 57)))) (cB (cN h_6)) rfl) <| jA (jC (v := .bool (!(decide (48 ≤ ((key.getD j 0).toNat : Int)) && decide (((key.getD j 0).toNat : Int) ≤ 57)))) rfl) ?_
    rcases Bool.eq_false_or_eq_true (decide (48 ≤ ((key.getD j 0).toNat : Int)) && decide (((key.getD j 0).toNat : Int) ≤ 57)) with h_7 | h_7
    · have h_7d := h_7
      simp only [Bool.and_eq_true, Bool.and_eq_false_iff, decide_eq_true_eq, decide_eq_false_iff_not] at h_7d
      refine jY (b := false) rfl rfl rfl (cB (cN h_7)) <| jY (b := false) rfl rfl rfl (cB (cN h_7)) <| jA (jw (v := .bool false) (cB (cN h_7)) rfl) <| jA (jC (v := .bool false) rfl) <| jY (b := false) rfl rfl rfl (cB rfl) <| jY (b := false) rfl rfl rfl (cB rfl) <| jA (jw (v := .bool false) (cB rfl) rfl) <| jE <| jB <| jQ (cB rfl) ?_
      refine jU <| jk <| jB <| jF <| jA (jC (v := nv j) he_3) <| jA (jg (c := ((j + 1 : Nat) : Int)) rfl rfl (wr (by omega))) <| jA (jG (v := iv ((j + 1 : Nat) : Int)) rfl) <| jE ?_
      refine jt (key.length - (j + 1)) (by omega) ⟨j + 1, by omega, (fun i hi hl => if h : i = j then h ▸ (by simp only [nameByte, Bool.and_eq_true, Bool.and_eq_false_iff, Bool.or_eq_true, Bool.or_eq_false_iff, decide_eq_true_eq, decide_eq_false_iff_not, Bool.not_eq_true', Bool.not_eq_false']; omega : nameByte (key.getD j 0) = true) else hN i (by omega) hl), he_2, rfl, rfl, rfl⟩
    have h_7d := h_7
    simp only [Bool.and_eq_true, Bool.and_eq_false_iff, decide_eq_true_eq, decide_eq_false_iff_not] at h_7d
    refine jb rfl rfl rfl (cB (cN h_7)) (ja (jd (jC (v := .int .u8 ((key.getD j 0).toNat : Int)) rfl))) ?_
    rintro _ _ ⟨rfl, rfl⟩
    refine jb rfl rfl rfl (cB (cN h_7)) (ja (jd (kQ rfl rfl))) ?_
    rintro _ _ ⟨rfl, rfl⟩
    refine jA (jx (v := .bool (!(decide (((key.getD j 0).toNat : Int) = 46)))) (cB (cN h_7)) rfl) <| jA (jC (v := .bool (!(decide (((key.getD j 0).toNat : Int) = 46)))) rfl) ?_
    by_cases h_8 : ((key.getD j 0).toNat : Int) = 46
    · refine jY (b := false) rfl rfl rfl (cB (cN (dT h_8))) <| jY (b := false) rfl rfl rfl (cB (cN (dT h_8))) <| jA (jw (v := .bool false) (cB (cN (dT h_8))) rfl) <| jE <| jB <| jQ (cB rfl) <| jU <| jk <| jB <| jF ?_
      refine jA (jC (v := nv j) he_3) <| jA (jg (c := ((j + 1 : Nat) : Int)) rfl rfl (wr (by omega))) <| jA (jG (v := iv ((j + 1 : Nat) : Int)) rfl) <| jE ?_
      refine jt (key.length - (j + 1)) (by omega) ⟨j + 1, by omega, (fun i hi hl => if h : i = j then h ▸ (by simp only [nameByte, Bool.and_eq_true, Bool.and_eq_false_iff, Bool.or_eq_true, Bool.or_eq_false_iff, decide_eq_true_eq, decide_eq_false_iff_not, Bool.not_eq_true', Bool.not_eq_false']; omega : nameByte (key.getD j 0) = true) else hN i (by omega) hl), he_2, rfl, rfl, rfl⟩
    refine jb rfl rfl rfl (cB (cN (dF h_8))) (ja (jd (jC (v := .int .u8 ((key.getD j 0).toNat : Int)) rfl))) ?_
    rintro _ _ ⟨rfl, rfl⟩
    refine jb rfl rfl rfl (cB (cN (dF h_8))) (ja (jd (kQ rfl rfl))) ?_
    rintro _ _ ⟨rfl, rfl⟩
    refine jA (jx (v := .bool (!(decide (((key.getD j 0).toNat : Int) = 45)))) (cB (cN (dF h_8))) rfl) <| jE <| jB ?_
    by_cases h_9 : ((key.getD j 0).toNat : Int) = 45
    · refine jQ (cB (cN (dT h_9))) <| jU <| jk <| jB <| jF <| jA (jC (v := nv j) he_3) <| jA (jg (c := ((j + 1 : Nat) : Int)) rfl rfl (wr (by omega))) <| jA (jG (v := iv ((j + 1 : Nat) : Int)) rfl) <| jE ?_
      refine jt (key.length - (j + 1)) (by omega) ⟨j + 1, by omega, (fun i hi hl => if h : i = j then h ▸ (by simp only [nameByte, Bool.and_eq_true, Bool.and_eq_false_iff, Bool.or_eq_true, Bool.or_eq_false_iff, decide_eq_true_eq, decide_eq_false_iff_not, Bool.not_eq_true', Bool.not_eq_false']; omega : nameByte (key.getD j 0) = true) else hN i (by omega) hl), he_2, rfl, rfl, rfl⟩
    refine jR (cB (cN (dF h_9))) <| jD <| jF <| jA (jG (v := .bool false) rfl) <| jE <| jB <| jM <| jz <| jX <| jX ?_
    refine jz <| jX <| jV (.inl rfl) rfl (jN (v := .bool false) rfl) (List.nil_sublist _) ?_
    refine ⟨_, ?_, rfl, rfl⟩
    rw [nameOk_bad (j := j) (by omega) (by simp only [nameByte, Bool.and_eq_true, Bool.and_eq_false_iff, Bool.or_eq_true, Bool.or_eq_false_iff, decide_eq_true_eq, decide_eq_false_iff_not, Bool.not_eq_true', Bool.not_eq_false']; omega)]
  refine jQ (cB (dF h_4)) <| kB <| jn <| jn <| kC <| jB <| jD <| jF <| jA (jC (v := str key) he_2) <| jA (kJ kY rfl) ?_
  refine jH rfl (jI [] Tryz.call86 rfl (C_l01In (key.length : Int) 1 12) rfl (fun _ _ => trivial)) ?_
  rintro _ _ ⟨_, ⟨rfl, rfl⟩, rfl⟩
  refine jA (jG (v := .bool (decide (1 ≤ (key.length : Int)) && decide ((key.length : Int) ≤ 12))) rfl) <| jE <| jB <| jM <| jV (.inl rfl) rfl (jN (v := .bool (decide (1 ≤ (key.length : Int)) && decide ((key.length : Int) ≤ 12))) rfl) (List.nil_sublist _) ?_
  refine ⟨_, ?_, rfl, rfl⟩
  rw [nameOk_good (j := j) (by omega) hN]
  congr 1 <;> exact decide_eq_decide.2 (by omega)

end Go.Proofs.YthdgcbdfcclgbaaGreatDoor

set_option linter.unusedSimpArgs false
set_option linter.unusedVariables false
set_option linter.unnecessarySimpa false
namespace Go.Proofs.YthdgcbdfcclgbaaGreatDoor
open Go Go.RowKit

def underL (p : Str) : List Cell → List Str → List Str
  | [], out => out
  | c :: s, out => if prefixB c.1 p = true then underL p s (out ++ [c.1]) else underL p s out
theorem underL_app (p : Str) : ∀ (s : List Cell) (out : List Str), underL p s out = out ++ keysUnder s p
  | [], out => by simp [underL, keysUnder]
  | c :: s, out => by
    unfold underL
    cases h : prefixB c.1 p with
    | true => rw [if_pos rfl, underL_app p s]; simp [keysUnder, h]
    | false => rw [if_neg (by simp), underL_app p s]; simp [keysUnder, h]
theorem underL_nil (p : Str) (s : List Cell) : underL p s [] = keysUnder s p := by rw [underL_app]; rfl
theorem begins_eq (s p : Str) : prefixB s p = (decide ((p.length : Int) ≤ s.length) && decide (s.take p.length = p)) := by
  unfold prefixB
  congr 1
  exact decide_eq_decide.2 (by omega)
theorem isKid_short {k : Str} (h : ¬ (5 : Int) ≤ (k.length : Int)) : MS.isKid k = false := by
  unfold MS.isKid
  rw [decide_eq_false (by omega)]; rfl
theorem isKid_short' {k : Str} (h : (k.length : Int) < 5) : MS.isKid k = false := isKid_short (by omega)
theorem isKid_yes {k : Str} (h : (5 : Int) ≤ (k.length : Int)) (h2 : k.drop (k.length - 2) = [47, 112]) : MS.isKid k = true := by
  unfold MS.isKid
  rw [decide_eq_true (by omega), decide_eq_true h2]; rfl
theorem isKid_no {k : Str} (h2 : ¬ k.drop (k.length - 2) = [47, 112]) : MS.isKid k = false := by
  unfold MS.isKid
  rw [decide_eq_false h2, Bool.and_false]
theorem cutSuf_kid {k u : Str} {b : Bool} (h : cutSuf k [47, 112] = (u, b)) (h5 : (5 : Int) ≤ (k.length : Int)) : MS.isKid k = b := by
  unfold cutSuf suffixB at h
  simp only [List.length_cons, List.length_nil] at h
  rw [decide_eq_true (by omega), Bool.true_and] at h
  by_cases h2 : k.drop (k.length - (0 + 1 + 1)) = [47, 112]
  · rw [isKid_yes h5 h2]
    simp [h2] at h
    exact h.2.symm
  · rw [isKid_no h2]
    simp [h2] at h
    exact h.2.symm
theorem cutSuf_kidT {k u : Str} (h : cutSuf k [47, 112] = (u, true)) (h5 : (5 : Int) ≤ (k.length : Int)) : k.take (k.length - 2) = u ∧ 3 ≤ u.length := by
  unfold cutSuf at h
  split at h
  · simp only [Prod.mk.injEq, and_true] at h
    refine ⟨h, ?_⟩
    rw [← h, List.length_take]
    simp only [List.length_cons, List.length_nil]
    omega
  · simp at h
theorem drop_take2 (k : Str) (n : Nat) : (k.take n).drop 2 = (k.drop 2).take (n - 2) := by rw [List.drop_take]
end Go.Proofs.YthdgcbdfcclgbaaGreatDoor
